import PyProof.Rows.All
import Wide.All
import OpenK.AllK
import Wide.FinOn
import HandS.ForMost
import HandS.ForExc
import HandS.Evl
import HandS.Flt
import HandS.Wide
import HandS.WideBits
import HandS.Defaults
import HandS.Style
import HandS.TupLe
import HandS.IsInst
import HandS.HeadEnd
import HandS.HeadHook1
import HandS.HeadHook2
import HandS.Head0
import HandS.Head1
import HandS.Head2
import PySem.Challenge.RW_spanshelf_k01_spans
set_option Elab.async false
set_option linter.all false
set_option maxRecDepth 100000
set_option maxHeartbeats 4000000
/-! The data layer: what readings make of plain data (D) and of cells (mutable lists, instances, dicts by number), heaps hidden. -/
namespace DL
open PySem PySem.Spec PyProof.Rows L2

inductive D where
  | non | bl (b : Bool) | int (i : Int) | str (x : Str) | lst (xs : List D) | tup (xs : List D) | cell (k : Nat) | scr (ns : List Int)

inductive Cell where
  | lst (xs : List D)
  | ins (C : Addr) (fs : List (Str × D))
  | dK (kvs : List (Key × D))
  | gone
abbrev Store := List Cell
abbrev En := List (Option D)

def live (m : Store) (k : Nat) : Prop := ∃ c, m[k]? = some c ∧ c ≠ .gone

mutual
inductive Rep (K : PySem.W.Frag) (r : List Addr) (F : Hp) : V → D → Prop
  | non : Rep K r F .non .non
  | bl (b : Bool) : Rep K r F (.bl b) (.bl b)
  | int (i : Int) : Rep K r F (.int i) (.int i)
  | str (x : Str) : Rep K r F (.str x) (.str x)
  | lst {a : Addr} {xs : List V} {ds : List D} : F a = some (.lst xs) → RepAll K r F xs ds → Rep K r F (.ref a) (.lst ds)
  | tup {a : Addr} {xs : List V} {ds : List D} : F a = some (.tup xs) → RepAll K r F xs ds → Rep K r F (.ref a) (.tup ds)
  | cell {k : Nat} {a : Addr} : r[k]? = some a → Rep K r F (.ref a) (.cell k)
  | scr {a : Addr} {ns : List Int} : SqL K F a (ns.map V.int) → Rep K r F (.ref a) (.scr ns)
inductive RepAll (K : PySem.W.Frag) (r : List Addr) (F : Hp) : List V → List D → Prop
  | nil : RepAll K r F [] []
  | cons {v : V} {vs : List V} {d : D} {ds : List D} : Rep K r F v d → RepAll K r F vs ds → RepAll K r F (v :: vs) (d :: ds)
end

theorem sqT_same {K : PySem.W.Frag} {H H' : Hp} {a : Addr} {xs : List V} (e : Same H H') (h : SqT K H a xs) : SqT K H' a xs := by
  rcases h with (h | ⟨o, h⟩) | h
  · exact .inl (.inl (e _ _ h))
  · exact .inl (.inr ⟨o, e _ _ h⟩)
  · exact .inr h

def Pre (r r' : List Addr) : Prop := ∀ (k : Nat) a, r[k]? = some a → r'[k]? = some a
theorem Pre.refl (r : List Addr) : Pre r r := fun _ _ h => h
theorem Pre.trans {a b c : List Addr} (x : Pre a b) (y : Pre b c) : Pre a c := fun k z h => y k z (x k z h)
theorem Pre.app (r m : List Addr) : Pre r (r ++ m) := fun k a h => by
  have hk : k < r.length := (List.getElem?_eq_some_iff.mp h).1
  rw [List.getElem?_append_left hk]; exact h

section
variable {K : PySem.W.Frag} {r r' : List Addr} {F F' : Hp}
mutual
theorem Rep.mono (p : Pre r r') (e : Same F F') : ∀ {v : V} {d : D}, Rep K r F v d → Rep K r' F' v d
  | _, _, .non => .non
  | _, _, .bl b => .bl b
  | _, _, .int i => .int i
  | _, _, .str x => .str x
  | _, _, .lst s h => .lst (e _ _ s) (RepAll.mono p e h)
  | _, _, .tup s h => .tup (e _ _ s) (RepAll.mono p e h)
  | _, _, .cell h => .cell (p _ _ h)
  | _, _, .scr h => .scr (e.seq h)
theorem RepAll.mono (p : Pre r r') (e : Same F F') : ∀ {vs : List V} {ds : List D}, RepAll K r F vs ds → RepAll K r' F' vs ds
  | _, _, .nil => .nil
  | _, _, .cons h t => .cons (Rep.mono p e h) (RepAll.mono p e t)
end
end

mutual
/-- no cell stands in it -/
def D.pure : D → Bool
  | .lst xs => D.pures xs
  | .tup xs => D.pures xs
  | .cell _ => false
  | _ => true
def D.pures : List D → Bool
  | [] => true
  | d :: ds => D.pure d && D.pures ds
end
theorem pures_map {α : Type} {f : α → D} (h : ∀ x, (f x).pure = true) : ∀ xs : List α, D.pures (xs.map f) = true
  | [] => rfl
  | x :: xs => by
    show ((f x).pure && D.pures (xs.map f)) = true
    rw [h x, pures_map h xs]; rfl
section
variable {K : PySem.W.Frag} {r r' : List Addr} {F : Hp}
mutual
theorem Rep.pure : ∀ {v : V} {d : D}, d.pure = true → Rep K r F v d → Rep K r' F v d
  | _, _, _, .non => .non
  | _, _, _, .bl b => .bl b
  | _, _, _, .int i => .int i
  | _, _, _, .str x => .str x
  | _, _, p, .lst s h => .lst s (RepAll.pure p h)
  | _, _, p, .tup s h => .tup s (RepAll.pure p h)
  | _, _, p, .cell h => nomatch p
  | _, _, _, .scr h => .scr h
theorem RepAll.pure : ∀ {vs : List V} {ds : List D}, D.pures ds = true → RepAll K r F vs ds → RepAll K r' F vs ds
  | _, _, _, .nil => .nil
  | _, _, p, .cons h t =>
    have q : (D.pure _ && D.pures _) = true := p
    .cons (Rep.pure (Bool.and_eq_true_iff.mp q).1 h) (RepAll.pure (Bool.and_eq_true_iff.mp q).2 t)
end
end

section
variable {K : PySem.W.Frag} {r : List Addr} {F : Hp}
theorem RepAll.len : ∀ {vs : List V} {ds : List D}, RepAll K r F vs ds → vs.length = ds.length
  | _, _, .nil => rfl
  | _, _, .cons _ t => congrArg Nat.succ t.len
theorem RepAll.get : ∀ {vs : List V} {ds : List D} {i : Nat} {d : D}, RepAll K r F vs ds → ds[i]? = some d → ∃ v, vs[i]? = some v ∧ Rep K r F v d
  | _, _, _, _, .nil, e => by simp at e
  | _, _, 0, _, .cons h _, e => by simp at e; subst e; exact ⟨_, rfl, h⟩
  | _, _, i + 1, d, .cons _ t, e => by
    obtain ⟨u, h1, h2⟩ := RepAll.get (i := i) (d := d) t (by simpa using e)
    exact ⟨u, by simpa using h1, h2⟩
theorem RepAll.getV : ∀ {vs : List V} {ds : List D} {i : Nat} {v : V}, RepAll K r F vs ds → vs[i]? = some v → ∃ d, ds[i]? = some d ∧ Rep K r F v d
  | _, _, _, _, .nil, e => by simp at e
  | _, _, 0, _, .cons h _, e => by simp at e; subst e; exact ⟨_, rfl, h⟩
  | _, _, i + 1, d, .cons _ t, e => by
    obtain ⟨u, h1, h2⟩ := RepAll.getV (i := i) (v := d) t (by simpa using e)
    exact ⟨u, by simpa using h1, h2⟩
theorem RepAll.app : ∀ {vs ws : List V} {ds es : List D}, RepAll K r F vs ds → RepAll K r F ws es → RepAll K r F (vs ++ ws) (ds ++ es)
  | _, _, _, _, .nil, h => h
  | _, _, _, _, .cons h t, h' => .cons h (t.app h')
theorem RepAll.one {v : V} {d : D} (h : Rep K r F v d) : RepAll K r F [v] [d] := .cons h .nil
theorem RepAll.set {v : V} {d : D} (h : Rep K r F v d) : ∀ {vs : List V} {ds : List D} (i : Nat), RepAll K r F vs ds → RepAll K r F (vs.set i v) (ds.set i d)
  | _, _, _, .nil => .nil
  | _, _, 0, .cons _ t => .cons h t
  | _, _, i + 1, .cons q t => .cons q (RepAll.set h i t)
theorem RepAll.take : ∀ {vs : List V} {ds : List D} (n : Nat), RepAll K r F vs ds → RepAll K r F (vs.take n) (ds.take n)
  | _, _, 0, _ => .nil
  | _, _, _ + 1, .nil => .nil
  | _, _, n + 1, .cons h t => .cons h (RepAll.take n t)
theorem RepAll.drop : ∀ {vs : List V} {ds : List D} (n : Nat), RepAll K r F vs ds → RepAll K r F (vs.drop n) (ds.drop n)
  | _, _, 0, h => h
  | _, _, _ + 1, .nil => .nil
  | _, _, n + 1, .cons _ t => RepAll.drop n t
theorem RepAll.rev : ∀ {vs : List V} {ds : List D}, RepAll K r F vs ds → RepAll K r F vs.reverse ds.reverse
  | _, _, .nil => .nil
  | _, _, .cons h t => by rw [List.reverse_cons, List.reverse_cons]; exact (RepAll.rev t).app (.one h)
theorem RepAll.rep {v : V} {d : D} (h : Rep K r F v d) : ∀ n : Nat, RepAll K r F (List.replicate n v) (List.replicate n d)
  | 0 => .nil
  | n + 1 => .cons h (RepAll.rep h n)
theorem RepAll.ints : ∀ {vs : List V} {ns : List Int}, RepAll K r F vs (ns.map D.int) → vs = ns.map V.int
  | _, [], .nil => rfl
  | _, _ :: _, .cons h t => by cases h; rw [RepAll.ints t]; rfl
theorem RepAll.ofInts : ∀ (ns : List Int), RepAll K r F (ns.map V.int) (ns.map D.int)
  | [] => .nil
  | n :: ns => .cons (.int n) (RepAll.ofInts ns)
theorem RepAll.bls : ∀ {vs : List V} {ns : List Bool}, RepAll K r F vs (ns.map D.bl) → vs = ns.map V.bl
  | _, [], .nil => rfl
  | _, _ :: _, .cons h t => by cases h; rw [RepAll.bls t]; rfl
end

/-! ### the heap -/
def RepF (K : PySem.W.Frag) (r : List Addr) (F : Hp) : List (Str × V) → List (Str × D) → Prop
  | [], [] => True
  | (x, v) :: gs, (y, d) :: fs => x = y ∧ Rep K r F v d ∧ RepF K r F gs fs
  | _, _ => False
def RepK (K : PySem.W.Frag) (r : List Addr) (F : Hp) : List (Key × V) → List (Key × D) → Prop
  | [], [] => True
  | (x, v) :: gs, (y, d) :: fs => x = y ∧ Rep K r F v d ∧ RepK K r F gs fs
  | _, _ => False
section
variable {K : PySem.W.Frag} {r r' : List Addr} {F F' : Hp}
theorem RepF.mono (p : Pre r r') (e : Same F F') : ∀ {gs : List (Str × V)} {fs : List (Str × D)}, RepF K r F gs fs → RepF K r' F' gs fs
  | [], [], _ => trivial
  | (x, v) :: gs, (y, d) :: fs, h => ⟨h.1, h.2.1.mono p e, RepF.mono p e h.2.2⟩
  | [], _ :: _, h => h.elim
  | _ :: _, [], h => h.elim
theorem RepK.mono (p : Pre r r') (e : Same F F') : ∀ {gs : List (Key × V)} {fs : List (Key × D)}, RepK K r F gs fs → RepK K r' F' gs fs
  | [], [], _ => trivial
  | (x, v) :: gs, (y, d) :: fs, h => ⟨h.1, h.2.1.mono p e, RepK.mono p e h.2.2⟩
  | [], _ :: _, h => h.elim
  | _ :: _, [], h => h.elim
end

def CellOk (K : PySem.W.Frag) (r : List Addr) (F H : Hp) (a : Addr) : Cell → Prop
  | .lst xs => ∃ vs, H a = some (.lst vs) ∧ RepAll K r F vs xs
  | .ins C fs => ∃ dx gs, H a = some (.ins C dx gs) ∧ H dx = some (.own a) ∧ RepF K r F gs fs
  | .dK kvs => ∃ gs, H a = some (.dK gs) ∧ RepK K r F gs kvs
  | .gone => True

structure HR (K : PySem.W.Frag) (r : List Addr) (F H : Hp) (m : Store) : Prop where
  len : r.length = m.length
  sub : Same F H
  cell : ∀ (k : Nat) a c, r[k]? = some a → m[k]? = some c → c ≠ .gone → F a = none ∧ CellOk K r F H a c
  inj : ∀ (k l : Nat) a, r[k]? = some a → r[l]? = some a → live m k → live m l → k = l

structure Ext (r : List Addr) (F H : Hp) (m : Store) (r' : List Addr) (F' H' : Hp) (m' : Store) : Prop where
  pre : Pre r r'
  sub : Same F F'
  keep : ∀ a o, H a = some o → (∀ (k : Nat), live m k → r[k]? ≠ some a) → H' a = some o
  new : ∀ a, F a = none → F' a ≠ none → H a = none ∨ ∃ k : Nat, live m k ∧ r[k]? = some a
  fresh : ∀ (k : Nat) a, m.length ≤ k → r'[k]? = some a → H a = none
  dead : ∀ k : Nat, k < m.length → live m' k → live m k
  mlen : m.length ≤ m'.length
  trk : ∀ a o, H a = some o → ∃ o', H' a = some o'

theorem live_lt {m : Store} {k : Nat} (h : live m k) : k < m.length := by
  obtain ⟨c, h, _⟩ := h
  exact (List.getElem?_eq_some_iff.mp h).1

section
variable {K : PySem.W.Frag} {r r1 r2 : List Addr} {F H F1 H1 F2 H2 : Hp} {m m1 m2 : Store}
theorem HR.at_some (h : HR K r F H m) {k : Nat} {a : Addr} (l : live m k) (e : r[k]? = some a) : ∃ o, H a = some o := by
  obtain ⟨c, hc, ng⟩ := l
  have q := (h.cell k a c e hc ng).2
  cases c with
  | lst xs => obtain ⟨vs, q, _⟩ := q; exact ⟨_, q⟩
  | ins C fs => obtain ⟨_, _, q, _⟩ := q; exact ⟨_, q⟩
  | dK kvs => obtain ⟨_, q, _⟩ := q; exact ⟨_, q⟩
  | gone => exact absurd rfl ng
theorem Ext.refl (h : HR K r F H m) : Ext r F H m r F H m where
  pre := Pre.refl r
  sub := Same.refl F
  keep := fun _ _ e _ => e
  new := fun _ n e => absurd n e
  fresh := fun k a hk e => by
    have := (List.getElem?_eq_some_iff.mp e).1
    rw [h.len] at this
    exact absurd this (Nat.not_lt.mpr hk)
  dead := fun _ _ l => l
  mlen := Nat.le_refl _
  trk := fun _ o e => ⟨o, e⟩
theorem Ext.trans (hl : r1.length = m1.length) (hl0 : r.length = m.length) (x : Ext r F H m r1 F1 H1 m1) (y : Ext r1 F1 H1 m1 r2 F2 H2 m2) : Ext r F H m r2 F2 H2 m2 := by
  have back : ∀ a o, H a = some o → (∀ (k : Nat), live m k → r[k]? ≠ some a) → ∀ (k : Nat), live m1 k → r1[k]? ≠ some a := fun a o e n k l q => by
    by_cases hk : k < m.length
    · have l0 := x.dead k hk l
      have hr : k < r.length := by rw [hl0]; exact hk
      have e1 : r[k]? = some r[k] := List.getElem?_eq_getElem hr
      have e2 := x.pre k _ e1
      rw [q] at e2
      exact n k l0 (by rw [e1, ← e2])
    · have := x.fresh k a (Nat.not_lt.mp hk) q
      rw [e] at this; cases this
  refine ⟨x.pre.trans y.pre, x.sub.trans y.sub, fun a o e n => y.keep a o (x.keep a o e n) (back a o e n), fun a n e => ?_, fun k a hk e => ?_, fun k hk l => x.dead k hk (y.dead k (Nat.lt_of_lt_of_le hk x.mlen) l), Nat.le_trans x.mlen y.mlen, fun a o e => let ⟨o1, e1⟩ := x.trk a o e; y.trk a o1 e1⟩
  · cases q : F1 a with
    | some o => exact x.new a n (by rw [q]; exact fun z => nomatch z)
    | none =>
      rcases y.new a q e with z | ⟨k, l, z⟩
      · cases w : H a with
        | none => exact .inl rfl
        | some o =>
          by_cases hn : ∀ (k : Nat), live m k → r[k]? ≠ some a
          · rw [x.keep a o w hn] at z; cases z
          · refine .inr ?_
            have ⟨k, hk⟩ := Classical.not_forall.mp hn
            have ⟨l, hk⟩ := Classical.not_imp.mp hk
            exact ⟨k, l, Classical.not_not.mp hk⟩
      · by_cases hk : k < m.length
        · have l0 := x.dead k hk l
          have hr : k < r.length := by rw [hl0]; exact hk
          have e1 : r[k]? = some r[k] := List.getElem?_eq_getElem hr
          have e2 := x.pre k _ e1
          rw [z] at e2
          exact .inr ⟨k, l0, by rw [e1, ← e2]⟩
        · exact .inl (x.fresh k a (Nat.not_lt.mp hk) z)
  · by_cases hk1 : m1.length ≤ k
    · have := y.fresh k a hk1 e
      cases w : H a with
      | none => rfl
      | some o =>
        obtain ⟨o1, e1⟩ := x.trk a o w
        rw [e1] at this; cases this
    · have hr : k < r1.length := by rw [hl]; omega
      have e1 : r1[k]? = some r1[k] := List.getElem?_eq_getElem hr
      have e2 := y.pre k _ e1
      rw [e] at e2
      exact x.fresh k a hk (by rw [e1, ← e2])
end
end DL
namespace DL
open PySem PySem.Spec PyProof.Rows L2

section
variable {K : PySem.W.Frag} {r r' : List Addr} {F F' H H' : Hp} {m m' : Store}
theorem CellOk.mono (p : Pre r r') (e : Same F F') {a : Addr} : ∀ {c : Cell}, CellOk K r F H a c → CellOk K r' F' H a c
  | .lst xs, ⟨vs, h, q⟩ => ⟨vs, h, q.mono p e⟩
  | .ins C fs, ⟨dx, gs, h, h2, q⟩ => ⟨dx, gs, h, h2, q.mono p e⟩
  | .dK kvs, ⟨gs, h, q⟩ => ⟨gs, h, q.mono p e⟩
  | .gone, _ => trivial
/-- the heap around the cell's own object may change -/
theorem CellOk.heap {a : Addr} (k : ∀ b o, H b = some o → (b = a ∨ o = .own a) → H' b = some o) : ∀ {c : Cell}, CellOk K r F H a c → CellOk K r F H' a c
  | .lst xs, ⟨vs, h, q⟩ => ⟨vs, k _ _ h (.inl rfl), q⟩
  | .ins C fs, ⟨dx, gs, h, h2, q⟩ => ⟨dx, gs, k _ _ h (.inl rfl), k _ _ h2 (.inr rfl), q⟩
  | .dK kvs, ⟨gs, h, q⟩ => ⟨gs, k _ _ h (.inl rfl), q⟩
  | .gone, _ => trivial

theorem HR.ne_new (h : HR K r F H m) {p : Addr} (hp : H p = none) {k : Nat} {a : Addr} (l : live m k) (e : r[k]? = some a) : a ≠ p := by
  obtain ⟨o, q⟩ := h.at_some l e
  exact ne_of_none q hp
/-- new data at a new place -/
theorem HR.laid (h : HR K r F H m) {p : Addr} {o : HO} (hp : H p = none) : HR K r (upd F p o) (upd H p o) m := by
  have fp : F p = none := h.sub.free hp
  have s1 : Same F (upd F p o) := fun b u e => by rw [upd_ne (ne_of_none e fp)]; exact e
  refine ⟨h.len, fun b u e => ?_, fun k a c e1 e2 ng => ?_, h.inj⟩
  · by_cases hb : b = p
    · subst hb; rw [upd_same] at e ⊢; exact e
    · rw [upd_ne hb] at e ⊢; exact h.sub b u e
  · have ne : a ≠ p := h.ne_new hp ⟨c, e2, ng⟩ e1
    obtain ⟨q1, q2⟩ := h.cell k a c e1 e2 ng
    refine ⟨by rw [upd_ne ne]; exact q1, (q2.mono (Pre.refl r) s1).heap fun b o' hb _ => ?_⟩
    rw [upd_ne (ne_of_none hb hp)]; exact hb
theorem Ext.laid (h : HR K r F H m) {p : Addr} {o : HO} (hp : H p = none) : Ext r F H m r (upd F p o) (upd H p o) m where
  pre := Pre.refl r
  sub := fun b u e => by rw [upd_ne (ne_of_none e (h.sub.free hp))]; exact e
  keep := fun a u e _ => by rw [upd_ne (ne_of_none e hp)]; exact e
  new := fun a n e => by
    by_cases ha : a = p
    · subst ha; exact .inl hp
    · rw [upd_ne ha] at e; exact absurd n e
  fresh := fun k a hk e => (Ext.refl h).fresh k a hk e
  dead := fun _ _ l => l
  mlen := Nat.le_refl _
  trk := fun a u e => ⟨u, by rw [upd_ne (ne_of_none e hp)]; exact e⟩
/-- a new place that is tracked, neither data nor cell -/
theorem HR.side (h : HR K r F H m) {p : Addr} {o : HO} (hp : H p = none) : HR K r F (upd H p o) m := by
  refine ⟨h.len, fun b u e => ?_, fun k a c e1 e2 ng => ?_, h.inj⟩
  · rw [upd_ne (ne_of_none (h.sub b u e) hp)]; exact h.sub b u e
  · obtain ⟨q1, q2⟩ := h.cell k a c e1 e2 ng
    exact ⟨q1, q2.heap fun b o' hb _ => by rw [upd_ne (ne_of_none hb hp)]; exact hb⟩
theorem Ext.side (h : HR K r F H m) {p : Addr} {o : HO} (hp : H p = none) : Ext r F H m r F (upd H p o) m where
  pre := Pre.refl r
  sub := Same.refl F
  keep := fun a u e _ => by rw [upd_ne (ne_of_none e hp)]; exact e
  new := fun a n e => absurd n e
  fresh := fun k a hk e => (Ext.refl h).fresh k a hk e
  dead := fun _ _ l => l
  mlen := Nat.le_refl _
  trk := fun a u e => ⟨u, by rw [upd_ne (ne_of_none e hp)]; exact e⟩
/-- a side place (neither data nor cell) changes -/
theorem HR.sideSet (h : HR K r F H m) {p : Addr} {o : HO} (fp : F p = none) (np : ∀ (k : Nat), live m k → r[k]? ≠ some p) (no : ∀ b, H p ≠ some (.own b)) : HR K r F (upd H p o) m := by
  refine ⟨h.len, fun b u e => ?_, fun k a c e1 e2 ng => ?_, h.inj⟩
  · rw [upd_ne (ne_of_none e fp)]; exact h.sub b u e
  · obtain ⟨q1, q2⟩ := h.cell k a c e1 e2 ng
    have na : a ≠ p := fun z => np k ⟨c, e2, ng⟩ (by rw [e1, z])
    refine ⟨q1, q2.heap fun b o' hb w => ?_⟩
    have : b ≠ p := by
      rintro rfl
      rcases w with w | w
      · exact na w.symm
      · subst w; exact no _ hb
    rw [upd_ne this]; exact hb
/-- what stands apart becomes data -/
theorem HR.freeze (h : HR K r F H m) {p : Addr} {o : HO} (fp : F p = none) (np : ∀ (k : Nat), live m k → r[k]? ≠ some p) (hp : H p = some o) : HR K r (upd F p o) H m := by
  have s1 : Same F (upd F p o) := fun b u e => by rw [upd_ne (ne_of_none e fp)]; exact e
  refine ⟨h.len, fun b u e => ?_, fun k a c e1 e2 ng => ?_, h.inj⟩
  · by_cases hb : b = p
    · subst hb; rw [upd_same] at e; rw [hp]; exact e
    · rw [upd_ne hb] at e; exact h.sub b u e
  · have na : a ≠ p := fun z => np k ⟨c, e2, ng⟩ (by rw [e1, z])
    obtain ⟨q1, q2⟩ := h.cell k a c e1 e2 ng
    exact ⟨by rw [upd_ne na]; exact q1, q2.mono (Pre.refl r) s1⟩
/-- .. becomes a cell -/
theorem live_app {m : Store} {c : Cell} {k : Nat} (l : live (m ++ [c]) k) : live m k ∨ k = m.length := by
  obtain ⟨c', e, ng⟩ := l
  by_cases hk : k < m.length
  · rw [List.getElem?_append_left hk] at e; exact .inl ⟨c', e, ng⟩
  · have : k < (m ++ [c]).length := (List.getElem?_eq_some_iff.mp e).1
    rw [List.length_append] at this
    have : k < m.length + 1 := this
    exact .inr (by omega)
theorem HR.toCell (h : HR K r F H m) {p : Addr} {c : Cell} (fp : F p = none) (np : ∀ (k : Nat), live m k → r[k]? ≠ some p) (hc : CellOk K r F H p c) : HR K (r ++ [p]) F H (m ++ [c]) := by
  have pr : Pre r (r ++ [p]) := Pre.app r [p]
  have last : (r ++ [p])[m.length]? = some p := by rw [← h.len]; simp
  have low : ∀ (k : Nat) a, k < m.length → (r ++ [p])[k]? = some a → r[k]? = some a := fun k a hk e => by
    rw [List.getElem?_append_left (by rw [h.len]; exact hk)] at e; exact e
  refine ⟨by simp [h.len], h.sub, fun k a c' e1 e2 ng => ?_, fun k l a e1 e2 l1 l2 => ?_⟩
  · rcases live_app ⟨c', e2, ng⟩ with l | rfl
    · have hk := live_lt l
      rw [List.getElem?_append_left hk] at e2
      obtain ⟨q1, q2⟩ := h.cell k a c' (low k a hk e1) e2 ng
      exact ⟨q1, q2.mono pr (Same.refl F)⟩
    · rw [last] at e1; cases e1
      have : (m ++ [c])[m.length]? = some c := by simp
      rw [this] at e2; cases e2
      exact ⟨fp, hc.mono pr (Same.refl F)⟩
  · rcases live_app l1 with z1 | rfl
    · have k1 := low k a (live_lt z1) e1
      rcases live_app l2 with z2 | rfl
      · exact h.inj k l a k1 (low l a (live_lt z2) e2) z1 z2
      · rw [last] at e2; cases e2; exact absurd k1 (np k z1)
    · rw [last] at e1; cases e1
      rcases live_app l2 with z2 | rfl
      · exact absurd (low l _ (live_lt z2) e2) (np l z2)
      · rfl
/-- a cell is written -/
theorem live_set {m : Store} {k l : Nat} {c : Cell} (hk : live m k) (h : live (m.set k c) l) : live m l := by
  by_cases e : k = l
  · subst e; exact hk
  · obtain ⟨c', e1, ng⟩ := h
    rw [List.getElem?_set_ne e] at e1
    exact ⟨c', e1, ng⟩
theorem HR.put (h : HR K r F H m) {k : Nat} {a : Addr} {c : Cell} {o : HO} (l : live m k) (e : r[k]? = some a) (no : ∀ b, H a ≠ some (.own b)) (hc : CellOk K r F (upd H a o) a c) : HR K r F (upd H a o) (m.set k c) := by
  obtain ⟨c0, e0, ng0⟩ := l
  have fa := (h.cell k a c0 e e0 ng0).1
  have hkl : k < m.length := live_lt ⟨c0, e0, ng0⟩
  refine ⟨by simp [h.len], fun b u q => ?_, fun l b c' e1 e2 ng => ?_, fun i j b e1 e2 l1 l2 => h.inj i j b e1 e2 (live_set ⟨c0, e0, ng0⟩ l1) (live_set ⟨c0, e0, ng0⟩ l2)⟩
  · rw [upd_ne (ne_of_none q fa)]; exact h.sub b u q
  · by_cases hl : k = l
    · subst hl
      rw [e] at e1; cases e1
      rw [List.getElem?_set_self hkl] at e2; cases e2
      exact ⟨fa, hc⟩
    · rw [List.getElem?_set_ne hl] at e2
      obtain ⟨q1, q2⟩ := h.cell l b c' e1 e2 ng
      have nb : b ≠ a := fun z => hl (h.inj k l a e (by rw [e1, z]) ⟨c0, e0, ng0⟩ ⟨c', e2, ng⟩)
      refine ⟨q1, q2.heap fun x o' hx w => ?_⟩
      have : x ≠ a := by
        rintro rfl
        rcases w with w | w
        · exact nb w.symm
        · subst w; exact no _ hx
      rw [upd_ne this]; exact hx
theorem Ext.put (h : HR K r F H m) {k : Nat} {a : Addr} {c : Cell} {o : HO} (l : live m k) (e : r[k]? = some a) : Ext r F H m r F (upd H a o) (m.set k c) where
  pre := Pre.refl r
  sub := Same.refl F
  keep := fun b u q n => by rw [upd_ne (fun z => n k l (by rw [e, z]))]; exact q
  new := fun a n e => absurd n e
  fresh := fun k a hk e => (Ext.refl h).fresh k a hk e
  dead := fun j _ z => live_set l z
  mlen := by simp
  trk := fun b u q => by
    by_cases hb : b = a
    · subst hb; exact ⟨_, upd_same⟩
    · exact ⟨u, by rw [upd_ne hb]; exact q⟩
/-- behind the work a place that was new becomes data, or a cell -/
theorem Ext.freeze (x : Ext r F H m r' F' H' m') {p : Addr} {o : HO} (fp : F' p = none) (n : H p = none) : Ext r F H m r' (upd F' p o) H' m' where
  pre := x.pre
  sub := fun b u e => by rw [upd_ne (ne_of_none (x.sub b u e) fp)]; exact x.sub b u e
  keep := x.keep
  new := fun a n' e => by
    by_cases ha : a = p
    · subst ha; exact .inl n
    · rw [upd_ne ha] at e; exact x.new a n' e
  fresh := x.fresh
  dead := x.dead
  mlen := x.mlen
  trk := x.trk
theorem Ext.toCell (x : Ext r F H m r' F' H' m') (hl : r'.length = m'.length) {p : Addr} {c : Cell} (n : H p = none) : Ext r F H m (r' ++ [p]) F' H' (m' ++ [c]) where
  pre := x.pre.trans (Pre.app _ _)
  sub := x.sub
  keep := x.keep
  new := x.new
  fresh := fun k a hk e => by
    by_cases hk1 : k < r'.length
    · rw [List.getElem?_append_left hk1] at e; exact x.fresh k a hk e
    · rw [List.getElem?_append_right (by omega)] at e
      have : a = p := by
        cases q : k - r'.length with
        | zero => rw [q] at e; simp at e; exact e.symm
        | succ j => rw [q] at e; simp at e
      rw [this]; exact n
  dead := fun k hk l => by
    rcases live_app l with z | rfl
    · exact x.dead k hk z
    · exact absurd x.mlen (by omega)
  mlen := by simp; exact Nat.le_succ_of_le x.mlen
  trk := x.trk
end

/-! ### the judgements -/
def ER (K : PySem.W.Frag) (r : List Addr) (F : Hp) (σ : L2.St) (δ : En) : Prop := σ.length = δ.length ∧ ∀ (i : Nat) d, δ[i]? = some (some d) → ∃ v, σ[i]? = some (some v) ∧ Rep K r F v d
theorem ER.mono {K : PySem.W.Frag} {r r' : List Addr} {F F' : Hp} {σ : L2.St} {δ : En} (p : Pre r r') (e : Same F F') (h : ER K r F σ δ) : ER K r' F' σ δ := ⟨h.1, fun i d q => let ⟨v, a, b⟩ := h.2 i d q; ⟨v, a, b.mono p e⟩⟩
theorem ER.ext {K : PySem.W.Frag} {r r' : List Addr} {F F' H H' : Hp} {m m' : Store} {σ : L2.St} {δ : En} (x : Ext r F H m r' F' H' m') (h : ER K r F σ δ) : ER K r' F' σ δ := h.mono x.pre x.sub
theorem ER.set {K : PySem.W.Frag} {r : List Addr} {F : Hp} {σ : L2.St} {δ : En} {v : V} {d : D} (h : ER K r F σ δ) (i : Nat) (q : Rep K r F v d) : ER K r F (σ.set i (some v)) (δ.set i (some d)) := by
  refine ⟨by simp [h.1], fun j e he => ?_⟩
  by_cases hj : i = j
  · subst hj
    have hl : i < (δ.set i (some d)).length := (List.getElem?_eq_some_iff.mp he).1
    rw [List.length_set] at hl
    rw [List.getElem?_set_self hl] at he
    cases he
    exact ⟨v, by rw [List.getElem?_set_self (by rw [h.1]; exact hl)], q⟩
  · rw [List.getElem?_set_ne hj] at he ⊢
    exact h.2 j e he
/-- what is forgotten -/
def Weak (δ δ' : En) : Prop := δ.length = δ'.length ∧ ∀ (i : Nat) d, δ'[i]? = some (some d) → δ[i]? = some (some d)
theorem ER.weak {K : PySem.W.Frag} {r : List Addr} {F : Hp} {σ : L2.St} {δ δ' : En} (h : ER K r F σ δ) (w : Weak δ δ') : ER K r F σ δ' := ⟨h.1.trans w.1, fun i d q => h.2 i d (w.2 i d q)⟩

theorem le5 {n : Nat} (h : Nat.ble n 100000 = true) : n ≤ 100000 := Nat.le_of_ble_eq_true h
abbrev Post1 (K : PySem.W.Frag) (r : List Addr) (F H : Hp) (m : Store) (d : D) (m' : Store) (Q : VK) : Prop := ∀ v r' F' H', HR K r' F' H' m' → Ext r F H m r' F' H' m' → Rep K r' F' v d → Q v H'
/-- a new list that nothing else holds -/
abbrev PostN (K : PySem.W.Frag) (r : List Addr) (F H : Hp) (m : Store) (ds : List D) (m' : Store) (Q : VK) : Prop := ∀ p vs r' F' H', HR K r' F' H' m' → Ext r F H m r' F' H' m' → H p = none → F' p = none → (∀ (k : Nat), live m' k → r'[k]? ≠ some p) → H' p = some (.lst vs) → RepAll K r' F' vs ds → Q (.ref p) H'
def YE (K : PySem.W.Frag) (t : TE) (δ : En) (m : Store) (d : D) (m' : Store) : Prop := ∀ r F H σ, HR K r F H m → ER K r F σ δ → ∀ Q : VK, Post1 K r F H m d m' Q → t σ H Q
def YN (K : PySem.W.Frag) (t : TE) (δ : En) (m : Store) (ds : List D) (m' : Store) : Prop := ∀ r F H σ, HR K r F H m → ER K r F σ δ → ∀ Q : VK, PostN K r F H m ds m' Q → t σ H Q
def YT (K : PySem.W.Frag) (t : TT) (δ : En) (m : Store) (b : Bool) (m' : Store) : Prop := ∀ r F H σ, HR K r F H m → ER K r F σ δ → ∀ Q : Bool → Hp → Prop, (∀ r' F' H', HR K r' F' H' m' → Ext r F H m r' F' H' m' → Q b H') → t σ H Q
def YA (K : PySem.W.Frag) (t : TA) (δ : En) (m : Store) (ds : List D) (m' : Store) : Prop := ∀ r F H σ, HR K r F H m → ER K r F σ δ → ∀ Q : List V → Hp → Prop, (∀ vs r' F' H', HR K r' F' H' m' → Ext r F H m r' F' H' m' → RepAll K r' F' vs ds → Q vs H') → t σ H Q
def YO (K : PySem.W.Frag) (t : TO) (δ : En) (m : Store) (o : Option Int) (m' : Store) : Prop := ∀ r F H σ, HR K r F H m → ER K r F σ δ → ∀ Q : Option Int → Hp → Prop, (∀ r' F' H', HR K r' F' H' m' → Ext r F H m r' F' H' m' → Q o H') → t σ H Q
/-- on values -/
def Y2 (K : PySem.W.Frag) (rr : R2) (d e : D) (m : Store) (z : D) (m' : Store) : Prop := ∀ r F H x y, HR K r F H m → Rep K r F x d → Rep K r F y e → ∀ Q : VK, Post1 K r F H m z m' Q → rr x y H Q
def Y2N (K : PySem.W.Frag) (rr : R2) (d e : D) (m : Store) (zs : List D) (m' : Store) : Prop := ∀ r F H x y, HR K r F H m → Rep K r F x d → Rep K r F y e → ∀ Q : VK, PostN K r F H m zs m' Q → rr x y H Q
def Y1 (K : PySem.W.Frag) (rr : V → Hp → VK → Prop) (d : D) (m : Store) (z : D) (m' : Store) : Prop := ∀ r F H x, HR K r F H m → Rep K r F x d → ∀ Q : VK, Post1 K r F H m z m' Q → rr x H Q
def YC (K : PySem.W.Frag) (rr : List V → Hp → VK → Prop) (ds : List D) (m : Store) (z : D) (m' : Store) : Prop := ∀ r F H vs, HR K r F H m → RepAll K r F vs ds → ∀ Q : VK, Post1 K r F H m z m' Q → rr vs H Q
def YCN (K : PySem.W.Frag) (rr : List V → Hp → VK → Prop) (ds : List D) (m : Store) (zs : List D) (m' : Store) : Prop := ∀ r F H vs, HR K r F H m → RepAll K r F vs ds → ∀ Q : VK, PostN K r F H m zs m' Q → rr vs H Q
def YM (K : PySem.W.Frag) (T : String) (rr : V → List V → Hp → VK → Prop) (d : D) (ds : List D) (m : Store) (z : D) (m' : Store) : Prop := ∀ r F H x vs, HR K r F H m → Rep K r F x d → RepAll K r F vs ds → ∀ Q : VK, Post1 K r F H m z m' Q → rr x vs H Q
def YMN (K : PySem.W.Frag) (T : String) (rr : V → List V → Hp → VK → Prop) (d : D) (ds : List D) (m : Store) (zs : List D) (m' : Store) : Prop := ∀ r F H x vs, HR K r F H m → Rep K r F x d → RepAll K r F vs ds → ∀ Q : VK, PostN K r F H m zs m' Q → rr x vs H Q

section
variable {K : PySem.W.Frag} {t ta tb tc : TE} {tt tu : TT} {tas : TA} {δ : En} {m m1 m2 m3 : Store} {d d1 d2 d3 : D} {ds : List D} {rr : R2}
/-- a new list taken as data, as a cell -/
theorem YN.data (h : YN K t δ m ds m1) : YE K t δ m (.lst ds) m1 := fun r F H σ hr er Q q => h r F H σ hr er Q fun p vs r' F' H' hr' x np fp nc hp ra => by
  have s1 : Same F' (upd F' p (.lst vs)) := fun b u e => by rw [upd_ne (ne_of_none e fp)]; exact e
  refine q (.ref p) r' (upd F' p (.lst vs)) H' (hr'.freeze fp nc hp) (x.freeze fp np) (.lst upd_same (ra.mono (Pre.refl _) s1))
theorem YN.cell (h : YN K t δ m ds m1) : YE K t δ m (.cell m1.length) (m1 ++ [.lst ds]) := fun r F H σ hr er Q q => h r F H σ hr er Q fun p vs r' F' H' hr' x np fp nc hp ra => by
  refine q (.ref p) (r' ++ [p]) F' H' (hr'.toCell fp nc ⟨vs, hp, ra⟩) (x.toCell hr'.len np) (.cell ?_)
  rw [← hr'.len]; simp
theorem ye_var {i : Nat} (h : δ[i]? = some (some d)) : YE K (tVar i) δ m d m := fun r F H σ hr er Q q => by
  obtain ⟨v, e, p⟩ := er.2 i d h
  exact ⟨v, e, q v r F H hr (Ext.refl hr) p⟩
theorem ye_int {i : Int} : YE K (tC (.int i)) δ m (.int i) m := fun r F H σ hr er Q q => q _ r F H hr (Ext.refl hr) (.int i)
theorem ye_bl {b : Bool} : YE K (tC (.bl b)) δ m (.bl b) m := fun r F H σ hr er Q q => q _ r F H hr (Ext.refl hr) (.bl b)
theorem ye_non : YE K (tC .non) δ m .non m := fun r F H σ hr er Q q => q _ r F H hr (Ext.refl hr) .non
theorem ye_str {x : Str} : YE K (tC (.str x)) δ m (.str x) m := fun r F H σ hr er Q q => q _ r F H hr (Ext.refl hr) (.str x)
theorem ye_op (ha : YE K ta δ m d1 m1) (hb : YE K tb δ m1 d2 m2) (h2 : Y2 K rr d1 d2 m2 d3 m3) : YE K (tOp rr ta tb) δ m d3 m3 := fun r F H σ hr er Q q =>
  ha r F H σ hr er _ fun x r1 F1 H1 hr1 x1 p1 => hb r1 F1 H1 σ hr1 (er.ext x1) _ fun y r2 F2 H2 hr2 x2 p2 =>
    h2 r2 F2 H2 x y hr2 (p1.mono x2.pre x2.sub) p2 Q fun v r3 F3 H3 hr3 x3 p3 => q v r3 F3 H3 hr3 ((x1.trans hr1.len hr.len x2).trans hr2.len hr.len x3) p3
theorem yn_op {zs : List D} (ha : YE K ta δ m d1 m1) (hb : YE K tb δ m1 d2 m2) (h2 : Y2N K rr d1 d2 m2 zs m3) : YN K (tOp rr ta tb) δ m zs m3 := fun r F H σ hr er Q q =>
  ha r F H σ hr er _ fun x r1 F1 H1 hr1 x1 p1 => hb r1 F1 H1 σ hr1 (er.ext x1) _ fun y r2 F2 H2 hr2 x2 p2 =>
    h2 r2 F2 H2 x y hr2 (p1.mono x2.pre x2.sub) p2 Q fun p vs r3 F3 H3 hr3 x3 np fp nc hp ra => q p vs r3 F3 H3 hr3 ((x1.trans hr1.len hr.len x2).trans hr2.len hr.len x3) (by
      cases e : H p with
      | none => rfl
      | some o =>
        obtain ⟨o', e'⟩ := (x1.trans hr1.len hr.len x2).trk p o e
        rw [e'] at np; cases np) fp nc hp ra
theorem ye_un {ru : V → Hp → VK → Prop} (ha : YE K ta δ m d1 m1) (h1 : Y1 K ru d1 m1 d2 m2) : YE K (tUn ru ta) δ m d2 m2 := fun r F H σ hr er Q q =>
  ha r F H σ hr er _ fun x r1 F1 H1 hr1 x1 p1 => h1 r1 F1 H1 x hr1 p1 Q fun v r2 F2 H2 hr2 x2 p2 => q v r2 F2 H2 hr2 (x1.trans hr1.len hr.len x2) p2
theorem ya_nil : YA K tNil δ m [] m := fun r F H σ hr er Q q => q [] r F H hr (Ext.refl hr) .nil
theorem ya_cons (ha : YE K ta δ m d m1) (hs : YA K tas δ m1 ds m2) : YA K (tCons ta tas) δ m (d :: ds) m2 := fun r F H σ hr er Q q =>
  ha r F H σ hr er _ fun x r1 F1 H1 hr1 x1 p1 => hs r1 F1 H1 σ hr1 (er.ext x1) _ fun vs r2 F2 H2 hr2 x2 p2 => q _ r2 F2 H2 hr2 (x1.trans hr1.len hr.len x2) (.cons (p1.mono x2.pre x2.sub) p2)
theorem ye_cb {rc : List V → Hp → VK → Prop} (ha : YA K tas δ m ds m1) (hc : YC K rc ds m1 d m2) : YE K (tCB rc tas) δ m d m2 := fun r F H σ hr er Q q =>
  ha r F H σ hr er _ fun vs r1 F1 H1 hr1 x1 p1 => hc r1 F1 H1 vs hr1 p1 Q fun v r2 F2 H2 hr2 x2 p2 => q v r2 F2 H2 hr2 (x1.trans hr1.len hr.len x2) p2
theorem trk_back {r r' : List Addr} {F H F' H' : Hp} {m m' : Store} (x : Ext r F H m r' F' H' m') {p : Addr} (np : H' p = none) : H p = none := by
  cases e : H p with
  | none => rfl
  | some o =>
    obtain ⟨o', e'⟩ := x.trk p o e
    rw [e'] at np; cases np
theorem yn_cb {rc : List V → Hp → VK → Prop} {zs : List D} (ha : YA K tas δ m ds m1) (hc : YCN K rc ds m1 zs m2) : YN K (tCB rc tas) δ m zs m2 := fun r F H σ hr er Q q =>
  ha r F H σ hr er _ fun vs r1 F1 H1 hr1 x1 p1 => hc r1 F1 H1 vs hr1 p1 Q fun p ws r2 F2 H2 hr2 x2 np fp nc hp ra => q p ws r2 F2 H2 hr2 (x1.trans hr1.len hr.len x2) (trk_back x1 np) fp nc hp ra
theorem ye_tup (ha : YA K tas δ m ds m1) (hl : ds.length ≤ 100000) : YE K (tTup tas) δ m (.tup ds) m1 := fun r F H σ hr er Q q =>
  ha r F H σ hr er _ fun vs r1 F1 H1 hr1 x1 p1 => ⟨Evl.sz_of (by rw [p1.len]; exact hl), fun p hp => q _ r1 _ _ (hr1.laid hp) (x1.trans hr1.len hr.len (Ext.laid hr1 hp)) (.tup upd_same (p1.mono (Pre.refl _) (Ext.laid hr1 hp).sub))⟩
theorem yn_lst (ha : YA K tas δ m ds m1) (hl : ds.length ≤ 100000) : YN K (tLst tas) δ m ds m1 := fun r F H σ hr er Q q =>
  ha r F H σ hr er _ fun vs r1 F1 H1 hr1 x1 p1 => ⟨Evl.sz_of (by rw [p1.len]; exact hl), fun p hp => q p vs r1 F1 _ (hr1.side hp) (x1.trans hr1.len hr.len (Ext.side hr1 hp)) (trk_back x1 hp) (hr1.sub.free hp) (fun k l e => (hr1.ne_new hp l e) rfl) upd_same p1⟩
theorem ye_andV {a b : Bool} (h1 : YE K ta δ m (.bl a) m1) (h2 : a = true → YE K tb δ m1 (.bl b) m1) : YE K (tAndV ta tb) δ m (.bl (a && b)) m1 := fun r F H σ hr er Q q =>
  h1 r F H σ hr er _ fun x r1 F1 H1 hr1 x1 p1 => by
    cases p1
    refine ⟨a, rfl, ?_⟩
    cases a with
    | true => exact h2 rfl r1 F1 H1 σ hr1 (er.ext x1) Q fun v r2 F2 H2 hr2 x2 p2 => q v r2 F2 H2 hr2 (x1.trans hr1.len hr.len x2) p2
    | false => exact q _ r1 F1 H1 hr1 x1 (.bl _)
theorem ye_orV {a b : Bool} (h1 : YE K ta δ m (.bl a) m1) (h2 : a = false → YE K tb δ m1 (.bl b) m1) : YE K (tOrV ta tb) δ m (.bl (a || b)) m1 := fun r F H σ hr er Q q =>
  h1 r F H σ hr er _ fun x r1 F1 H1 hr1 x1 p1 => by
    cases p1
    refine ⟨a, rfl, ?_⟩
    cases a with
    | false => exact h2 rfl r1 F1 H1 σ hr1 (er.ext x1) Q fun v r2 F2 H2 hr2 x2 p2 => q v r2 F2 H2 hr2 (x1.trans hr1.len hr.len x2) p2
    | true => exact q _ r1 F1 H1 hr1 x1 (.bl _)
theorem ye_notV {a : Bool} (h1 : YE K ta δ m (.bl a) m1) : YE K (tNotV ta) δ m (.bl (!a)) m1 := fun r F H σ hr er Q q =>
  h1 r F H σ hr er _ fun x r1 F1 H1 hr1 x1 p1 => by
    cases p1
    exact ⟨a, rfl, q _ r1 F1 H1 hr1 x1 (.bl _)⟩
theorem yt_test {a : Bool} (h1 : YE K ta δ m (.bl a) m1) : YT K (tTest ta) δ m a m1 := fun r F H σ hr er Q q =>
  h1 r F H σ hr er _ fun x r1 F1 H1 hr1 x1 p1 => by
    cases p1
    exact ⟨a, rfl, q r1 F1 H1 hr1 x1⟩
theorem yt_B {a : Bool} (h1 : YE K ta δ m (.bl a) m1) : YT K (tB ta) δ m a m1 := fun r F H σ hr er Q q =>
  h1 r F H σ hr er _ fun x r1 F1 H1 hr1 x1 p1 => by
    cases p1
    exact ⟨a, rfl, q r1 F1 H1 hr1 x1⟩
/-- and, or in tests: the second side's store by what the first tells -/
theorem yt_and {a b : Bool} (h1 : YT K tt δ m a m1) (h2 : a = true → YT K tu δ m1 b m2) (hf : a = false → m1 = m2) : YT K (tAnd tt tu) δ m (a && b) m2 := fun r F H σ hr er Q q =>
  h1 r F H σ hr er _ fun r1 F1 H1 hr1 x1 => by
    cases a with
    | true => exact h2 rfl r1 F1 H1 σ hr1 (er.ext x1) Q fun r2 F2 H2 hr2 x2 => q r2 F2 H2 hr2 (x1.trans hr1.len hr.len x2)
    | false => cases hf rfl; exact q r1 F1 H1 hr1 x1
theorem yt_or {a b : Bool} (h1 : YT K tt δ m a m1) (h2 : a = false → YT K tu δ m1 b m2) (hf : a = true → m1 = m2) : YT K (tOr tt tu) δ m (a || b) m2 := fun r F H σ hr er Q q =>
  h1 r F H σ hr er _ fun r1 F1 H1 hr1 x1 => by
    cases a with
    | false => exact h2 rfl r1 F1 H1 σ hr1 (er.ext x1) Q fun r2 F2 H2 hr2 x2 => q r2 F2 H2 hr2 (x1.trans hr1.len hr.len x2)
    | true => cases hf rfl; exact q r1 F1 H1 hr1 x1
theorem yt_not {a : Bool} (h1 : YT K tt δ m a m1) : YT K (tNot tt) δ m (!a) m1 := fun r F H σ hr er Q q =>
  h1 r F H σ hr er _ fun r1 F1 H1 hr1 x1 => q r1 F1 H1 hr1 x1
theorem ye_if {b : Bool} (h : YT K tt δ m b m1) (h1 : b = true → YE K ta δ m1 d m2) (h2 : b = false → YE K tb δ m1 d m2) : YE K (tIf tt ta tb) δ m d m2 := fun r F H σ hr er Q q =>
  h r F H σ hr er _ fun r1 F1 H1 hr1 x1 => by
    cases b with
    | true => exact h1 rfl r1 F1 H1 σ hr1 (er.ext x1) Q fun v r2 F2 H2 hr2 x2 p => q v r2 F2 H2 hr2 (x1.trans hr1.len hr.len x2) p
    | false => exact h2 rfl r1 F1 H1 σ hr1 (er.ext x1) Q fun v r2 F2 H2 hr2 x2 p => q v r2 F2 H2 hr2 (x1.trans hr1.len hr.len x2) p
theorem ye_chain {r1' r2' : R2} {a b : Bool} (ha : YE K ta δ m d1 m1) (hb : YE K tb δ m1 d2 m2) (h1 : Y2 K r1' d1 d2 m2 (.bl a) m2) (hc : a = true → YE K tc δ m2 d3 m2) (h2 : a = true → Y2 K r2' d2 d3 m2 (.bl b) m2) : YE K (tChain r1' r2' ta tb tc) δ m (.bl (a && b)) m2 := fun r F H σ hr er Q q =>
  ha r F H σ hr er _ fun x r1 F1 H1 hr1 x1 p1 => hb r1 F1 H1 σ hr1 (er.ext x1) _ fun y r2 F2 H2 hr2 x2 p2 =>
    h1 r2 F2 H2 x y hr2 (p1.mono x2.pre x2.sub) p2 _ fun z r3 F3 H3 hr3 x3 p3 => by
      cases p3
      have x13 := (x1.trans hr1.len hr.len x2).trans hr2.len hr.len x3
      refine ⟨a, rfl, ?_⟩
      cases a with
      | false => exact q _ r3 F3 H3 hr3 x13 (.bl _)
      | true =>
        show tc σ H3 fun w H4 => r2' y w H4 Q
        exact hc rfl r3 F3 H3 σ hr3 (er.ext x13) _ fun w r4 F4 H4 hr4 x4 p4 => h2 rfl r4 F4 H4 y w hr4 (p2.mono (x3.pre.trans x4.pre) (x3.sub.trans x4.sub)) p4 Q fun z r5 F5 H5 hr5 x5 p5 => q z r5 F5 H5 hr5 ((x13.trans hr3.len hr.len x4).trans hr4.len hr.len x5) p5
end
end DL
namespace DL
open PySem PySem.Spec PyProof.Rows L2

/-! ### data and PyData -/
mutual
def D.toPy : D → PyData
  | .non => .none
  | .bl b => .bool b
  | .int i => .int i
  | .str x => .str x
  | .lst xs => .list (D.toPys xs)
  | .tup xs => .tuple (D.toPys xs)
  | .cell _ => .none
  | .scr ns => .list (ns.map PyData.int)
def D.toPys : List D → List PyData
  | [] => []
  | d :: ds => D.toPy d :: D.toPys ds
end
theorem dp_ints {K : PySem.W.Frag} {H : Hp} : ∀ ns : List Int, DpAll K H (ns.map V.int) (ns.map PyData.int)
  | [] => .nil
  | n :: ns => .cons (.int n) (dp_ints ns)
section
variable {K : PySem.W.Frag} {r : List Addr} {F H : Hp}
mutual
theorem Rep.dp (s : Same F H) : ∀ {v : V} {d : D}, d.pure = true → Rep K r F v d → Dp K H v d.toPy
  | _, _, _, .non => .non
  | _, _, _, .bl b => .bl b
  | _, _, _, .int i => .int i
  | _, _, _, .str x => .str x
  | _, _, p, .lst h t => .lst (SqL.of (s _ _ h)) (RepAll.dp s p t)
  | _, _, p, .tup h t => .tup (SqT.of (s _ _ h)) (RepAll.dp s p t)
  | _, _, p, .cell h => nomatch p
  | _, _, _, .scr h => .lst (s.seq h) (dp_ints _)
theorem RepAll.dp (s : Same F H) : ∀ {vs : List V} {ds : List D}, D.pures ds = true → RepAll K r F vs ds → DpAll K H vs (D.toPys ds)
  | _, _, _, .nil => .nil
  | _, _, p, .cons h t =>
    have q : (D.pure _ && D.pures _) = true := p
    .cons (Rep.dp s (Bool.and_eq_true_iff.mp q).1 h) (RepAll.dp s (Bool.and_eq_true_iff.mp q).2 t)
end
end
def D.isNon : D → Bool
  | .non => true
  | _ => false

section
variable {K : PySem.W.Frag} {m : Store} {d e : D} {i j : Int}
/-- an answer that makes nothing -/
theorem post1 {r : List Addr} {F H : Hp} {v : V} {z : D} {Q : VK} (hr : HR K r F H m) (q : Post1 K r F H m z m Q) (p : Rep K r F v z) : Q v H := q v r F H hr (Ext.refl hr) p
theorem y_add : Y2 K (rI0 fun i j => .int (i + j)) (.int i) (.int j) m (.int (i + j)) m := fun r F H x y hr p1 p2 Q q => by
  cases p1; cases p2; exact ⟨i, j, rfl, rfl, post1 hr q (.int _)⟩
theorem y_sub : Y2 K (rI0 fun i j => .int (i - j)) (.int i) (.int j) m (.int (i - j)) m := fun r F H x y hr p1 p2 Q q => by
  cases p1; cases p2; exact ⟨i, j, rfl, rfl, post1 hr q (.int _)⟩
theorem y_mul (h : CMul i j) : Y2 K (rI CMul fun i j => .int (i * j)) (.int i) (.int j) m (.int (i * j)) m := fun r F H x y hr p1 p2 Q q => by
  cases p1; cases p2; exact ⟨i, j, rfl, rfl, h, post1 hr q (.int _)⟩
theorem y_fdiv (h : CDivW i j) : Y2 K (rI CDivW fun i j => .int (i / j)) (.int i) (.int j) m (.int (i / j)) m := fun r F H x y hr p1 p2 Q q => by
  cases p1; cases p2; exact ⟨i, j, rfl, rfl, h, post1 hr q (.int _)⟩
theorem y_mod (h : 0 < j) : Y2 K (rI (fun _ j => 0 < j) fun i j => .int (i % j)) (.int i) (.int j) m (.int (i % j)) m := fun r F H x y hr p1 p2 Q q => by
  cases p1; cases p2; exact ⟨i, j, rfl, rfl, h, post1 hr q (.int _)⟩
theorem y_pow {n : Nat} (h : CPow i (n : Int)) : Y2 K (rI CPow fun i j => .int (i ^ j.toNat)) (.int i) (.int (n : Int)) m (.int (i ^ n)) m := fun r F H x y hr p1 p2 Q q => by
  cases p1; cases p2; exact ⟨i, n, rfl, rfl, h, post1 hr q (.int _)⟩
theorem y_lt : Y2 K (rI0 fun i j => .bl (decide (i < j))) (.int i) (.int j) m (.bl (decide (i < j))) m := fun r F H x y hr p1 p2 Q q => by
  cases p1; cases p2; exact ⟨i, j, rfl, rfl, post1 hr q (.bl _)⟩
theorem y_le : Y2 K (rI0 fun i j => .bl (decide (i ≤ j))) (.int i) (.int j) m (.bl (decide (i ≤ j))) m := fun r F H x y hr p1 p2 Q q => by
  cases p1; cases p2; exact ⟨i, j, rfl, rfl, post1 hr q (.bl _)⟩
theorem y_gt : Y2 K (rI0 fun i j => .bl (decide (j < i))) (.int i) (.int j) m (.bl (decide (j < i))) m := fun r F H x y hr p1 p2 Q q => by
  cases p1; cases p2; exact ⟨i, j, rfl, rfl, post1 hr q (.bl _)⟩
theorem y_ge : Y2 K (rI0 fun i j => .bl (decide (j ≤ i))) (.int i) (.int j) m (.bl (decide (j ≤ i))) m := fun r F H x y hr p1 p2 Q q => by
  cases p1; cases p2; exact ⟨i, j, rfl, rfl, post1 hr q (.bl _)⟩
theorem dec_int (i j : Int) : decide (V.int i = V.int j) = decide (i = j) := by
  by_cases h : i = j
  · subst h; simp
  · rw [decide_eq_false h, decide_eq_false (fun q => h (V.int.inj q))]
theorem dec_bl (i j : Bool) : decide (V.bl i = V.bl j) = decide (i = j) := by
  by_cases h : i = j
  · subst h; simp
  · rw [decide_eq_false h, decide_eq_false (fun q => h (V.bl.inj q))]
theorem dec_str (i j : Str) : decide (V.str i = V.str j) = decide (i = j) := by
  by_cases h : i = j
  · subst h; simp
  · rw [decide_eq_false h, decide_eq_false (fun q => h (V.str.inj q))]
theorem y_eqI : Y2 K rEq (.int i) (.int j) m (.bl (decide (i = j))) m := fun r F H x y hr p1 p2 Q q => by
  cases p1; cases p2; refine ⟨rfl, ?_⟩; rw [dec_int]; exact post1 hr q (.bl _)
theorem y_neI : Y2 K rNe (.int i) (.int j) m (.bl (!decide (i = j))) m := fun r F H x y hr p1 p2 Q q => by
  cases p1; cases p2; refine ⟨rfl, ?_⟩; rw [dec_int]; exact post1 hr q (.bl _)
theorem y_eqB {a b : Bool} : Y2 K rEq (.bl a) (.bl b) m (.bl (decide (a = b))) m := fun r F H x y hr p1 p2 Q q => by
  cases p1; cases p2; refine ⟨rfl, ?_⟩; rw [dec_bl]; exact post1 hr q (.bl _)
theorem y_neB {a b : Bool} : Y2 K rNe (.bl a) (.bl b) m (.bl (!decide (a = b))) m := fun r F H x y hr p1 p2 Q q => by
  cases p1; cases p2; refine ⟨rfl, ?_⟩; rw [dec_bl]; exact post1 hr q (.bl _)
theorem y_eqS {a b : Str} : Y2 K rEq (.str a) (.str b) m (.bl (decide (a = b))) m := fun r F H x y hr p1 p2 Q q => by
  cases p1; cases p2; refine ⟨rfl, ?_⟩; rw [dec_str]; exact post1 hr q (.bl _)
theorem y_neS {a b : Str} : Y2 K rNe (.str a) (.str b) m (.bl (!decide (a = b))) m := fun r F H x y hr p1 p2 Q q => by
  cases p1; cases p2; refine ⟨rfl, ?_⟩; rw [dec_str]; exact post1 hr q (.bl _)
theorem y_isN : Y2 K (fun x y H Q => y = .non ∧ Q (.bl (decide (x = .non))) H) d .non m (.bl d.isNon) m := fun r F H x y hr p1 p2 Q q => by
  cases p2
  refine ⟨rfl, ?_⟩
  have : decide (x = V.non) = d.isNon := by cases p1 <;> rfl
  rw [this]; exact post1 hr q (.bl _)
theorem y_notN : Y2 K (fun x y H Q => y = .non ∧ Q (.bl (!decide (x = .non))) H) d .non m (.bl (!d.isNon)) m := fun r F H x y hr p1 p2 Q q => by
  cases p2
  refine ⟨rfl, ?_⟩
  have : decide (x = V.non) = d.isNon := by cases p1 <;> rfl
  rw [this]; exact post1 hr q (.bl _)
/-- == of data at any depth, of pure data or of what cells hold -/
inductive Pd (m : Store) : D → PyData → Prop
  | pure {d : D} : d.pure = true → Pd m d d.toPy
  | cell {k : Nat} {xs : List D} : m[k]? = some (.lst xs) → D.pures xs = true → Pd m (.cell k) (.list (D.toPys xs))
theorem Pd.dp {r : List Addr} {F H : Hp} {v : V} {p : PyData} (hr : HR K r F H m) (h : Pd m d p) (q : Rep K r F v d) : Dp K H v p := by
  cases h with
  | pure hp => exact q.dp hr.sub hp
  | cell hk hp =>
    cases q with
    | cell e =>
      obtain ⟨_, vs, h1, h2⟩ := hr.cell _ _ _ e hk (fun z => nomatch z)
      exact .lst (SqL.of h1) (h2.dp hr.sub hp)
theorem y_eqD {p q : PyData} (h1 : Pd m d p) (h2 : Pd m e q) (s1 : SeqAt.shaped p = true) (s2 : SeqAt.shaped q = true) : Y2 K (rEqD K) d e m (.bl (PyData.eqv p q)) m := fun r F H x y hr p1 p2 Q k =>
  ⟨_, _, h1.dp hr p1, h2.dp hr p2, s1, s2, post1 hr k (.bl _)⟩
theorem y_neD {p q : PyData} (h1 : Pd m d p) (h2 : Pd m e q) (s1 : SeqAt.shaped p = true) (s2 : SeqAt.shaped q = true) : Y2 K (rNeD K) d e m (.bl (!PyData.eqv p q)) m := fun r F H x y hr p1 p2 Q k =>
  ⟨_, _, h1.dp hr p1, h2.dp hr p2, s1, s2, post1 hr k (.bl _)⟩

/-! ### items -/
theorem atI_len {α β : Type} {xs : List α} {ys : List β} (h : xs.length = ys.length) {i : Int} {y : β} (e : atI ys i = some y) : ∃ j : Nat, ys[j]? = some y ∧ atI xs i = xs[j]? := by
  unfold atI at e ⊢
  rw [h]
  cases q : ixN ys.length i with
  | none => rw [q] at e; cases e
  | some j => rw [q] at e; exact ⟨j, e, rfl⟩
theorem RepAll.atI {r : List Addr} {F : Hp} {vs : List V} {ds : List D} {i : Int} (h : RepAll K r F vs ds) (e : L2.atI ds i = some d) : ∃ v, L2.atI vs i = some v ∧ Rep K r F v d := by
  obtain ⟨j, e1, e2⟩ := atI_len h.len e
  obtain ⟨v, e3, p⟩ := h.get e1
  exact ⟨v, by rw [e2, e3], p⟩
theorem y_ixT {ds : List D} (h : L2.atI ds i = some d) : Y2 K (rIxT K) (.tup ds) (.int i) m d m := fun r F H x y hr p1 p2 Q q => by
  cases p2
  cases p1 with
  | tup hs ha =>
    obtain ⟨v, e, p⟩ := ha.atI h
    exact ⟨_, _, i, v, rfl, rfl, SqT.of (hr.sub _ _ hs), e, post1 hr q p⟩
theorem y_ixL {ds : List D} (h : L2.atI ds i = some d) : Y2 K (rIxL K) (.lst ds) (.int i) m d m := fun r F H x y hr p1 p2 Q q => by
  cases p2
  cases p1 with
  | lst hs ha =>
    obtain ⟨v, e, p⟩ := ha.atI h
    exact ⟨_, _, i, v, rfl, rfl, SqL.of (hr.sub _ _ hs), e, post1 hr q p⟩
theorem y_ixC {k : Nat} {ds : List D} (hk : m[k]? = some (.lst ds)) (h : L2.atI ds i = some d) : Y2 K (rIxL K) (.cell k) (.int i) m d m := fun r F H x y hr p1 p2 Q q => by
  cases p2
  cases p1 with
  | cell ea =>
    obtain ⟨_, vs, h1, h2⟩ := hr.cell _ _ _ ea hk (fun z => nomatch z)
    obtain ⟨v, e, p⟩ := h2.atI h
    exact ⟨_, _, i, v, rfl, rfl, SqL.of h1, e, post1 hr q p⟩
theorem y_ixS {ns : List Int} {n : Int} (h : L2.atI ns i = some n) : Y2 K (rIxL K) (.scr ns) (.int i) m (.int n) m := fun r F H x y hr p1 p2 Q q => by
  cases p2
  cases p1 with
  | scr hs =>
    obtain ⟨j, e1, e2⟩ := atI_len (xs := ns.map V.int) (by simp) h
    refine ⟨_, _, i, .int n, rfl, rfl, hr.sub.seq hs, ?_, post1 hr q (.int n)⟩
    rw [e2, List.getElem?_map, e1]; rfl

/-! ### built-ins on values -/
theorem y_max2 : YC K (fun xs H Q => ∃ i j, xs = [.int i, .int j] ∧ Q (.int (if j > i then j else i)) H) [.int i, .int j] m (.int (max i j)) m := fun r F H vs hr p Q q => by
  cases p with
  | cons p1 p => cases p with
    | cons p2 p => cases p; cases p1; cases p2
                   have e : (if j > i then j else i) = max i j := by split <;> omega
                   refine ⟨i, j, rfl, ?_⟩; rw [e]; exact post1 hr q (.int _)
theorem y_min2 : YC K (fun xs H Q => ∃ i j, xs = [.int i, .int j] ∧ Q (.int (if j < i then j else i)) H) [.int i, .int j] m (.int (min i j)) m := fun r F H vs hr p Q q => by
  cases p with
  | cons p1 p => cases p with
    | cons p2 p => cases p; cases p1; cases p2
                   have e : (if j < i then j else i) = min i j := by split <;> omega
                   refine ⟨i, j, rfl, ?_⟩; rw [e]; exact post1 hr q (.int _)
theorem nu_max (i j : Int) : nuMax2 (.int i) (.int j) = some (.int (max i j)) := by
  unfold nuMax2
  show (nuLt (.int i) (.int j)).map _ = _
  have : nuLt (.int i) (.int j) = some (decide (i < j)) := rfl
  rw [this]
  show some (if decide (i < j) = true then V.int j else V.int i) = _
  by_cases h : i < j
  · rw [decide_eq_true h, if_pos rfl, show max i j = j by omega]
  · rw [decide_eq_false h, if_neg Bool.false_ne_true, show max i j = i by omega]
theorem nu_min (i j : Int) : nuMin2 (.int i) (.int j) = some (.int (min i j)) := by
  unfold nuMin2
  show (nuLt (.int j) (.int i)).map _ = _
  have : nuLt (.int j) (.int i) = some (decide (j < i)) := rfl
  rw [this]
  show some (if decide (j < i) = true then V.int j else V.int i) = _
  by_cases h : j < i
  · rw [decide_eq_true h, if_pos rfl, show min i j = j by omega]
  · rw [decide_eq_false h, if_neg Bool.false_ne_true, show min i j = i by omega]
theorem y_max3 {k : Int} : YC K (rNuC3 nuMax3) [.int i, .int j, .int k] m (.int (max (max i j) k)) m := fun r F H vs hr p Q q => by
  cases p with
  | cons p1 p => cases p with
    | cons p2 p => cases p with
      | cons p3 p => cases p; cases p1; cases p2; cases p3
                     refine ⟨_, _, _, .int (max (max i j) k), rfl, ?_, post1 hr q (.int _)⟩
                     unfold nuMax3
                     rw [nu_max]
                     show nuMax2 _ _ = _
                     rw [nu_max]
theorem y_min3 {k : Int} : YC K (rNuC3 nuMin3) [.int i, .int j, .int k] m (.int (min (min i j) k)) m := fun r F H vs hr p Q q => by
  cases p with
  | cons p1 p => cases p with
    | cons p2 p => cases p with
      | cons p3 p => cases p; cases p1; cases p2; cases p3
                     refine ⟨_, _, _, .int (min (min i j) k), rfl, ?_, post1 hr q (.int _)⟩
                     unfold nuMin3
                     rw [nu_min]
                     show nuMin2 _ _ = _
                     rw [nu_min]
theorem y_lenL {ds : List D} : YC K (Evl.rLenS K) [.lst ds] m (.int ds.length) m := fun r F H vs hr p Q q => by
  cases p with
  | cons p1 p => cases p; cases p1 with
    | lst hs ha =>
      refine ⟨_, _, rfl, .inl (SqL.of (hr.sub _ _ hs)), ?_⟩
      rw [ha.len]; exact post1 hr q (.int _)
theorem y_lenT {ds : List D} : YC K (Evl.rLenS K) [.tup ds] m (.int ds.length) m := fun r F H vs hr p Q q => by
  cases p with
  | cons p1 p => cases p; cases p1 with
    | tup hs ha =>
      refine ⟨_, _, rfl, .inr (SqT.of (hr.sub _ _ hs)), ?_⟩
      rw [ha.len]; exact post1 hr q (.int _)
theorem y_lenC {k : Nat} {ds : List D} (hk : m[k]? = some (.lst ds)) : YC K (Evl.rLenS K) [.cell k] m (.int ds.length) m := fun r F H vs hr p Q q => by
  cases p with
  | cons p1 p => cases p; cases p1 with
    | cell ea =>
      obtain ⟨_, vs, h1, h2⟩ := hr.cell _ _ _ ea hk (fun z => nomatch z)
      refine ⟨_, _, rfl, .inl (SqL.of h1), ?_⟩
      rw [h2.len]; exact post1 hr q (.int _)
theorem y_lenS {ns : List Int} : YC K (Evl.rLenS K) [.scr ns] m (.int ns.length) m := fun r F H vs hr p Q q => by
  cases p with
  | cons p1 p => cases p; cases p1 with
    | scr hs =>
      refine ⟨_, _, rfl, .inl (hr.sub.seq hs), ?_⟩
      rw [List.length_map]; exact post1 hr q (.int _)
theorem ye_bits {te : TE} {δ : En} {m1 : Store} (h : YE K te δ m (.int i) m1) : YE K (tBits te) δ m (.int (Builtin.Int.intBits i : Nat)) m1 := fun r F H σ hr er Q q =>
  h r F H σ hr er _ fun x r1 F1 H1 hr1 x1 p1 => by
    cases p1
    exact ⟨i, rfl, q _ r1 F1 H1 hr1 x1 (.int _)⟩
end

/-! ### the lists of two, joined; repeated; slices -/
section
variable {K : PySem.W.Frag} {m : Store} {d e : D} {i j : Int}
/-- what is read as a list of H: data, or a cell's -/
inductive IsL (m : Store) : D → List D → Prop
  | lst {ds : List D} : IsL m (.lst ds) ds
  | cell {k : Nat} {ds : List D} : m[k]? = some (.lst ds) → IsL m (.cell k) ds
theorem IsL.get {r : List Addr} {F H : Hp} {v : V} {ds : List D} (h : IsL m d ds) (hr : HR K r F H m) (p : Rep K r F v d) : ∃ a vs, v = .ref a ∧ H a = some (.lst vs) ∧ RepAll K r F vs ds := by
  cases h with
  | lst => cases p with
    | lst hs ha => exact ⟨_, _, rfl, hr.sub _ _ hs, ha⟩
  | cell hk => cases p with
    | cell ea =>
      obtain ⟨_, vs, h1, h2⟩ := hr.cell _ _ _ ea hk (fun z => nomatch z)
      exact ⟨_, _, rfl, h1, h2⟩
theorem postN {r : List Addr} {F H : Hp} {zs : List D} {vs : List V} {Q : VK} {p : Addr} (hr : HR K r F H m) (q : PostN K r F H m zs m Q) (hp : H p = none) (ra : RepAll K r F vs zs) : Q (.ref p) (upd H p (.lst vs)) :=
  q p vs r F _ (hr.side hp) (Ext.side hr hp) hp (hr.sub.free hp) (fun k l e => (hr.ne_new hp l e) rfl) upd_same ra
theorem y_cat {xs ys : List D} (h1 : IsL m d xs) (h2 : IsL m e ys) (hl : xs.length + ys.length ≤ 100000) : Y2N K rCat d e m (xs ++ ys) m := fun r F H x y hr p1 p2 Q q => by
  obtain ⟨a, vs, rfl, e1, r1⟩ := h1.get hr p1
  obtain ⟨b, ws, rfl, e2, r2⟩ := h2.get hr p2
  exact ⟨a, b, vs, ws, rfl, rfl, e1, e2, Evl.sz_of (by rw [r1.len, r2.len]; exact hl), fun p hp => postN hr q hp (r1.app r2)⟩
theorem lenD {xs : List D} (h1 : IsL m d xs) : YC K (Evl.rLenS K) [d] m (.int xs.length) m := by
  cases h1 with
  | lst => exact y_lenL
  | cell hk => exact y_lenC hk
end
end DL
namespace DL
open PySem PySem.Spec PyProof.Rows L2

/-! ### statements -/
inductive Out where
  | nx (δ : En) (m : Store)
  | rt (d : D) (m : Store)
  | bk (δ : En) (m : Store)
  | ct (δ : En) (m : Store)
  | ex (C : Value) (δ : En) (m : Store)
def OutOk (K : PySem.W.Frag) (W : WX) (r : List Addr) (F H : Hp) (m : Store) (D : Ends) : Out → Prop
  | .nx δ' m' => ∀ σ' r' F' H', HR K r' F' H' m' → ER K r' F' σ' δ' → Ext r F H m r' F' H' m' → D.nx σ' H'
  | .rt d m' => ∀ v r' F' H', HR K r' F' H' m' → Ext r F H m r' F' H' m' → Rep K r' F' v d → D.rt v H'
  | .bk δ' m' => ∀ σ' r' F' H', HR K r' F' H' m' → ER K r' F' σ' δ' → Ext r F H m r' F' H' m' → D.bk σ' H'
  | .ct δ' m' => ∀ σ' r' F' H', HR K r' F' H' m' → ER K r' F' σ' δ' → Ext r F H m r' F' H' m' → D.ct σ' H'
  | .ex C δ' m' => ∀ σ' r' F' H', HR K r' F' H' m' → ER K r' F' σ' δ' → Ext r F H m r' F' H' m' → W C none σ' H'
def YS (K : PySem.W.Frag) (W : WX) (t : TS) (δ : En) (m : Store) (o : Out) : Prop := ∀ r F H σ D, HR K r F H m → ER K r F σ δ → OutOk K W r F H m D o → t D σ H
/-- a target: the slots change, the heap does not -/
def YG (K : PySem.W.Frag) (g : TG) (d : D) (δ δ' : En) : Prop := ∀ r F H m σ v, HR K r F H m → ER K r F σ δ → Rep K r F v d → ∀ Q : L2.St → Hp → Prop, (∀ σ', ER K r F σ' δ' → Q σ' H) → g v σ H Q
def YGs (K : PySem.W.Frag) (g : TGs) (ds : List D) (δ δ' : En) : Prop := ∀ r F H m σ vs, HR K r F H m → ER K r F σ δ → RepAll K r F vs ds → ∀ Q : L2.St → Hp → Prop, (∀ σ', ER K r F σ' δ' → Q σ' H) → g vs σ H Q

section
variable {K : PySem.W.Frag} {W : WX} {te ta tb : TE} {tt : TT} {t u : TS} {g : TG} {gs : TGs} {δ δ1 δ2 : En} {m m1 m2 m3 : Store} {d e : D} {o : Out}
theorem OutOk.ext {r r1 : List Addr} {F H F1 H1 : Hp} {D : Ends} (hr : r.length = m.length) (hr1 : r1.length = m1.length) (x : Ext r F H m r1 F1 H1 m1) : ∀ {o : Out}, OutOk K W r F H m D o → OutOk K W r1 F1 H1 m1 D o
  | .nx _ _, q => fun σ' r' F' H' h e y => q σ' r' F' H' h e (x.trans hr1 hr y)
  | .rt _ _, q => fun v r' F' H' h y p => q v r' F' H' h (x.trans hr1 hr y) p
  | .bk _ _, q => fun σ' r' F' H' h e y => q σ' r' F' H' h e (x.trans hr1 hr y)
  | .ct _ _, q => fun σ' r' F' H' h e y => q σ' r' F' H' h e (x.trans hr1 hr y)
  | .ex _ _ _, q => fun σ' r' F' H' h e y => q σ' r' F' H' h e (x.trans hr1 hr y)
theorem YS.of_eq {o' : Out} (h : YS K W t δ m o) (e : o = o') : YS K W t δ m o' := e ▸ h
theorem ys_next : YS K W tNext δ m (.nx δ m) := fun r F H σ D hr er q => q σ r F H hr er (Ext.refl hr)
theorem ys_seq (h1 : YS K W t δ m (.nx δ1 m1)) (h2 : YS K W u δ1 m1 o) : YS K W (tSeq t u) δ m o := fun r F H σ D hr er q =>
  h1 r F H σ { D with nx := u D } hr er fun σ1 r1 F1 H1 hr1 er1 x1 => h2 r1 F1 H1 σ1 D hr1 er1 (q.ext hr.len hr1.len x1)
/-- the first statement leaves -/
def Out.leaves : Out → Bool
  | .nx _ _ => false
  | _ => true
theorem ys_seqX (h1 : YS K W t δ m o) (hl : o.leaves = true) : YS K W (tSeq t u) δ m o := fun r F H σ D hr er q =>
  h1 r F H σ { D with nx := u D } hr er (by cases o with
    | nx _ _ => cases hl
    | rt _ _ => exact q
    | bk _ _ => exact q
    | ct _ _ => exact q
    | ex _ _ _ => exact q)
theorem yg_name {i : Nat} : YG K (gName i) d δ (δ.set i (some d)) := fun r F H m σ v hr er p Q q => q _ (er.set i p)
theorem ygs_nil : YGs K gNil [] δ δ := fun r F H m σ vs hr er p Q q => by cases p; exact ⟨rfl, q σ er⟩
theorem ygs_cons {ds : List D} (h : YG K g d δ δ1) (hs : YGs K gs ds δ1 δ2) : YGs K (gCons g gs) (d :: ds) δ δ2 := fun r F H m σ vs hr er p Q q => by
  cases p with
  | cons p1 p2 => exact ⟨_, _, rfl, h r F H m σ _ hr er p1 _ fun σ1 er1 => hs r F H m σ1 _ hr er1 p2 Q q⟩
theorem yg_tup {ds : List D} {n : Nat} (hl : ds.length = n) (h : YGs K gs ds δ δ1) : YG K (gTup K n gs) (.tup ds) δ δ1 := fun r F H m σ v hr er p Q q => by
  cases p with
  | tup hs ha => exact ⟨_, _, rfl, SqT.of (hr.sub _ _ hs), ha.len.trans hl, h r F H m σ _ hr er ha Q q⟩
theorem ys_asg (he : YE K te δ m d m1) (hg : YG K g d δ δ1) : YS K W (tAsg te g) δ m (.nx δ1 m1) := fun r F H σ D hr er q =>
  he r F H σ hr er _ fun v r1 F1 H1 hr1 x1 p1 => hg r1 F1 H1 m1 σ v hr1 (er.ext x1) p1 _ fun σ1 er1 => q σ1 r1 F1 H1 hr1 er1 x1
theorem ys_set {i : Nat} (he : YE K te δ m d m1) : YS K W (tAsg te (gName i)) δ m (.nx (δ.set i (some d)) m1) := ys_asg he yg_name
theorem ys_expr (he : YE K te δ m d m1) : YS K W (tDrop te) δ m (.nx δ m1) := fun r F H σ D hr er q =>
  he r F H σ hr er _ fun v r1 F1 H1 hr1 x1 p1 => q σ r1 F1 H1 hr1 (er.ext x1) x1
theorem ys_ret (he : YE K te δ m d m1) : YS K W (tRet te) δ m (.rt d m1) := fun r F H σ D hr er q =>
  he r F H σ hr er _ fun v r1 F1 H1 hr1 x1 p1 => q v r1 F1 H1 hr1 x1 p1
theorem ys_retN : YS K W tRetN δ m (.rt .non m) := fun r F H σ D hr er q => q .non r F H hr (Ext.refl hr) .non
theorem ys_break : YS K W tBreak δ m (.bk δ m) := fun r F H σ D hr er q => q σ r F H hr er (Ext.refl hr)
theorem ys_cont : YS K W tCont δ m (.ct δ m) := fun r F H σ D hr er q => q σ r F H hr er (Ext.refl hr)
theorem ys_if {b : Bool} (h : YT K tt δ m b m1) (h1 : b = true → YS K W t δ m1 o) (h2 : b = false → YS K W u δ m1 o) : YS K W (tIfS tt t u) δ m o := fun r F H σ D hr er q =>
  h r F H σ hr er _ fun r1 F1 H1 hr1 x1 => by
    cases b with
    | true => exact h1 rfl r1 F1 H1 σ D hr1 (er.ext x1) (q.ext hr.len hr1.len x1)
    | false => exact h2 rfl r1 F1 H1 σ D hr1 (er.ext x1) (q.ext hr.len hr1.len x1)
theorem ys_ifT (h : YT K tt δ m true m1) (h1 : YS K W t δ m1 o) : YS K W (tIfS tt t u) δ m o := ys_if h (fun _ => h1) (fun z => nomatch z)
theorem ys_ifF (h : YT K tt δ m false m1) (h1 : YS K W u δ m1 o) : YS K W (tIfS tt t u) δ m o := ys_if h (fun z => nomatch z) (fun _ => h1)
/-- both ways, told by the test -/
theorem ys_ite {b : Bool} {o1 o2 : Out} (h : YT K tt δ m b m1) (h1 : b = true → YS K W t δ m1 o1) (h2 : b = false → YS K W u δ m1 o2) : YS K W (tIfS tt t u) δ m (if b = true then o1 else o2) := by
  cases b with
  | true => exact ys_ifT h (h1 rfl)
  | false => exact ys_ifF h (h2 rfl)
theorem YS.weak {δ' : En} (h : YS K W t δ m (.nx δ1 m1)) (w : Weak δ1 δ') : YS K W t δ m (.nx δ' m1) := fun r F H σ D hr er q =>
  h r F H σ D hr er fun σ' r' F' H' h1 e1 x => q σ' r' F' H' h1 (e1.weak w) x
theorem YS.pre {δ' : En} (w : Weak δ' δ) (h : YS K W t δ m o) : YS K W t δ' m o := fun r F H σ D hr er q => h r F H σ D hr (er.weak w) q
/-- xs[i] = e of a cell -/
theorem ixN_get {n : Nat} {i : Int} {j : Nat} (h : ixN n i = some j) : j < n := by
  unfold ixN at h
  split at h
  · split at h
    · cases h; omega
    · cases h
  · split at h
    · cases h; omega
    · cases h
theorem ys_setC {to ti : TE} {k : Nat} {i : Int} {j : Nat} {xs : List D} (he : YE K te δ m d m1) (ho : YE K to δ m1 (.cell k) m2) (hi : YE K ti δ m2 (.int i) m3) (hk : m3[k]? = some (.lst xs)) (hj : ixN xs.length i = some j) :
    YS K W (tAsg te (gSub to ti rSetL)) δ m (.nx δ (m3.set k (.lst (xs.set j d)))) := fun r F H σ D hr er q =>
  he r F H σ hr er _ fun v r1 F1 H1 hr1 x1 p1 => ho r1 F1 H1 σ hr1 (er.ext x1) _ fun ov r2 F2 H2 hr2 x2 p2 => hi r2 F2 H2 σ hr2 ((er.ext x1).ext x2) _ fun iv r3 F3 H3 hr3 x3 p3 => by
    cases p3
    have x13 := (x1.trans hr1.len hr.len x2).trans hr2.len hr.len x3
    have p2' := p2.mono x3.pre x3.sub
    have p1' := (p1.mono x2.pre x2.sub).mono x3.pre x3.sub
    cases p2' with
    | cell ea =>
      obtain ⟨_, vs, h1, h2⟩ := hr3.cell _ _ _ ea hk (fun z => nomatch z)
      have lv : live m3 k := ⟨_, hk, fun z => nomatch z⟩
      refine ⟨_, vs, i, j, rfl, rfl, h1, by rw [h2.len]; exact hj, ?_⟩
      refine q σ r3 F3 _ (hr3.put lv ea (fun b z => by rw [h1] at z; cases z) ⟨_, upd_same, h2.set p1' j⟩) (er.ext x13) (x13.trans hr3.len hr.len (Ext.put hr3 lv ea))
/-- xs.append(e) of a cell -/
theorem ye_append {to : TE} {k : Nat} {xs ys : List D} (ho : YE K to δ m (.cell k) m1) (hk0 : m1[k]? = some (.lst ys)) (he : YE K te δ m1 d m2) (hk : m2[k]? = some (.lst xs)) (hl : xs.length < 100000) :
    YE K (tBM K "list" rAppend to (tCons te tNil)) δ m .non (m2.set k (.lst (xs ++ [d]))) := fun r F H σ hr er Q q =>
  ho r F H σ hr er _ fun ov r1 F1 H1 hr1 x1 p1 => by
    have tyv : tyV K "list" ov H1 := by
      cases p1 with
      | cell ea =>
        obtain ⟨_, vs, h1, h2⟩ := hr1.cell _ _ _ ea hk0 (fun z => nomatch z)
        exact .inl ⟨rfl, vs, SqL.of h1⟩
    refine ⟨tyv, ?_⟩
    refine he r1 F1 H1 σ hr1 (er.ext x1) _ fun v r2 F2 H2 hr2 x2 p2 => ?_
    have p1' := p1.mono x2.pre x2.sub
    have x12 := x1.trans hr1.len hr.len x2
    cases p1' with
    | cell ea =>
      obtain ⟨_, vs, h1, h2⟩ := hr2.cell _ _ _ ea hk (fun z => nomatch z)
      have lv : live m2 k := ⟨_, hk, fun z => nomatch z⟩
      refine ⟨_, vs, v, rfl, rfl, h1, Evl.sz_lt (by rw [h2.len]; exact hl), ?_⟩
      exact q _ r2 F2 _ (hr2.put lv ea (fun b z => by rw [h1] at z; cases z) ⟨_, upd_same, h2.app (.one p2)⟩) (x12.trans hr2.len hr.len (Ext.put hr2 lv ea)) .non
end

/-! ### what is walked -/
/-- the iterator J yields xs, one by one, while C holds of the store -/
def ItOk (K : PySem.W.Frag) (C : Store → Prop) (J : It) (r : List Addr) (F : Hp) (xs : List D) : Prop := ∀ r' F' H' m', Pre r r' → Same F F' → HR K r' F' H' m' → C m' → ∀ i : Nat,
  (∀ d, xs[i]? = some d → J.go i H' ∧ ∀ x H'', J.yld i H' x H'' → ∃ F'', HR K r' F'' H'' m' ∧ Ext r' F' H' m' r' F'' H'' m' ∧ Rep K r' F'' x d) ∧ (xs.length ≤ i → J.stop i H')
def YI (K : PySem.W.Frag) (C : Store → Prop) (wi : TI) (δ : En) (m : Store) (xs : List D) (m' : Store) : Prop := ∀ r F H σ, HR K r F H m → ER K r F σ δ → ∀ R : It → Hp → Prop,
  (∀ J r' F' H', HR K r' F' H' m' → Ext r F H m r' F' H' m' → ItOk K C J r' F' xs → R J H') → wi σ H R
abbrev Any : Store → Prop := fun _ => True
section
variable {K : PySem.W.Frag} {W : WX} {te ta tb : TE} {tt : TT} {t u : TS} {g : TG} {gs : TGs} {δ δ1 δ2 : En} {m m1 m2 m3 : Store} {d e : D} {o : Out} {tas : TA}
theorem yi_list {xs : List D} (h : YE K te δ m (.lst xs) m1) : YI K Any (iList K te) δ m xs m1 := fun r F H σ hr er R q =>
  h r F H σ hr er _ fun v r1 F1 H1 hr1 x1 p1 => by
    cases p1 with
    | lst hs ha =>
      refine ⟨_, rfl, ⟨_, SqL.of (hr1.sub _ _ hs)⟩, q _ r1 F1 H1 hr1 x1 fun r' F' H' m' pr sm hr' _ i => ?_⟩
      have hH := hr'.sub _ _ (sm _ _ hs)
      refine ⟨fun d hd => ?_, fun hi => ⟨_, SqL.of hH, by rw [ha.len]; exact hi⟩⟩
      obtain ⟨v, e1, p⟩ := ha.get hd
      refine ⟨⟨_, v, SqL.of hH, e1⟩, fun x H'' y => ?_⟩
      obtain ⟨rfl, y⟩ := y
      have := y _ (SqL.of hH)
      rw [e1] at this; cases this
      exact ⟨F', hr', Ext.refl hr', p.mono pr sm⟩
theorem yi_cell {xs : List D} {k : Nat} (h : YE K te δ m (.cell k) m1) (hk : m1[k]? = some (.lst xs)) : YI K (fun m' => m'[k]? = some (.lst xs)) (iList K te) δ m xs m1 := fun r F H σ hr er R q =>
  h r F H σ hr er _ fun v r1 F1 H1 hr1 x1 p1 => by
    cases p1 with
    | cell ea =>
      obtain ⟨_, ws, h1, _⟩ := hr1.cell _ _ _ ea hk (fun z => nomatch z)
      refine ⟨_, rfl, ⟨_, SqL.of h1⟩, q _ r1 F1 H1 hr1 x1 fun r' F' H' m' pr sm hr' hC i => ?_⟩
      obtain ⟨_, vs, hH, ha⟩ := hr'.cell _ _ _ (pr _ _ ea) hC (fun z => nomatch z)
      refine ⟨fun d hd => ?_, fun hi => ⟨_, SqL.of hH, by rw [ha.len]; exact hi⟩⟩
      obtain ⟨v, e1, p⟩ := ha.get hd
      refine ⟨⟨_, v, SqL.of hH, e1⟩, fun x H'' y => ?_⟩
      obtain ⟨rfl, y⟩ := y
      have := y _ (SqL.of hH)
      rw [e1] at this; cases this
      exact ⟨F', hr', Ext.refl hr', p⟩
theorem yi_scr {ns : List Int} (h : YE K te δ m (.scr ns) m1) : YI K Any (iList K te) δ m (ns.map D.int) m1 := fun r F H σ hr er R q =>
  h r F H σ hr er _ fun v r1 F1 H1 hr1 x1 p1 => by
    cases p1 with
    | scr hs =>
      refine ⟨_, rfl, ⟨_, hr1.sub.seq hs⟩, q _ r1 F1 H1 hr1 x1 fun r' F' H' m' pr sm hr' _ i => ?_⟩
      have hH := hr'.sub.seq (sm.seq hs)
      refine ⟨fun d hd => ?_, fun hi => ⟨_, hH, by rw [List.length_map] at hi ⊢; exact hi⟩⟩
      rw [List.getElem?_map] at hd
      cases e1 : ns[i]? with
      | none => rw [e1] at hd; cases hd
      | some n =>
        rw [e1] at hd; cases hd
        have e2 : (ns.map V.int)[i]? = some (.int n) := by rw [List.getElem?_map, e1]; rfl
        refine ⟨⟨_, _, hH, e2⟩, fun x H'' y => ?_⟩
        obtain ⟨rfl, y⟩ := y
        have := y _ hH
        rw [e2] at this; cases this
        exact ⟨F', hr', Ext.refl hr', .int n⟩
theorem yi_tup {xs : List D} (h : YE K te δ m (.tup xs) m1) : YI K Any (iTup K te) δ m xs m1 := fun r F H σ hr er R q =>
  h r F H σ hr er _ fun v r1 F1 H1 hr1 x1 p1 => by
    cases p1 with
    | tup hs ha =>
      refine ⟨_, rfl, ⟨_, SqT.of (hr1.sub _ _ hs)⟩, q _ r1 F1 H1 hr1 x1 fun r' F' H' m' pr sm hr' _ i => ?_⟩
      have hH := SqT.of (K := K) (hr'.sub _ _ (sm _ _ hs))
      refine ⟨fun d hd => ?_, fun hi => ⟨_, hH, by rw [ha.len]; exact hi⟩⟩
      obtain ⟨v, e1, p⟩ := ha.get hd
      refine ⟨⟨_, v, hH, e1⟩, fun x H'' y => ?_⟩
      obtain ⟨rfl, y⟩ := y
      have := y _ hH
      rw [e1] at this; cases this
      exact ⟨F', hr', Ext.refl hr', p.mono pr sm⟩
/-- range(n) -/
def rng (lo : Int) (n : Nat) : List D := (List.range n).map fun i : Nat => D.int (lo + (i : Int))
theorem rng_get {lo : Int} {n i : Nat} {d : D} (h : (rng lo n)[i]? = some d) : i < n ∧ d = .int (lo + (i : Int)) := by
  unfold rng at h
  rw [List.getElem?_map] at h
  by_cases hi : i < n
  · rw [List.getElem?_range hi] at h; cases h; exact ⟨hi, rfl⟩
  · rw [List.getElem?_eq_none (by simpa using hi)] at h; cases h
theorem rng_len (lo : Int) (n : Nat) : (rng lo n).length = n := by simp [rng]
theorem itr_ok {C : Store → Prop} {lo : Int} {n : Nat} {r : List Addr} {F : Hp} : ItOk K C (Itr lo n) r F (rng lo n) := fun r' F' H' m' pr sm hr' _ i =>
  ⟨fun d hd => by
    obtain ⟨hi, rfl⟩ := rng_get hd
    refine ⟨hi, fun x H'' y => ?_⟩
    obtain ⟨rfl, rfl⟩ := y
    exact ⟨F', hr', Ext.refl hr', .int _⟩, fun hi => by rw [rng_len] at hi; exact hi⟩
theorem yi_range1 {n : Int} (h : YA K tas δ m [.int n] m1) (hn : -(2 ^ 62) ≤ n ∧ n < 2 ^ 62) : YI K Any (iRng1 tas) δ m (rng 0 n.toNat) m1 := fun r F H σ hr er R q =>
  h r F H σ hr er _ fun vs r1 F1 H1 hr1 x1 p1 => by
    cases p1 with
    | cons p p1 => cases p1; cases p; exact ⟨n, rfl, hn.1, hn.2, q _ r1 F1 H1 hr1 x1 itr_ok⟩
theorem yi_range2 {a b : Int} (h : YA K tas δ m [.int a, .int b] m1) (hn : -(2 ^ 62) ≤ a ∧ a < 2 ^ 62 ∧ -(2 ^ 62) ≤ b ∧ b < 2 ^ 62) : YI K Any (iRng2 tas) δ m (rng a (b - a).toNat) m1 := fun r F H σ hr er R q =>
  h r F H σ hr er _ fun vs r1 F1 H1 hr1 x1 p1 => by
    cases p1 with
    | cons p p1 => cases p1 with
      | cons p' p1 => cases p1; cases p; cases p'; exact ⟨a, b, rfl, hn, q _ r1 F1 H1 hr1 x1 itr_ok⟩

/-! ### for -/
/-- how a turn that leaves the loop ends it -/
inductive LoopX : Out → Out → Prop
  | rt {d : D} {m : Store} : LoopX (.rt d m) (.rt d m)
  | bk {δ : En} {m : Store} : LoopX (.bk δ m) (.nx δ m)
  | ex {C : Value} {δ : En} {m : Store} : LoopX (.ex C δ m) (.ex C δ m)
/-- a turn's end -/
inductive TurnX (δ : En) (m : Store) : Out → Prop
  | nx {δ' : En} : Weak δ' δ → TurnX δ m (.nx δ' m)
  | ct {δ' : En} : Weak δ' δ → TurnX δ m (.ct δ' m)
theorem ys_forG {C : Store → Prop} {wi : TI} {xs : List D} (hi : YI K C wi δ m xs m1) (n : Nat) (δs : Nat → En) (ms : Nat → Store) (h0 : Weak δ (δs 0)) (e0 : ms 0 = m1) (hC : ∀ i, i ≤ n → C (ms i)) (hn : n ≤ xs.length)
    (step : ∀ i d, i < n → xs[i]? = some d → ∃ δ' o', YG K g d (δs i) δ' ∧ YS K W t δ' (ms i) o' ∧ TurnX (δs (i + 1)) (ms (i + 1)) o')
    (last : (n = xs.length ∧ o = .nx (δs n) (ms n)) ∨ ∃ d δ' o', xs[n]? = some d ∧ YG K g d (δs n) δ' ∧ YS K W t δ' (ms n) o' ∧ LoopX o' o) : YS K W (tFor wi g t) δ m o := fun r F H σ D hr er q =>
  hi r F H σ hr er _ fun J r1 F1 H1 hr1 x1 ok => by
    subst e0
    let Pv : Nat → L2.St → Hp → Prop := fun i σ' H' => ∃ r' F', HR K r' F' H' (ms i) ∧ ER K r' F' σ' (δs i) ∧ Ext r F H m r' F' H' (ms i) ∧ Pre r1 r' ∧ Same F1 F'
    refine ⟨fun i mm σ' H' => mm = xs.length - i ∧ i ≤ n ∧ Pv i σ' H', ⟨xs.length, by simp, Nat.zero_le _, r1, F1, hr1, (er.ext x1).weak h0, x1, Pre.refl _, Same.refl _⟩, ?_⟩
    rintro i mm σ' H' ⟨rfl, hin, r', F', hr', er', x', pr', sm'⟩
    obtain ⟨go, stop⟩ := ok r' F' H' (ms i) pr' sm' hr' (hC i hin) i
    have body : ∀ (d : DL.D) (δ' : En) (o' : Out) (N : L2.St → Hp → Prop) x H'', YG K g d (δs i) δ' → YS K W t δ' (ms i) o' → (∃ F'', HR K r' F'' H'' (ms i) ∧ Ext r' F' H' (ms i) r' F'' H'' (ms i) ∧ Rep K r' F'' x d) →
        (∀ r2 F2 H2, Ext r F H m r2 F2 H2 (ms i) → r2.length = (ms i).length → Pre r1 r2 → Same F1 F2 → OutOk K W r2 F2 H2 (ms i) { D with nx := N, ct := N, bk := D.nx } o') → g x σ' H'' fun σ2 H2 => t { D with nx := N, ct := N, bk := D.nx } σ2 H2 := by
      rintro d δ' o' N x H'' hg hs ⟨F'', hr2, x2, p2⟩ hq
      refine hg r' F'' H'' (ms i) σ' x hr2 (er'.ext x2) p2 _ fun σ2 er2 => hs r' F'' H'' σ2 _ hr2 er2 (hq r' F'' H'' (x'.trans hr'.len hr.len x2) hr2.len pr' (sm'.trans x2.sub))
    by_cases hlt : i < n
    · have hx : i < xs.length := Nat.lt_of_lt_of_le hlt hn
      have ed : xs[i]? = some xs[i] := List.getElem?_eq_getElem hx
      obtain ⟨hgo, hy⟩ := go _ ed
      obtain ⟨δ', o', hg, hs, hT⟩ := step i _ hlt ed
      refine .inr ⟨hgo, Pv (i + 1), fun σ2 H2 p2 => ⟨xs.length - (i + 1), by omega, rfl, hlt, p2⟩, fun x H'' y => body _ δ' o' _ x H'' hg hs (hy x H'' y) fun r2 F2 H2 x2 l2 pr2 sm2 => ?_⟩
      cases hT with
      | nx w => exact fun σ3 r3 F3 H3 hr3 er3 x3 => ⟨r3, F3, hr3, er3.weak w, x2.trans l2 hr.len x3, pr2.trans x3.pre, sm2.trans x3.sub⟩
      | ct w => exact fun σ3 r3 F3 H3 hr3 er3 x3 => ⟨r3, F3, hr3, er3.weak w, x2.trans l2 hr.len x3, pr2.trans x3.pre, sm2.trans x3.sub⟩
    · have hi' : i = n := by omega
      subst hi'
      rcases last with ⟨e, rfl⟩ | ⟨d, δ', o', ed, hg, hs, hX⟩
      · exact .inl ⟨stop (by omega), q σ' r' F' H' hr' er' x'⟩
      · obtain ⟨hgo, hy⟩ := go _ ed
        refine .inr ⟨hgo, fun _ _ => False, fun σ2 H2 p2 => p2.elim, fun x H'' y => body _ δ' o' _ x H'' hg hs (hy x H'' y) fun r2 F2 H2 x2 l2 pr2 sm2 => ?_⟩
        cases hX with
        | rt => exact fun v r3 F3 H3 hr3 x3 p3 => q v r3 F3 H3 hr3 (x2.trans l2 hr.len x3) p3
        | bk => exact fun σ3 r3 F3 H3 hr3 er3 x3 => q σ3 r3 F3 H3 hr3 er3 (x2.trans l2 hr.len x3)
        | ex => exact fun σ3 r3 F3 H3 hr3 er3 x3 => q σ3 r3 F3 H3 hr3 er3 (x2.trans l2 hr.len x3)
/-- while: st by the turn's number -/
theorem ys_while (n : Nat) (δs : Nat → En) (ms : Nat → Store) (h0 : Weak δ (δs 0)) (e0 : ms 0 = m)
    (step : ∀ i, i < n → ∃ m1 o', YT K tt (δs i) (ms i) true m1 ∧ YS K W t (δs i) m1 o' ∧ TurnX (δs (i + 1)) (ms (i + 1)) o')
    (last : (∃ m1, YT K tt (δs n) (ms n) false m1 ∧ o = .nx (δs n) m1) ∨ ∃ m1 o', YT K tt (δs n) (ms n) true m1 ∧ YS K W t (δs n) m1 o' ∧ LoopX o' o) : YS K W (tWhile tt t) δ m o := fun r F H σ D hr er q => by
    subst e0
    let Pv : Nat → L2.St → Hp → Prop := fun i σ' H' => ∃ r' F', HR K r' F' H' (ms i) ∧ ER K r' F' σ' (δs i) ∧ Ext r F H (ms 0) r' F' H' (ms i)
    refine ⟨fun mm σ' H' => ∃ i, mm = n - i ∧ i ≤ n ∧ Pv i σ' H', ⟨n, 0, by simp, Nat.zero_le _, r, F, hr, er.weak h0, Ext.refl hr⟩, ?_⟩
    rintro mm σ' H' ⟨i, rfl, hin, r', F', hr', er', x'⟩
    by_cases hlt : i < n
    · obtain ⟨m1, o', ht, hs, hT⟩ := step i hlt
      refine ht r' F' H' σ' hr' er' _ fun r2 F2 H2 hr2 x2 => ?_
      rw [if_pos rfl]
      refine ⟨Pv (i + 1), fun σ3 H3 p3 => ⟨n - (i + 1), by omega, i + 1, rfl, hlt, p3⟩, hs r2 F2 H2 σ' _ hr2 (er'.ext x2) ?_⟩
      have x02 := x'.trans hr'.len hr.len x2
      cases hT with
      | nx w => exact fun σ3 r3 F3 H3 hr3 er3 x3 => ⟨r3, F3, hr3, er3.weak w, x02.trans hr2.len hr.len x3⟩
      | ct w => exact fun σ3 r3 F3 H3 hr3 er3 x3 => ⟨r3, F3, hr3, er3.weak w, x02.trans hr2.len hr.len x3⟩
    · have hi' : i = n := by omega
      subst hi'
      rcases last with ⟨m1, ht, rfl⟩ | ⟨m1, o', ht, hs, hX⟩
      · refine ht r' F' H' σ' hr' er' _ fun r2 F2 H2 hr2 x2 => ?_
        rw [if_neg Bool.false_ne_true]
        exact q σ' r2 F2 H2 hr2 (er'.ext x2) (x'.trans hr'.len hr.len x2)
      · refine ht r' F' H' σ' hr' er' _ fun r2 F2 H2 hr2 x2 => ?_
        rw [if_pos rfl]
        have x02 := x'.trans hr'.len hr.len x2
        refine ⟨fun _ _ => False, fun σ3 H3 p3 => p3.elim, hs r2 F2 H2 σ' _ hr2 (er'.ext x2) ?_⟩
        cases hX with
        | rt => exact fun v r3 F3 H3 hr3 x3 p3 => q v r3 F3 H3 hr3 (x02.trans hr2.len hr.len x3) p3
        | bk => exact fun σ3 r3 F3 H3 hr3 er3 x3 => q σ3 r3 F3 H3 hr3 er3 (x02.trans hr2.len hr.len x3)
        | ex => exact fun σ3 r3 F3 H3 hr3 er3 x3 => q σ3 r3 F3 H3 hr3 er3 (x02.trans hr2.len hr.len x3)
end
end DL
namespace DL
open PySem PySem.Spec PyProof.Rows L2

/-! ### comprehensions -/
theorem wipe_get {σ : L2.St} {i : Nat} : ∀ {vs : List Nat}, (wipe σ vs)[i]? = if i ∈ vs then (if i < σ.length then some none else none) else σ[i]?
  | [] => by simp [wipe]
  | v :: vs => by
    unfold wipe
    by_cases hv : v = i
    · subst hv
      by_cases hl : v < σ.length
      · rw [List.getElem?_set_self (by rw [wipe_length]; exact hl)]; simp [hl]
      · rw [List.getElem?_eq_none (by rw [List.length_set, wipe_length]; omega)]; simp [hl]
    · rw [List.getElem?_set_ne hv, wipe_get (vs := vs)]
      have : (i ∈ v :: vs) ↔ i ∈ vs := by simp [Ne.symm hv]
      simp [this]
theorem wipe_set {σ : L2.St} {j : Nat} {x : Option V} {vs : List Nat} (h : j ∈ vs) : wipe (σ.set j x) vs = wipe σ vs := by
  apply List.ext_getElem?
  intro i
  rw [wipe_get, wipe_get]
  by_cases hi : i ∈ vs
  · simp [hi]
  · have : j ≠ i := fun e => hi (e ▸ h)
    simp [hi, List.getElem?_set_ne this]
theorem wipe_wipe {σ : L2.St} {vs : List Nat} : wipe (wipe σ vs) vs = wipe σ vs := by
  apply List.ext_getElem?
  intro i
  rw [wipe_get, wipe_length, wipe_get]
  by_cases hi : i ∈ vs <;> simp [hi]
def wipeE (δ : En) : List Nat → En
  | [] => δ
  | v :: vs => (wipeE δ vs).set v none
theorem wipeE_len (δ : En) : ∀ vs : List Nat, (wipeE δ vs).length = δ.length
  | [] => rfl
  | v :: vs => by unfold wipeE; rw [List.length_set, wipeE_len δ vs]
theorem wipeE_some {δ : En} {i : Nat} {d : D} : ∀ {vs : List Nat}, (wipeE δ vs)[i]? = some (some d) → δ[i]? = some (some d) ∧ i ∉ vs
  | [], h => ⟨h, by simp⟩
  | v :: vs, h => by
    unfold wipeE at h
    by_cases hi : v = i
    · subst hi
      by_cases hv : v < (wipeE δ vs).length
      · rw [List.getElem?_set_self hv] at h; cases h
      · rw [List.getElem?_eq_none (by simpa using hv)] at h; cases h
    · rw [List.getElem?_set_ne hi] at h
      obtain ⟨h1, h2⟩ := wipeE_some h
      exact ⟨h1, by simp only [List.mem_cons, not_or]; exact ⟨fun e => hi e.symm, h2⟩⟩
theorem ER.wipe {K : PySem.W.Frag} {r : List Addr} {F : Hp} {σ : L2.St} {δ : En} (h : ER K r F σ δ) (vs : List Nat) : ER K r F (L2.wipe σ vs) (wipeE δ vs) := by
  refine ⟨by rw [wipe_length, wipeE_len]; exact h.1, fun i d e => ?_⟩
  obtain ⟨e1, e2⟩ := wipeE_some e
  obtain ⟨v, q, p⟩ := h.2 i d e1
  exact ⟨v, by rw [wipe_get]; simp [e2, q], p⟩
/-- a target whose slots are vs's -/
def YGw (K : PySem.W.Frag) (vs : List Nat) (g : TG) (d : D) (δ δ' : En) : Prop := ∀ r F H m σ v, HR K r F H m → ER K r F σ δ → Rep K r F v d → ∀ Q : L2.St → Hp → Prop, (∀ σ', ER K r F σ' δ' → wipe σ' vs = wipe σ vs → Q σ' H) → g v σ H Q
def YGws (K : PySem.W.Frag) (vs : List Nat) (g : TGs) (ds : List D) (δ δ' : En) : Prop := ∀ r F H m σ ws, HR K r F H m → ER K r F σ δ → RepAll K r F ws ds → ∀ Q : L2.St → Hp → Prop, (∀ σ', ER K r F σ' δ' → wipe σ' vs = wipe σ vs → Q σ' H) → g ws σ H Q
section
variable {K : PySem.W.Frag} {W : WX} {te ta tb : TE} {tt : TT} {t u : TS} {g : TG} {gs : TGs} {δ δ1 δ2 : En} {m m1 m2 m3 : Store} {d e : D} {o : Out} {tas : TA} {vs : List Nat}
theorem ygw_name {i : Nat} (h : i ∈ vs) : YGw K vs (gName i) d δ (δ.set i (some d)) := fun r F H m σ v hr er p Q q => q _ (er.set i p) (wipe_set h)
theorem ygws_nil : YGws K vs gNil [] δ δ := fun r F H m σ ws hr er p Q q => by cases p; exact ⟨rfl, q σ er rfl⟩
theorem ygws_cons {ds : List D} (h : YGw K vs g d δ δ1) (hs : YGws K vs gs ds δ1 δ2) : YGws K vs (gCons g gs) (d :: ds) δ δ2 := fun r F H m σ ws hr er p Q q => by
  cases p with
  | cons p1 p2 => exact ⟨_, _, rfl, h r F H m σ _ hr er p1 _ fun σ1 er1 w1 => hs r F H m σ1 _ hr er1 p2 Q fun σ2 er2 w2 => q σ2 er2 (w2.trans w1)⟩
theorem ygw_tup {ds : List D} {n : Nat} (hl : ds.length = n) (h : YGws K vs gs ds δ δ1) : YGw K vs (gTup K n gs) (.tup ds) δ δ1 := fun r F H m σ v hr er p Q q => by
  cases p with
  | tup hs ha => exact ⟨_, _, rfl, SqT.of (hr.sub _ _ hs), ha.len.trans hl, h r F H m σ _ hr er ha Q q⟩
/-- a side object through the work -/
theorem Ext.side_keep {r r' : List Addr} {F F' H H' : Hp} {m' : Store} (x : Ext r F H m r' F' H' m') (hl : r.length = m.length) {p : Addr} {o : HO} (hp : H p = some o) (fp : F p = none) (np : ∀ (k : Nat), live m k → r[k]? ≠ some p) :
    H' p = some o ∧ F' p = none ∧ ∀ (k : Nat), live m' k → r'[k]? ≠ some p := by
  refine ⟨x.keep p o hp np, ?_, fun k l e => ?_⟩
  · cases q : F' p with
    | none => rfl
    | some u =>
      rcases x.new p fp (by rw [q]; exact fun z => nomatch z) with z | ⟨k, l, z⟩
      · rw [hp] at z; cases z
      · exact absurd z (np k l)
  · by_cases hk : k < m.length
    · have hr : k < r.length := by rw [hl]; exact hk
      have e1 : r[k]? = some r[k] := List.getElem?_eq_getElem hr
      have e2 := x.pre k _ e1
      rw [e] at e2
      exact np k (x.dead k hk l) (by rw [e1, ← e2])
    · have := x.fresh k p (Nat.not_lt.mp hk) e
      rw [hp] at this; cases this
theorem Ext.sideSet {r r' : List Addr} {F F' H H' : Hp} {m' : Store} (x : Ext r F H m r' F' H' m') {p : Addr} {o : HO} (hp : H p = none) : Ext r F H m r' F' (upd H' p o) m' where
  pre := x.pre
  sub := x.sub
  keep := fun a u e n => by rw [upd_ne (ne_of_none e hp)]; exact x.keep a u e n
  new := x.new
  fresh := x.fresh
  dead := x.dead
  mlen := x.mlen
  trk := fun a u e => by rw [upd_ne (ne_of_none e hp)]; exact x.trk a u e
theorem yn_lcG {C : Store → Prop} {wi : TI} {xs : List D} (hi : YI K C wi δ m xs m1) (ms : Nat → Store) (outs : Nat → List D) (e0 : ms 0 = m1) (o0 : outs 0 = []) (hC : ∀ i, i ≤ xs.length → C (ms i)) (hl : ∀ i, i ≤ xs.length → (outs i).length < 100000)
    (step : ∀ i d, xs[i]? = some d → ∃ δ' b m', YGw K vs g d (wipeE δ vs) δ' ∧ YT K tt δ' (ms i) b m' ∧ (b = true → ∃ z, YE K te δ' m' z (ms (i + 1)) ∧ outs (i + 1) = outs i ++ [z]) ∧ (b = false → m' = ms (i + 1) ∧ outs (i + 1) = outs i)) :
    YN K (tLc wi g tt te vs) δ m (outs xs.length) (ms xs.length) := fun r F H σ hr er Q q =>
  hi r F H σ hr er _ fun J r1 F1 H1 hr1 x1 ok Dl hD => by
    subst e0
    have hD0 : H Dl = none := trk_back x1 hD
    let Pv : Nat → Hp → Prop := fun i H' => ∃ r' F' ws, HR K r' F' H' (ms i) ∧ Ext r F H m r' F' H' (ms i) ∧ Pre r1 r' ∧ Same F1 F' ∧ H' Dl = some (.lst ws) ∧ RepAll K r' F' ws (outs i) ∧ F' Dl = none ∧ ∀ (k : Nat), live (ms i) k → r'[k]? ≠ some Dl
    refine ⟨fun i mm H' => mm = xs.length - i ∧ i ≤ xs.length ∧ Pv i H', ⟨xs.length, by simp, Nat.zero_le _, r1, F1, [], hr1.side hD, x1.trans hr1.len hr.len (Ext.side hr1 hD), Pre.refl _, Same.refl _, upd_same, by rw [o0]; exact .nil, hr1.sub.free hD, fun k l e => (hr1.ne_new hD l e) rfl⟩, ?_⟩
    rintro i mm H' ⟨rfl, hin, r', F', ws, hr', x', pr', sm', hw, ra, fD, nD⟩
    obtain ⟨go, stop⟩ := ok r' F' H' (ms i) pr' sm' hr' (hC i hin) i
    by_cases hlt : i < xs.length
    · have ed : xs[i]? = some xs[i] := List.getElem?_eq_getElem hlt
      obtain ⟨hgo, hy⟩ := go _ ed
      obtain ⟨δ', b, m', hg, ht, hyes, hno⟩ := step i _ ed
      refine .inr ⟨hgo, Pv (i + 1), fun H2 p2 => ⟨xs.length - (i + 1), by omega, rfl, hlt, p2⟩, fun x H'' y => ?_⟩
      obtain ⟨F2, hr2, x2, p2⟩ := hy x H'' y
      have er2 : ER K r' F2 (wipe σ vs) (wipeE δ vs) := ((er.ext x').ext x2).wipe vs
      obtain ⟨hw2, fD2, nD2⟩ := x2.side_keep hr'.len hw fD nD
      refine hg r' F2 H'' (ms i) (wipe σ vs) x hr2 er2 p2 _ fun σ3 er3 w3 => ⟨w3.trans wipe_wipe, ?_⟩
      refine ht r' F2 H'' σ3 hr2 er3 _ fun r4 F4 H4 hr4 x4 => ?_
      have x24 := x2.trans hr2.len hr'.len x4
      obtain ⟨hw4, fD4, nD4⟩ := x24.side_keep hr'.len hw fD nD
      have x04 := x'.trans hr'.len hr.len x24
      cases b with
      | true =>
        rw [if_pos rfl]
        obtain ⟨z, he, eo⟩ := hyes rfl
        refine he r4 F4 H4 σ3 hr4 (er3.ext x4) _ fun v r5 F5 H5 hr5 x5 p5 => ?_
        obtain ⟨hw5, fD5, nD5⟩ := x5.side_keep hr4.len hw4 fD4 nD4
        have ra5 := (ra.mono x24.pre x24.sub).mono x5.pre x5.sub
        refine ⟨ws, hw5, Evl.sz_lt (by rw [ra.len]; exact hl i hin), r5, F5, ws ++ [v], hr5.sideSet fD5 nD5 (fun b z => by rw [hw5] at z; cases z), (x04.trans hr4.len hr.len x5).sideSet hD0, (pr'.trans x24.pre).trans x5.pre, (sm'.trans x24.sub).trans x5.sub, upd_same, ?_, fD5, nD5⟩
        rw [eo]; exact ra5.app (.one p5)
      | false =>
        rw [if_neg Bool.false_ne_true]
        obtain ⟨em, eo⟩ := hno rfl
        subst em
        exact ⟨r4, F4, ws, hr4, x04, pr'.trans x24.pre, sm'.trans x24.sub, hw4, by rw [eo]; exact ra.mono x24.pre x24.sub, fD4, nD4⟩
    · have hi' : i = xs.length := by omega
      subst hi'
      exact .inl ⟨stop (Nat.le_refl _), q Dl ws r' F' H' hr' x' hD0 fD nD hw ra⟩
theorem yt_yes : YT K tYes δ m true m := fun r F H σ hr er Q q => q r F H hr (Ext.refl hr)
/-- a comprehension that changes no cell, over typed items -/
theorem yn_lc {α : Type} {C : Store → Prop} {wi : TI} (ys : List α) (en : α → D) (p : α → Bool) (f : α → D) (hi : YI K C wi δ m (ys.map en) m1) (hC : C m1) (hl : ys.length < 100000)
    (step : ∀ y ∈ ys, ∃ δ', YGw K vs g (en y) (wipeE δ vs) δ' ∧ YT K tt δ' m1 (p y) m1 ∧ (p y = true → YE K te δ' m1 (f y) m1)) : YN K (tLc wi g tt te vs) δ m ((ys.filter p).map f) m1 := by
  have key := yn_lcG (K := K) (g := g) (tt := tt) (te := te) (vs := vs) hi (fun _ => m1) (fun i => ((ys.take i).filter p).map f) rfl (by simp) (fun _ _ => hC) (fun i _ => by
    rw [List.length_map]
    refine Nat.lt_of_le_of_lt (List.length_filter_le _ _) ?_
    rw [List.length_take]; omega) (fun i d hd => by
      rw [List.getElem?_map] at hd
      cases e : ys[i]? with
      | none => rw [e] at hd; cases hd
      | some y =>
        rw [e] at hd; cases hd
        obtain ⟨δ', h1, h2, h3⟩ := step y (List.mem_of_getElem? e)
        have et : ys.take (i + 1) = ys.take i ++ [y] := by rw [List.take_add_one, e]; rfl
        refine ⟨δ', p y, m1, h1, h2, fun hp => ⟨f y, h3 hp, ?_⟩, fun hp => ⟨rfl, ?_⟩⟩
        · show ((ys.take (i + 1)).filter p).map f = _
          rw [et, List.filter_append, List.map_append]; simp [hp]
        · show ((ys.take (i + 1)).filter p).map f = _
          rw [et, List.filter_append, List.map_append]; simp [hp])
  have e : ((ys.take (ys.map en).length).filter p).map f = (ys.filter p).map f := by rw [List.length_map, List.take_length]
  rw [← e]
  exact key
/-- .. without a test -/
theorem yn_lcM {α : Type} {C : Store → Prop} {wi : TI} (ys : List α) (en : α → D) (f : α → D) (hi : YI K C wi δ m (ys.map en) m1) (hC : C m1) (hl : ys.length < 100000)
    (step : ∀ y ∈ ys, ∃ δ', YGw K vs g (en y) (wipeE δ vs) δ' ∧ YE K te δ' m1 (f y) m1) : YN K (tLc wi g tYes te vs) δ m (ys.map f) m1 := by
  have := yn_lc (K := K) (g := g) (tt := tYes) (te := te) (vs := vs) ys en (fun _ => true) f hi hC hl fun y hy => by
    obtain ⟨δ', h1, h2⟩ := step y hy
    exact ⟨δ', h1, yt_yes, fun _ => h2⟩
  rwa [List.filter_eq_self.mpr (fun _ _ => rfl)] at this

/-! ### calls and defs -/
inductive Res where
  | ok (d : D)
  | ex (C : Value)
abbrev Spec := List D → Store → Res → Store → Prop
def ResOk (K : PySem.W.Frag) (r : List Addr) (F H : Hp) (m : Store) (Q : VK) (E : XK) (m' : Store) : Res → Prop
  | .ok d => Post1 K r F H m d m' Q
  | .ex C => ∀ r' F' H', HR K r' F' H' m' → Ext r F H m r' F' H' m' → E C none H'
def spD (K : PySem.W.Frag) (S : Spec) : Sp := fun vs H Q E => ∃ r F m ds res m', HR K r F H m ∧ RepAll K r F vs ds ∧ S ds m res m' ∧ ResOk K r F H m Q E m' res
theorem ye_call {S : Spec} {ds : List D} (ha : YA K tas δ m ds m1) (hs : S ds m1 (.ok d) m2) : YE K (tCall (spD K S) [] E0 tas) δ m d m2 := fun r F H σ hr er Q q =>
  ha r F H σ hr er _ fun ws r1 F1 H1 hr1 x1 p1 => by
    show spD K S (ws ++ []) H1 Q E0
    rw [List.append_nil]
    exact ⟨r1, F1, m1, ds, .ok d, m2, hr1, p1, hs, fun v r2 F2 H2 hr2 x2 p2 => q v r2 F2 H2 hr2 (x1.trans hr1.len hr.len x2) p2⟩
theorem ye_callS {S : Spec} {ds : List D} {E : L2.St → XK} (ha : YA K tas δ m ds m1) (hs : S ds m1 (.ok d) m2) : YE K (tCallS (spD K S) E tas) δ m d m2 := fun r F H σ hr er Q q =>
  ha r F H σ hr er _ fun ws r1 F1 H1 hr1 x1 p1 =>
    ⟨r1, F1, m1, ds, .ok d, m2, hr1, p1, hs, fun v r2 F2 H2 hr2 x2 p2 => q v r2 F2 H2 hr2 (x1.trans hr1.len hr.len x2) p2⟩

end
mutual
/-- its cells are below n -/
def D.und (n : Nat) : D → Bool
  | .lst xs => D.unds n xs
  | .tup xs => D.unds n xs
  | .cell k => decide (k < n)
  | _ => true
def D.unds (n : Nat) : List D → Bool
  | [] => true
  | d :: ds => D.und n d && D.unds n ds
end
mutual
theorem D.pure_und (n : Nat) : ∀ d : D, d.pure = true → d.und n = true
  | .non, _ => rfl
  | .bl _, _ => rfl
  | .int _, _ => rfl
  | .str _, _ => rfl
  | .scr _, _ => rfl
  | .cell _, h => nomatch h
  | .lst xs, h => D.pures_und n xs h
  | .tup xs, h => D.pures_und n xs h
theorem D.pures_und (n : Nat) : ∀ ds : List D, D.pures ds = true → D.unds n ds = true
  | [], _ => rfl
  | d :: ds, h => by
    have q : (D.pure d && D.pures ds) = true := h
    show (D.und n d && D.unds n ds) = true
    rw [D.pure_und n d (Bool.and_eq_true_iff.mp q).1, D.pures_und n ds (Bool.and_eq_true_iff.mp q).2]; rfl
end
mutual
theorem D.und_mono {n n' : Nat} (h : n ≤ n') : ∀ d : D, d.und n = true → d.und n' = true
  | .non, _ => rfl
  | .bl _, _ => rfl
  | .int _, _ => rfl
  | .str _, _ => rfl
  | .scr _, _ => rfl
  | .cell k, q => by
    have : k < n := of_decide_eq_true q
    exact decide_eq_true (by omega)
  | .lst xs, q => D.unds_mono h xs q
  | .tup xs, q => D.unds_mono h xs q
theorem D.unds_mono {n n' : Nat} (h : n ≤ n') : ∀ ds : List D, D.unds n ds = true → D.unds n' ds = true
  | [], _ => rfl
  | d :: ds, q => by
    have q : (D.und n d && D.unds n ds) = true := q
    show (D.und n' d && D.unds n' ds) = true
    rw [D.und_mono h d (Bool.and_eq_true_iff.mp q).1, D.unds_mono h ds (Bool.and_eq_true_iff.mp q).2]; rfl
end
section
variable {K : PySem.W.Frag} {r : List Addr} {F : Hp} {n : Nat}
mutual
theorem Rep.und : ∀ {v : V} {d : D}, Rep K r F v d → d.und r.length = true
  | _, _, .non => rfl
  | _, _, .bl _ => rfl
  | _, _, .int _ => rfl
  | _, _, .str _ => rfl
  | _, _, .scr _ => rfl
  | _, _, .lst _ h => RepAll.und h
  | _, _, .tup _ h => RepAll.und h
  | _, _, .cell h => decide_eq_true (List.getElem?_eq_some_iff.mp h).1
theorem RepAll.und : ∀ {vs : List V} {ds : List D}, RepAll K r F vs ds → D.unds r.length ds = true
  | _, _, .nil => rfl
  | _, _, .cons h t => by
    show (D.und _ _ && D.unds _ _) = true
    rw [Rep.und h, RepAll.und t]; rfl
end
mutual
theorem Rep.cut : ∀ {v : V} {d : D}, d.und n = true → Rep K r F v d → Rep K (r.take n) F v d
  | _, _, _, .non => .non
  | _, _, _, .bl b => .bl b
  | _, _, _, .int i => .int i
  | _, _, _, .str x => .str x
  | _, _, _, .scr h => .scr h
  | _, _, p, .lst s h => .lst s (RepAll.cut p h)
  | _, _, p, .tup s h => .tup s (RepAll.cut p h)
  | _, _, p, .cell h => .cell (by rw [List.getElem?_take, if_pos (of_decide_eq_true p)]; exact h)
theorem RepAll.cut : ∀ {vs : List V} {ds : List D}, D.unds n ds = true → RepAll K r F vs ds → RepAll K (r.take n) F vs ds
  | _, _, _, .nil => .nil
  | _, _, p, .cons h t =>
    have q : (D.und n _ && D.unds n _) = true := p
    .cons (Rep.cut (Bool.and_eq_true_iff.mp q).1 h) (RepAll.cut (Bool.and_eq_true_iff.mp q).2 t)
end
end
def belowF (n : Nat) (fs : List (Str × D)) : Bool := fs.all fun p => p.2.und n
def belowK (n : Nat) (fs : List (Key × D)) : Bool := fs.all fun p => p.2.und n
def Cell.und (n : Nat) : Cell → Bool
  | .lst xs => D.unds n xs
  | .ins _ fs => belowF n fs
  | .dK kvs => belowK n kvs
  | .gone => true
theorem belowF_mono {n n' : Nat} (h : n ≤ n') {fs : List (Str × D)} (q : belowF n fs = true) : belowF n' fs = true := List.all_eq_true.mpr fun p hp => D.und_mono h _ (List.all_eq_true.mp q p hp)
theorem belowK_mono {n n' : Nat} (h : n ≤ n') {fs : List (Key × D)} (q : belowK n fs = true) : belowK n' fs = true := List.all_eq_true.mpr fun p hp => D.und_mono h _ (List.all_eq_true.mp q p hp)
theorem Cell.und_mono {n n' : Nat} (h : n ≤ n') : ∀ {c : Cell}, c.und n = true → c.und n' = true
  | .lst xs, q => D.unds_mono h xs q
  | .ins _ fs, q => belowF_mono h q
  | .dK kvs, q => belowK_mono h q
  | .gone, _ => rfl
section
variable {K : PySem.W.Frag} {r : List Addr} {F H : Hp} {n : Nat} {m m' m0 loc : Store}
theorem RepF.und : ∀ {gs : List (Str × V)} {fs : List (Str × D)}, RepF K r F gs fs → belowF r.length fs = true
  | [], [], _ => rfl
  | (_, _) :: gs, (_, _) :: fs, h => by
    show ((D.und _ _) && belowF _ fs) = true
    rw [h.2.1.und, RepF.und h.2.2]; rfl
  | [], _ :: _, h => h.elim
  | _ :: _, [], h => h.elim
theorem RepK.und : ∀ {gs : List (Key × V)} {fs : List (Key × D)}, RepK K r F gs fs → belowK r.length fs = true
  | [], [], _ => rfl
  | (_, _) :: gs, (_, _) :: fs, h => by
    show ((D.und _ _) && belowK _ fs) = true
    rw [h.2.1.und, RepK.und h.2.2]; rfl
  | [], _ :: _, h => h.elim
  | _ :: _, [], h => h.elim
theorem RepF.cut : ∀ {gs : List (Str × V)} {fs : List (Str × D)}, belowF n fs = true → RepF K r F gs fs → RepF K (r.take n) F gs fs
  | [], [], _, _ => trivial
  | (_, _) :: gs, (_, _) :: fs, q, h => by
    have q : (D.und n _ && belowF n fs) = true := q
    exact ⟨h.1, h.2.1.cut (Bool.and_eq_true_iff.mp q).1, RepF.cut (Bool.and_eq_true_iff.mp q).2 h.2.2⟩
  | [], _ :: _, _, h => h.elim
  | _ :: _, [], _, h => h.elim
theorem RepK.cut : ∀ {gs : List (Key × V)} {fs : List (Key × D)}, belowK n fs = true → RepK K r F gs fs → RepK K (r.take n) F gs fs
  | [], [], _, _ => trivial
  | (_, _) :: gs, (_, _) :: fs, q, h => by
    have q : (D.und n _ && belowK n fs) = true := q
    exact ⟨h.1, h.2.1.cut (Bool.and_eq_true_iff.mp q).1, RepK.cut (Bool.and_eq_true_iff.mp q).2 h.2.2⟩
  | [], _ :: _, _, h => h.elim
  | _ :: _, [], _, h => h.elim
theorem CellOk.und {a : Addr} : ∀ {c : Cell}, CellOk K r F H a c → c.und r.length = true
  | .lst xs, ⟨vs, h, q⟩ => q.und
  | .ins C fs, ⟨dx, gs, h, h2, q⟩ => q.und
  | .dK kvs, ⟨gs, h, q⟩ => q.und
  | .gone, _ => rfl
theorem CellOk.cut {a : Addr} : ∀ {c : Cell}, c.und n = true → CellOk K r F H a c → CellOk K (r.take n) F H a c
  | .lst xs, b, ⟨vs, h, q⟩ => ⟨vs, h, q.cut b⟩
  | .ins C fs, b, ⟨dx, gs, h, h2, q⟩ => ⟨dx, gs, h, h2, q.cut b⟩
  | .dK kvs, b, ⟨gs, h, q⟩ => ⟨gs, h, q.cut b⟩
  | .gone, _, _ => trivial
theorem HR.und (h : HR K r F H m) {k : Nat} {c : Cell} (e : m[k]? = some c) : c.und m.length = true := by
  by_cases ng : c = .gone
  · subst ng; rfl
  · have hk : k < r.length := by rw [h.len]; exact (List.getElem?_eq_some_iff.mp e).1
    have := (h.cell k r[k] c (List.getElem?_eq_getElem hk) e ng).2.und
    rwa [h.len] at this
/-- every cell of m' is m's, or its cells are below m''s length -/
def Tidy (m m' : Store) : Prop := m.length ≤ m'.length ∧ ∀ (k : Nat) c, m'[k]? = some c → m[k]? = some c ∨ c.und m'.length = true
theorem Tidy.refl (m : Store) : Tidy m m := ⟨Nat.le_refl _, fun _ _ e => .inl e⟩
theorem Tidy.set {c : Cell} {k : Nat} (h : Tidy m m') (hc : c.und m'.length = true) : Tidy m (m'.set k c) := ⟨by simpa using h.1, fun j c' e => by
  rw [List.length_set]
  by_cases hj : k = j
  · subst hj
    have : k < (m'.set k c).length := (List.getElem?_eq_some_iff.mp e).1
    rw [List.length_set] at this
    rw [List.getElem?_set_self this] at e; cases e; exact .inr hc
  · rw [List.getElem?_set_ne hj] at e; exact h.2 j c' e⟩
theorem Tidy.app {c : Cell} (h : Tidy m m') (hc : c.und (m'.length + 1) = true) : Tidy m (m' ++ [c]) := ⟨by simp; exact Nat.le_succ_of_le h.1, fun j c' e => by
  rw [List.length_append]
  by_cases hj : j < m'.length
  · rw [List.getElem?_append_left hj] at e
    rcases h.2 j c' e with z | z
    · exact .inl z
    · exact .inr (Cell.und_mono (Nat.le_add_right _ _) z)
  · rw [List.getElem?_append_right (by omega)] at e
    cases q : j - m'.length with
    | zero => rw [q] at e; simp at e; subst e; exact .inr hc
    | succ i => rw [q] at e; simp at e⟩
theorem HR.trunc {r0 : List Addr} {F0 H0 : Hp} (h0 : HR K r0 F0 H0 m0) (ti : Tidy m0 m) (h : HR K r F H (m ++ loc)) : HR K (r.take m.length) F H m := by
  have low : ∀ (k : Nat) a, (r.take m.length)[k]? = some a → r[k]? = some a ∧ k < m.length := fun k a e => by
    rw [List.getElem?_take] at e
    split at e
    · rename_i hk; exact ⟨e, hk⟩
    · cases e
  have lv : ∀ k, live m k → live (m ++ loc) k := fun k ⟨c, e, ng⟩ => ⟨c, by rw [List.getElem?_append_left (List.getElem?_eq_some_iff.mp e).1]; exact e, ng⟩
  refine ⟨?_, h.sub, fun k a c e1 e2 ng => ?_, fun k l a e1 e2 l1 l2 => h.inj k l a (low k a e1).1 (low l a e2).1 (lv k l1) (lv l l2)⟩
  · rw [List.length_take]
    have := h.len
    rw [List.length_append] at this
    omega
  · obtain ⟨e1', hk⟩ := low k a e1
    obtain ⟨q1, q2⟩ := h.cell k a c e1' (by rw [List.getElem?_append_left hk]; exact e2) ng
    refine ⟨q1, q2.cut ?_⟩
    rcases ti.2 k c e2 with z | z
    · exact Cell.und_mono ti.1 (h0.und z)
    · exact z
theorem Ext.trunc {r0 : List Addr} {F0 H0 : Hp} (hl : r0.length = m0.length) (ti : m0.length ≤ m.length) (x : Ext r0 F0 H0 m0 r F H (m ++ loc)) : Ext r0 F0 H0 m0 (r.take m.length) F H m where
  pre := fun k a e => by
    have hk : k < r0.length := (List.getElem?_eq_some_iff.mp e).1
    rw [List.getElem?_take, if_pos (by omega)]; exact x.pre k a e
  sub := x.sub
  keep := x.keep
  new := x.new
  fresh := fun k a hk e => by
    rw [List.getElem?_take] at e
    split at e
    · exact x.fresh k a hk e
    · cases e
  dead := fun k hk l => x.dead k hk (by
    obtain ⟨c, e, ng⟩ := l
    exact ⟨c, by rw [List.getElem?_append_left (List.getElem?_eq_some_iff.mp e).1]; exact e, ng⟩)
  mlen := ti
  trk := x.trk
/-- how a body's end answers a call, from the store m0 -/
inductive Fits (m0 : Store) : Out → Res → Store → Prop
  | rt {d : D} {m : Store} : Fits m0 (.rt d m) (.ok d) m
  | nx {δ : En} {m : Store} : Fits m0 (.nx δ m) (.ok .non) m
  | ex {C : Value} {δ : En} {m : Store} : Fits m0 (.ex C δ m) (.ex C) m
  | rtd {d : D} {m : Store} (loc : Store) : Tidy m0 m → d.und m.length = true → Fits m0 (.rt d (m ++ loc)) (.ok d) m
  | nxd {δ : En} {m : Store} (loc : Store) : Tidy m0 m → Fits m0 (.nx δ (m ++ loc)) (.ok .non) m
  | exd {C : Value} {δ : En} {m : Store} (loc : Store) : Tidy m0 m → Fits m0 (.ex C δ (m ++ loc)) (.ex C) m
def st (n : Nat) (ds : List D) : En := ds.map some ++ List.replicate (n - ds.length) none
abbrev startD (N : List Str) (ds : List D) : En := st N.length ds
theorem er_start {N : List Str} {vs : List V} {ds : List D} (h : RepAll K r F vs ds) : ER K r F (L2.start N vs) (startD N ds) := by
  refine ⟨by simp [L2.start, startD, st, h.len], fun i d e => ?_⟩
  unfold startD st at e
  by_cases hi : i < ds.length
  · rw [List.getElem?_append_left (by simpa using hi), List.getElem?_map] at e
    cases q : ds[i]? with
    | none => rw [q] at e; cases e
    | some d' =>
      rw [q] at e; cases e
      obtain ⟨v, e1, p⟩ := h.get q
      refine ⟨v, ?_, p⟩
      unfold L2.start
      rw [List.getElem?_append_left (by rw [List.length_map, h.len]; exact hi), List.getElem?_map, e1]; rfl
  · rw [List.getElem?_append_right (by simpa using hi), List.getElem?_replicate] at e
    split at e <;> cases e
end
/-- THE RULE for a def -/
theorem fn_okC {CX : CXT} {P : Program} {w : World} {K : PySem.W.Frag} {mg : Str → Option Value} {base : Heap} {x qual : Str} {params : Arguments} {body : List Stmt} {scope : Scope} {f : Addr} {fd : FuncData} {N ps : List Str} {k : Nat} {S : Spec}
    (F : FunD K x qual params body scope [] [] f fd) (sc : FnScope N ps scope) (hlen : ∀ ds m res m', S ds m res m' → ds.length = ps.length) (t : WX → TS)
    (hP : ∀ (cdv : Value) (A : Around) (outer : List Env) (s : Shared) (H : Hp) (E : XK), Room k (A.deeper (envOfC qual scope s.heap.objs.size f cdv)) → PSs (cxOf CX P w K mg base N qual scope f cdv A outer s H E) body (t fun cls d _ H' => E cls d H'))
    (hY : ∀ W ds m res m', S ds m res m' → ∃ o, YS K W (t W) (startD N ds) m o ∧ Fits m o res m') : FnOk P w K mg base CX (k + 1) f fd ps (spD K S) := by
  refine F.ok sc (fun vs H Q E h => ?_) (fun cdv A outer s H vs Q E hr h => ?_)
  · obtain ⟨r, F, m, ds, res, m', _, p, hs, _⟩ := h
    rw [p.len]; exact hlen _ _ _ _ hs
  · obtain ⟨r, F, m, ds, res, m', hr0, p, hs, q⟩ := h
    obtain ⟨o, hy, hf⟩ := hY (fun cls d _ H' => E cls d H') ds m res m' hs
    refine ⟨_, hP cdv A outer s H E hr, hy r F H _ _ hr0 (er_start p) ?_⟩
    cases hf with
    | rt => exact fun v r' F' H' h1 x1 p1 => q v r' F' H' h1 x1 p1
    | nx => exact fun σ' r' F' H' h1 _ x1 => q .non r' F' H' h1 x1 .non
    | ex => exact fun σ' r' F' H' h1 _ x1 => q r' F' H' h1 x1
    | rtd loc ti hb => exact fun v r' F' H' h1 x1 p1 => q v _ F' H' (hr0.trunc ti h1) (x1.trunc hr0.len ti.1) (p1.cut hb)
    | nxd loc ti => exact fun σ' r' F' H' h1 _ x1 => q .non _ F' H' (hr0.trunc ti h1) (x1.trunc hr0.len ti.1) .non
    | exd loc ti => exact fun σ' r' F' H' h1 _ x1 => q _ F' H' (hr0.trunc ti h1) (x1.trunc hr0.len ti.1)
theorem fn_ok {P : Program} {w : World} {K : PySem.W.Frag} {mg : Str → Option Value} {base : Heap} {x qual : Str} {params : Arguments} {body : List Stmt} {scope : Scope} {f : Addr} {fd : FuncData} {N ps : List Str} {k : Nat} {S : Spec}
    (F : FunD K x qual params body scope [] [] f fd) (sc : FnScope N ps scope) (hlen : ∀ ds m res m', S ds m res m' → ds.length = ps.length) (t : WX → TS)
    (hP : ∀ (cdv : Value) (A : Around) (outer : List Env) (s : Shared) (H : Hp) (E : XK), Room k (A.deeper (envOfC qual scope s.heap.objs.size f cdv)) → PSs (cxOf (L2.CX P w) P w K mg base N qual scope f cdv A outer s H E) body (t fun cls d _ H' => E cls d H'))
    (hY : ∀ W ds m res m', S ds m res m' → ∃ o, YS K W (t W) (startD N ds) m o ∧ Fits m o res m') : FnOk P w K mg base (L2.CX P w) (k + 1) f fd ps (spD K S) := fn_okC F sc hlen t hP hY
end DL
namespace DL
open PySem PySem.Spec PyProof.Rows L2
/-! ### short names of readings -/
abbrev oAdd : R2 := rI0 fun i j => .int (i + j)
abbrev oSub : R2 := rI0 fun i j => .int (i - j)
abbrev oMul : R2 := rI CMul fun i j => .int (i * j)
abbrev oDiv : R2 := rI CDivW fun i j => .int (i / j)
abbrev oMod : R2 := rI (fun _ j => 0 < j) fun i j => .int (i % j)
abbrev oPow : R2 := rI CPow fun i j => .int (i ^ j.toNat)
abbrev oLt : R2 := rI0 fun i j => .bl (decide (i < j))
abbrev oLe : R2 := rI0 fun i j => .bl (decide (i ≤ j))
abbrev oGt : R2 := rI0 fun i j => .bl (decide (j < i))
abbrev oGe : R2 := rI0 fun i j => .bl (decide (j ≤ i))
abbrev oIsN : R2 := fun x y H Q => y = .non ∧ Q (.bl (decide (x = .non))) H
abbrev oNotN : R2 := fun x y H Q => y = .non ∧ Q (.bl (!decide (x = .non))) H
abbrev oNeg : V → Hp → VK → Prop := rU fun i => .int (-i)
abbrev rMin2 : List V → Hp → VK → Prop := fun xs H Q => ∃ i j, xs = [.int i, .int j] ∧ Q (.int (if j < i then j else i)) H
abbrev rAbs : List V → Hp → VK → Prop := fun xs H Q => ∃ i, xs = [.int i] ∧ Q (.int (if i < 0 then -i else i)) H
theorem y_neg {K : PySem.W.Frag} {m : Store} {i : Int} : Y1 K oNeg (.int i) m (.int (-i)) m := fun r F H x hr p Q q => by
  cases p; exact ⟨i, rfl, post1 hr q (.int _)⟩
/-! ### what a callee is known by -/
def Cal (P : Program) (w : World) (K : PySem.W.Frag) (mg : Str → Option Value) (base : Heap) (x : Str) (k : Nat) (ps : List Str) (S : Spec) : Prop :=
  ∃ fd, FnOk P w K mg base (L2.CX P w) k (He.ga K x) fd ps (spD K S) ∧ Binds K fd ps [] ∧ PySem.W.keepIn K (.ref (He.ga K x)) = true ∧ mg x = some (.ref (He.ga K x))
section
variable {X : Cx} {k : Nat} {ps : List Str} {S : Spec} {x : Str} {p pos : Pos} {e : Expr} {es : List Expr} {t : TA}
theorem pe_own {j : Nat} (C : Cal X.prog X.w X.K X.mg X.base x j ps S) (hr : Room j X.A) (hg : Gl X x) (ha : PA X (e :: es) t) (hdb : (x == ("__debug__" : Str)) = false := by decide)
    (he : starEach (e :: es) X.env = (false, eval e X.env) :: starEach es X.env := by rfl) (hpl : (backTo pos (starEach es X.env)).any (·.1) = false := by rfl) : PE X (.Call (.Name x p) (e :: es) [] pos) (tCall (spD X.K S) [] E0 t) := by
  obtain ⟨fd, F, b, kp, m⟩ := C
  exact pe_call F hr hg m kp b .nil passL ha hdb he hpl
theorem pe_own0 {j : Nat} (C : Cal X.prog X.w X.K X.mg X.base x j ps S) (hr : Room j X.A) (hg : Gl X x) (hdb : (x == ("__debug__" : Str)) = false := by decide) : PE X (.Call (.Name x p) [] [] pos) (tCall (spD X.K S) [] E0 tNil) := by
  obtain ⟨fd, F, b, kp, m⟩ := C
  exact pe_call0 F hr hg m kp b .nil passL hdb
/-- a constant of the top -/
theorem pe_const {i : Int} {pos : Pos} (h : ∃ t, X.mg x = some (.int i t)) (hg : Gl X x) (hd : (x == ("__debug__" : Str)) = false := by decide) : PE X (.Name x pos) (tC (.int i)) := by
  obtain ⟨t, h⟩ := h
  exact pe_glob hg h ⟨t, rfl⟩ hd
theorem pe_constS {i : Str} {pos : Pos} (h : ∃ t, X.mg x = some (.str i t)) (hg : Gl X x) (hd : (x == ("__debug__" : Str)) = false := by decide) : PE X (.Name x pos) (tC (.str i)) := by
  obtain ⟨t, h⟩ := h
  exact pe_glob hg h ⟨t, rfl⟩ hd
end
theorem bt_len : bootBuiltins "len" = some (.builtin "len") := by decide +kernel
theorem bt_max : bootBuiltins "max" = some (.builtin "max") := by decide +kernel
theorem bt_min : bootBuiltins "min" = some (.builtin "min") := by decide +kernel
theorem bt_sum : bootBuiltins "sum" = some (.builtin "sum") := by decide +kernel
theorem bt_all : bootBuiltins "all" = some (.builtin "all") := by decide +kernel
theorem bt_any : bootBuiltins "any" = some (.builtin "any") := by decide +kernel
theorem bt_abs : bootBuiltins "abs" = some (.builtin "abs") := by decide +kernel
theorem bt_sorted : bootBuiltins "sorted" = some (.builtin "sorted") := by decide +kernel
theorem bt_isinstance : bootBuiltins "isinstance" = some (.builtin "isinstance") := by decide +kernel
theorem bt_list : bootBuiltins "list" = some (.type "list") := by decide +kernel
theorem bt_tuple : bootBuiltins "tuple" = some (.type "tuple") := by decide +kernel
theorem bt_int : bootBuiltins "int" = some (.type "int") := by decide +kernel
theorem bt_bool : bootBuiltins "bool" = some (.type "bool") := by decide +kernel
theorem bt_str : bootBuiltins "str" = some (.type "str") := by decide +kernel
theorem bt_set : bootBuiltins "set" = some (.type "set") := by decide +kernel
end DL
namespace DL
open PySem PySem.Spec PyProof.Rows L2
/-! ### isinstance of built-in classes -/
/-- the name of a datum's type -/
inductive Tn (m : Store) : D → String → Prop
  | non : Tn m .non "NoneType"
  | bl {b : Bool} : Tn m (.bl b) "bool"
  | int {i : Int} : Tn m (.int i) "int"
  | str {x : Str} : Tn m (.str x) "str"
  | lst {xs : List D} : Tn m (.lst xs) "list"
  | tup {xs : List D} : Tn m (.tup xs) "tuple"
  | cell {k : Nat} {xs : List D} : m[k]? = some (.lst xs) → Tn m (.cell k) "list"
theorem y_isi {K : PySem.W.Frag} {m : Store} {d : D} {n c : String} {b : Bool} (h : Tn m d n) (hb : kitB n c = some b) : Y1 K (fun x H Q => rIsi K [x, .ty c] H Q) d m (.bl b) m := fun r F H x hr p Q q => by
  have ty : TyX K H x (.type n) := by
    cases h with
    | non => cases p; exact .base .non
    | bl => cases p; exact .base (.bl _)
    | int => cases p; exact .base (.int _)
    | str => cases p; exact .base (.str _)
    | lst => cases p with
      | lst hs _ => exact .base (.lst (hr.sub _ _ hs))
    | tup => cases p with
      | tup hs _ => exact .base (.tup (hr.sub _ _ hs))
    | cell hk => cases p with
      | cell ea =>
        obtain ⟨_, vs, h1, _⟩ := hr.cell _ _ _ ea hk (fun z => nomatch z)
        exact .base (.lst h1)
  exact ⟨x, .ty c, .type n, .type c, b, rfl, .ty c, ty, kit_ty hb, post1 hr q (.bl _)⟩
theorem ye_isi {K : PySem.W.Frag} {te : TE} {δ : En} {m m1 : Store} {d : D} {n c : String} {b : Bool} (he : YE K te δ m d m1) (h : Tn m1 d n) (hb : kitB n c = some b) : YE K (tCB (rIsi K) (tCons te (tCons (tC (.ty c)) tNil))) δ m (.bl b) m1 := fun r F H σ hr er Q q =>
  he r F H σ hr er _ fun v r1 F1 H1 hr1 x1 p1 => y_isi h hb r1 F1 H1 v hr1 p1 Q fun v2 r2 F2 H2 hr2 x2 p2 => q v2 r2 F2 H2 hr2 (x1.trans hr1.len hr.len x2) p2
theorem kb_bb : kitB "bool" "bool" = some true := by decide +kernel
theorem kb_bi : kitB "bool" "int" = some true := by decide +kernel
theorem kb_ib : kitB "int" "bool" = some false := by decide +kernel
theorem kb_ii : kitB "int" "int" = some true := by decide +kernel
theorem kb_ll : kitB "list" "list" = some true := by decide +kernel
theorem kb_tt : kitB "tuple" "tuple" = some true := by decide +kernel
theorem kb_lt : kitB "list" "tuple" = some false := by decide +kernel
theorem kb_tl : kitB "tuple" "list" = some false := by decide +kernel
theorem kb_ss : kitB "str" "str" = some true := by decide +kernel
theorem kb_ni : kitB "NoneType" "int" = some false := by decide +kernel
theorem kb_si : kitB "str" "int" = some false := by decide +kernel
end DL
namespace DL
open PySem PySem.Spec PyProof.Rows L2
section
variable {K : PySem.W.Frag} {W : WX} {te ta tb : TE} {tt : TT} {t u : TS} {g : TG} {δ δ1 δ2 : En} {m m1 m2 m3 : Store} {d e : D} {o : Out} {tas : TA} {i j : Int}
theorem y_ixI {ds : List D} (h : IsL m d ds) (h2 : L2.atI ds i = some e) : Y2 K (rIxL K) d (.int i) m e m := by
  cases h with
  | lst => exact y_ixL h2
  | cell hk => exact y_ixC hk h2
theorem atI_of {α : Type} {xs : List α} (h0 : 0 ≤ i) (h1 : i < xs.length) : L2.atI xs i = xs[i.toNat]? := by
  unfold L2.atI ixN
  rw [if_pos h0, if_pos h1]; rfl
theorem atI_map {α : Type} {xs : List α} {f : α → D} {x : α} (h : L2.atI xs i = some x) : L2.atI (xs.map f) i = some (f x) := by
  obtain ⟨j, e1, e2⟩ := atI_len (xs := xs.map f) (by simp) h
  rw [e2, List.getElem?_map, e1]; rfl
theorem atI_getD {α : Type} {xs : List α} (z : α) (h0 : 0 ≤ i) (h1 : i < xs.length) : L2.atI xs i = some (xs.getD i.toNat z) := by
  rw [atI_of h0 h1]
  have : i.toNat < xs.length := by omega
  rw [List.getElem?_eq_getElem this, List.getD_eq_getElem?_getD, List.getElem?_eq_getElem this]; rfl
theorem set_same {k : Nat} {c : Cell} (h : m[k]? = some c) : m.set k c = m := by
  apply List.ext_getElem?
  intro l
  by_cases hl : k = l
  · subst hl
    rw [List.getElem?_set_self (List.getElem?_eq_some_iff.mp h).1, h]
  · rw [List.getElem?_set_ne hl]
theorem set_get {k : Nat} {c c' : Cell} (h : m[k]? = some c) : (m.set k c')[k]? = some c' := List.getElem?_set_self (List.getElem?_eq_some_iff.mp h).1
theorem set_get_ne {k l : Nat} {c : Cell} (h : k ≠ l) : (m.set k c)[l]? = m[l]? := List.getElem?_set_ne h
theorem app_get {c : Cell} : (m ++ [c])[m.length]? = some c := by simp
theorem app_get_lt {k : Nat} {c c' : Cell} (h : m[k]? = some c) : (m ++ [c'])[k]? = some c := by
  rw [List.getElem?_append_left (List.getElem?_eq_some_iff.mp h).1]; exact h
theorem app_set {c c' : Cell} : (m ++ [c]).set m.length c' = m ++ [c'] := by simp
theorem app_set_lt {k : Nat} {c c' : Cell} (h : k < m.length) : (m ++ [c']).set k c = m.set k c ++ [c'] := by
  rw [List.set_append_left _ _ h]
theorem Weak.refl (δ : En) : Weak δ δ := ⟨rfl, fun _ _ h => h⟩
/-- slot by slot -/
theorem Weak.nil : Weak [] [] := Weak.refl _
theorem Weak.keep {x : Option D} {δ δ' : En} (h : Weak δ δ') : Weak (x :: δ) (x :: δ') := ⟨by simp [h.1], fun i d q => by
  cases i with
  | zero => exact q
  | succ i => exact h.2 i d (by simpa using q)⟩
theorem Weak.drop {x : Option D} {δ δ' : En} (h : Weak δ δ') : Weak (x :: δ) (none :: δ') := ⟨by simp [h.1], fun i d q => by
  cases i with
  | zero => cases q
  | succ i => exact h.2 i d (by simpa using q)⟩
end
/-- data of depth at most n -/
def Sh : Nat → D → Prop
  | _, .non => True
  | _, .bl _ => True
  | _, .int _ => True
  | _, .str x => PyData.strOk x = true
  | _, .cell _ => False
  | 0, .lst _ => False
  | 0, .tup _ => False
  | 0, .scr _ => False
  | n + 1, .lst xs => ∀ x ∈ xs, Sh n x
  | n + 1, .tup xs => ∀ x ∈ xs, Sh n x
  | _ + 1, .scr _ => True
theorem lay_ints : ∀ ns : List Int, PyData.canLayAll0 (ns.map PyData.int) = true ∧ PyData.depthAll (ns.map PyData.int) ≤ 0
  | [] => ⟨rfl, by simp [PyData.depthAll]⟩
  | n :: ns => by
    obtain ⟨a, b⟩ := lay_ints ns
    refine ⟨?_, ?_⟩
    · show (PyData.canLay0 (.int n) && PyData.canLayAll0 (ns.map PyData.int)) = true
      rw [a]; rfl
    · show PyData.depthAll (PyData.int n :: ns.map PyData.int) ≤ 0
      simp only [PyData.depthAll, PyData.depth]; omega
theorem Sh.all : ∀ (n : Nat) (d : D), Sh n d → d.pure = true ∧ d.toPy.canLay0 = true ∧ d.toPy.depth ≤ n := by
  intro n
  induction n with
  | zero =>
    intro d h
    cases d with
    | non => exact ⟨rfl, rfl, by simp [D.toPy, PyData.depth]⟩
    | bl b => exact ⟨rfl, rfl, by simp [D.toPy, PyData.depth]⟩
    | int i => exact ⟨rfl, rfl, by simp [D.toPy, PyData.depth]⟩
    | str x => exact ⟨rfl, by simpa [D.toPy, PyData.canLay0, Sh] using h, by simp [D.toPy, PyData.depth]⟩
    | lst xs => exact absurd h (by simp [Sh])
    | tup xs => exact absurd h (by simp [Sh])
    | cell k => exact absurd h (by simp [Sh])
    | scr ns => exact absurd h (by simp [Sh])
  | succ n ih =>
    have all : ∀ xs : List D, (∀ x ∈ xs, Sh n x) → D.pures xs = true ∧ PyData.canLayAll0 (D.toPys xs) = true ∧ PyData.depthAll (D.toPys xs) ≤ n := by
      intro xs
      induction xs with
      | nil => intro _; exact ⟨rfl, rfl, by simp [D.toPys, PyData.depthAll]⟩
      | cons x xs ihx =>
        intro h
        obtain ⟨a1, a2, a3⟩ := ih x (h x List.mem_cons_self)
        obtain ⟨b1, b2, b3⟩ := ihx fun y hy => h y (List.mem_cons_of_mem _ hy)
        refine ⟨by show (x.pure && D.pures xs) = true; rw [a1, b1]; rfl, by show (x.toPy.canLay0 && PyData.canLayAll0 (D.toPys xs)) = true; rw [a2, b2]; rfl, ?_⟩
        show PyData.depthAll (x.toPy :: D.toPys xs) ≤ n
        simp only [PyData.depthAll]; omega
    intro d h
    cases d with
    | non => exact ⟨rfl, rfl, by simp [D.toPy, PyData.depth]⟩
    | bl b => exact ⟨rfl, rfl, by simp [D.toPy, PyData.depth]⟩
    | int i => exact ⟨rfl, rfl, by simp [D.toPy, PyData.depth]⟩
    | str x => exact ⟨rfl, by simpa [D.toPy, PyData.canLay0, Sh] using h, by simp [D.toPy, PyData.depth]⟩
    | lst xs =>
      obtain ⟨a, b, c⟩ := all xs h
      refine ⟨a, by simpa [D.toPy, PyData.canLay0] using b, ?_⟩
      simp only [D.toPy, PyData.depth]; omega
    | tup xs =>
      obtain ⟨a, b, c⟩ := all xs h
      refine ⟨a, by simpa [D.toPy, PyData.canLay0] using b, ?_⟩
      simp only [D.toPy, PyData.depth]; omega
    | cell k => exact absurd h (by simp [Sh])
    | scr ns =>
      obtain ⟨a, b⟩ := lay_ints ns
      refine ⟨rfl, by simpa [D.toPy, PyData.canLay0] using a, ?_⟩
      simp only [D.toPy, PyData.depth]; omega
theorem Sh.pure {n : Nat} {d : D} (h : Sh n d) : d.pure = true := (Sh.all n d h).1
theorem Sh.shaped {n : Nat} {d : D} (h : Sh n d) (hn : n ≤ 64) : SeqAt.shaped d.toPy = true := by
  obtain ⟨_, a, b⟩ := Sh.all n d h
  unfold SeqAt.shaped
  rw [a, decide_eq_true (show d.toPy.depth ≤ 64 by omega)]; rfl
theorem Sh.canLay {n : Nat} {d : D} (h : Sh n d) : d.toPy.canLay0 = true := (Sh.all n d h).2.1
theorem Sh.map {α : Type} {n : Nat} {f : α → D} {xs : List α} (h : ∀ x, Sh n (f x)) : Sh (n + 1) (.lst (xs.map f)) := fun y hy => by
  obtain ⟨x, _, rfl⟩ := List.mem_map.mp hy
  exact h x
/-- what reads as plain data: pure data, or what a cell holds -/
inductive Sd (m : Store) : D → D → Prop
  | data {d : D} : Sh 60 d → Sd m d d
  | cell {k : Nat} {xs : List D} : m[k]? = some (.lst xs) → Sh 60 (.lst xs) → Sd m (.cell k) (.lst xs)
theorem Sd.pd {m : Store} {d d' : D} (h : Sd m d d') : Pd m d d'.toPy ∧ SeqAt.shaped d'.toPy = true ∧ d'.toPy.canLay0 = true := by
  cases h with
  | data h => exact ⟨.pure h.pure, h.shaped (by omega), h.canLay⟩
  | cell hk h => exact ⟨.cell hk h.pure, h.shaped (by omega), h.canLay⟩
section
variable {K : PySem.W.Frag} {W : WX} {te ta tb : TE} {tt : TT} {t u : TS} {g : TG} {δ δ1 δ2 : En} {m m1 m2 m3 : Store} {d e d' e' : D} {o : Out} {tas : TA} {i j : Int}
theorem y_eqT (h1 : Sd m d d') (h2 : Sd m e e') : Y2 K (rEqD K) d e m (.bl (PyData.eqv d'.toPy e'.toPy)) m := y_eqD h1.pd.1 h2.pd.1 h1.pd.2.1 h2.pd.2.1
theorem y_neT (h1 : Sd m d d') (h2 : Sd m e e') : Y2 K (rNeD K) d e m (.bl (!PyData.eqv d'.toPy e'.toPy)) m := y_neD h1.pd.1 h2.pd.1 h1.pd.2.1 h2.pd.2.1
theorem y_eqSame (h1 : Sd m d d') (h2 : Sd m e d') : Y2 K (rEqD K) d e m (.bl true) m := by
  have q := y_eqT (K := K) h1 h2
  rwa [SeqAt.eqv_refl _ h1.pd.2.2] at q
theorem y_neSame (h1 : Sd m d d') (h2 : Sd m e d') : Y2 K (rNeD K) d e m (.bl false) m := by
  have q := y_neT (K := K) h1 h2
  rwa [SeqAt.eqv_refl _ h1.pd.2.2] at q
/-- a list's emptiness -/
theorem eqv_nil (xs : List PyData) : PyData.eqv (.list xs) (.list []) = xs.isEmpty := by cases xs <;> rfl
theorem nil_eqv (xs : List PyData) : PyData.eqv (.list []) (.list xs) = xs.isEmpty := by cases xs <;> rfl
theorem toPys_empty (xs : List D) : (D.toPys xs).isEmpty = xs.isEmpty := by cases xs <;> rfl
theorem toPys_len : ∀ xs : List D, (D.toPys xs).length = xs.length
  | [] => rfl
  | x :: xs => congrArg Nat.succ (toPys_len xs)
theorem y_neNil {xs : List D} (h : Sd m d (.lst xs)) : Y2 K (rNeD K) d (.lst []) m (.bl (!xs.isEmpty)) m := by
  have q := y_neT (K := K) h (.data (d := .lst []) (fun x hx => nomatch hx))
  rw [show (D.lst xs).toPy = .list (D.toPys xs) from rfl] at q
  rw [show (D.lst []).toPy = .list [] from rfl, eqv_nil, toPys_empty] at q
  exact q
theorem y_eqNil {xs : List D} (h : Sd m d (.lst xs)) : Y2 K (rEqD K) d (.lst []) m (.bl xs.isEmpty) m := by
  have q := y_eqT (K := K) h (.data (d := .lst []) (fun x hx => nomatch hx))
  rw [show (D.lst xs).toPy = .list (D.toPys xs) from rfl] at q
  rw [show (D.lst []).toPy = .list [] from rfl, eqv_nil, toPys_empty] at q
  exact q
theorem y_powK {z : Int} {n : Nat} (h : CPow i (n : Int)) (e : i ^ n = z) : Y2 K oPow (.int i) (.int (n : Int)) m (.int z) m := by
  rw [← e]; exact y_pow h
theorem y_subK {z : Int} (e : i - j = z) : Y2 K oSub (.int i) (.int j) m (.int z) m := by
  rw [← e]; exact y_sub
theorem y_addK {z : Int} (e : i + j = z) : Y2 K oAdd (.int i) (.int j) m (.int z) m := by
  rw [← e]; exact y_add
/-- a loop that leaves the state as it is -/
theorem ys_forC {α : Type} {C : Store → Prop} {wi : TI} (ys : List α) (en : α → D) (hi : YI K C wi δ m (ys.map en) m1) (hC : C m1) (δ0 : En) (w : Weak δ δ0)
    (step : ∀ y ∈ ys, ∃ δ' δ'', YG K g (en y) δ0 δ' ∧ YS K W t δ' m1 (.nx δ'' m1) ∧ Weak δ'' δ0) : YS K W (tFor wi g t) δ m (.nx δ0 m1) :=
  ys_forG hi ys.length (fun _ => δ0) (fun _ => m1) w rfl (fun _ _ => hC) (by simp) (fun i d hi hd => by
    rw [List.getElem?_map] at hd
    cases e : ys[i]? with
    | none => rw [e] at hd; cases hd
    | some y =>
      rw [e] at hd; cases hd
      obtain ⟨δ', δ'', h1, h2, h3⟩ := step y (List.mem_of_getElem? e)
      exact ⟨δ', _, h1, h2, .nx h3⟩) (.inl ⟨by simp, rfl⟩)
/-- a loop that folds a state s, over typed items -/
theorem ys_forF {α S : Type} {C : Store → Prop} {wi : TI} (ys : List α) (en : α → D) (hi : YI K C wi δ m (ys.map en) m1) (f : S → α → S) (s0 : S) (δf : S → En) (mf : S → Store) (w : Weak δ (δf s0)) (e0 : mf s0 = m1)
    (hC : ∀ i, i ≤ ys.length → C (mf ((ys.take i).foldl f s0)))
    (step : ∀ i y, ys[i]? = some y → ∃ δ' δ'', YG K g (en y) (δf ((ys.take i).foldl f s0)) δ' ∧ YS K W t δ' (mf ((ys.take i).foldl f s0)) (.nx δ'' (mf (f ((ys.take i).foldl f s0) y))) ∧ Weak δ'' (δf (f ((ys.take i).foldl f s0) y))) :
    YS K W (tFor wi g t) δ m (.nx (δf (ys.foldl f s0)) (mf (ys.foldl f s0))) := by
  have key := ys_forG (K := K) (W := W) (t := t) (g := g) (o := .nx (δf ((ys.take ys.length).foldl f s0)) (mf ((ys.take ys.length).foldl f s0))) hi ys.length (fun i => δf ((ys.take i).foldl f s0)) (fun i => mf ((ys.take i).foldl f s0)) w e0 hC (by simp) (fun i d hi hd => by
    rw [List.getElem?_map] at hd
    cases e : ys[i]? with
    | none => rw [e] at hd; cases hd
    | some y =>
      rw [e] at hd; cases hd
      obtain ⟨δ', δ'', h1, h2, h3⟩ := step i y e
      have et : (ys.take (i + 1)).foldl f s0 = f ((ys.take i).foldl f s0) y := by rw [List.take_add_one, e]; simp
      refine ⟨δ', _, h1, h2, ?_⟩
      show TurnX (δf ((ys.take (i + 1)).foldl f s0)) (mf ((ys.take (i + 1)).foldl f s0)) _
      rw [et]; exact .nx h3) (.inl ⟨by simp, rfl⟩)
  rw [List.take_length] at key
  exact key
/-- the law's own call -/
theorem law_start {S : Spec} {H : Hp} {a : Addr} {ns : List Int} (hS : SqL K H a (ns.map V.int)) (h : S [.scr ns] [] (.ok (.bl true)) []) : spD K S [.ref a] H (fun v _ => v = .bl true) (fun _ _ _ => False) :=
  ⟨[], H, [], [.scr ns], .ok (.bl true), [], ⟨rfl, Same.refl _, fun k a c e => by simp at e, fun k l a e => by simp at e⟩, .cons (.scr hS) .nil, h, fun v r F H _ _ p => by cases p; rfl⟩
end
end DL
namespace DL
open PySem PySem.Spec PyProof.Rows L2
/-! ### spans, in plain Lean -/
abbrev Sp2 := Int × Int
def isPlace (i : Int) : Bool := decide (0 - 1000000000000 < i) && decide (i < 1000000000000)
def isSpan (a b : Int) : Bool := isPlace a && (isPlace b && decide (a < b))
def eS (s : Sp2) : D := .tup [.int s.1, .int s.2]
def Good (s : Sp2) : Prop := -1000000000000 < s.1 ∧ s.1 < s.2 ∧ s.2 < 1000000000000
theorem Good.isSpan {s : Sp2} (h : Good s) : isSpan s.1 s.2 = true := by
  obtain ⟨h1, h2, h3⟩ := h
  simp [DL.isSpan, isPlace]; omega
def S_is_place : Spec := fun ds m res m' => ∃ i : Int, ds = [.int i] ∧ res = .ok (.bl (isPlace i)) ∧ m' = m
def t_is_place (K : PySem.W.Frag) (W : WX) : TS :=
  (tRet (tChain oLt oLt (tOp oSub (tC (.int 0)) (tC (.int 1000000000000))) (tVar 0) (tC (.int 1000000000000))))
theorem len_is_place : ∀ ds m res m', S_is_place ds m res m' → ds.length = 1 := by rintro _ _ _ _ ⟨i, rfl, _⟩; rfl
theorem Y_is_place {K : PySem.W.Frag} : ∀ W ds m res m', S_is_place ds m res m' → ∃ o, YS K W (t_is_place K W) (st 1 ds) m o ∧ Fits m o res m' := by
  rintro W _ m _ _ ⟨i, rfl, rfl, rfl⟩
  exact ⟨_, ys_ret (ye_chain (ye_op ye_int ye_int y_sub) (ye_var rfl) y_lt (fun _ => ye_int) (fun _ => y_lt)), .rt⟩
def S_is_span : Spec := fun ds m res m' => ∃ a b : Int, ds = [.tup [.int a, .int b]] ∧ res = .ok (.bl (isSpan a b)) ∧ m' = m
def t_is_span (K : PySem.W.Frag) (W : WX) : TS :=
  (tRet (tAndV (tCall (spD K S_is_place) [] E0 (tCons (tOp (rIxT K) (tVar 0) (tC (.int 0))) tNil)) (tAndV (tCall (spD K S_is_place) [] E0 (tCons (tOp (rIxT K) (tVar 0) (tC (.int 1))) tNil)) (tOp oLt (tOp (rIxT K) (tVar 0) (tC (.int 0))) (tOp (rIxT K) (tVar 0) (tC (.int 1)))))))
theorem len_is_span : ∀ ds m res m', S_is_span ds m res m' → ds.length = 1 := by rintro _ _ _ _ ⟨a, b, rfl, _⟩; rfl
theorem Y_is_span {K : PySem.W.Frag} : ∀ W ds m res m', S_is_span ds m res m' → ∃ o, YS K W (t_is_span K W) (st 1 ds) m o ∧ Fits m o res m' := by
  rintro W _ m _ _ ⟨a, b, rfl, rfl, rfl⟩
  exact ⟨_, ys_ret (ye_andV (ye_call (ya_cons (ye_op (ye_var rfl) ye_int (y_ixT rfl)) ya_nil) ⟨_, rfl, rfl, rfl⟩) (fun _ => (ye_andV (ye_call (ya_cons (ye_op (ye_var rfl) ye_int (y_ixT rfl)) ya_nil) ⟨_, rfl, rfl, rfl⟩) (fun _ => (ye_op (ye_op (ye_var rfl) ye_int (y_ixT rfl)) (ye_op (ye_var rfl) ye_int (y_ixT rfl)) y_lt))))), .rt⟩
def S_must_span : Spec := fun ds m res m' => ∃ a b : Int, ds = [.tup [.int a, .int b]] ∧ isSpan a b = true ∧ res = .ok .non ∧ m' = m
def t_must_span (K : PySem.W.Frag) (W : WX) : TS :=
  (tIfS (tNot (tB (tCall (spD K S_is_span) [] E0 (tCons (tVar 0) tNil)))) tNever tNext)
theorem len_must_span : ∀ ds m res m', S_must_span ds m res m' → ds.length = 1 := by rintro _ _ _ _ ⟨a, b, rfl, _⟩; rfl
theorem Y_must_span {K : PySem.W.Frag} : ∀ W ds m res m', S_must_span ds m res m' → ∃ o, YS K W (t_must_span K W) (st 1 ds) m o ∧ Fits m o res m' := by
  rintro W _ m _ _ ⟨a, b, rfl, h, rfl, rfl⟩
  exact ⟨_, ys_if (yt_not (yt_B (ye_call (ya_cons (ye_var rfl) ya_nil) ⟨_, _, rfl, rfl, rfl⟩))) (fun q => by rw [h] at q; cases q) (fun _ => ys_next), .nx⟩
def touches (a b : Sp2) : Bool := decide (a.1 < b.2) && decide (b.1 < a.2)
def S_touches : Spec := fun ds m res m' => ∃ a b c d : Int, ds = [.tup [.int a, .int b], .tup [.int c, .int d]] ∧ res = .ok (.bl (touches (a, b) (c, d))) ∧ m' = m
def t_touches (K : PySem.W.Frag) (W : WX) : TS :=
  (tRet (tAndV (tOp oLt (tOp (rIxT K) (tVar 0) (tC (.int 0))) (tOp (rIxT K) (tVar 1) (tC (.int 1)))) (tOp oLt (tOp (rIxT K) (tVar 1) (tC (.int 0))) (tOp (rIxT K) (tVar 0) (tC (.int 1))))))
theorem len_touches : ∀ ds m res m', S_touches ds m res m' → ds.length = 2 := by rintro _ _ _ _ ⟨a, b, c, d, rfl, _⟩; rfl
theorem Y_touches {K : PySem.W.Frag} : ∀ W ds m res m', S_touches ds m res m' → ∃ o, YS K W (t_touches K W) (st 2 ds) m o ∧ Fits m o res m' := by
  rintro W _ m _ _ ⟨a, b, c, d, rfl, rfl, rfl⟩
  exact ⟨_, ys_ret (ye_andV (ye_op (ye_op (ye_var rfl) ye_int (y_ixT rfl)) (ye_op (ye_var rfl) ye_int (y_ixT rfl)) y_lt) (fun _ => (ye_op (ye_op (ye_var rfl) ye_int (y_ixT rfl)) (ye_op (ye_var rfl) ye_int (y_ixT rfl)) y_lt))), .rt⟩
def isInside (a b : Sp2) : Bool := decide (b.1 ≤ a.1) && decide (a.2 ≤ b.2)
def S_is_inside : Spec := fun ds m res m' => ∃ a b c d : Int, ds = [.tup [.int a, .int b], .tup [.int c, .int d]] ∧ res = .ok (.bl (isInside (a, b) (c, d))) ∧ m' = m
def t_is_inside (K : PySem.W.Frag) (W : WX) : TS :=
  (tRet (tAndV (tOp oLe (tOp (rIxT K) (tVar 1) (tC (.int 0))) (tOp (rIxT K) (tVar 0) (tC (.int 0)))) (tOp oLe (tOp (rIxT K) (tVar 0) (tC (.int 1))) (tOp (rIxT K) (tVar 1) (tC (.int 1))))))
theorem len_is_inside : ∀ ds m res m', S_is_inside ds m res m' → ds.length = 2 := by rintro _ _ _ _ ⟨a, b, c, d, rfl, _⟩; rfl
theorem Y_is_inside {K : PySem.W.Frag} : ∀ W ds m res m', S_is_inside ds m res m' → ∃ o, YS K W (t_is_inside K W) (st 2 ds) m o ∧ Fits m o res m' := by
  rintro W _ m _ _ ⟨a, b, c, d, rfl, rfl, rfl⟩
  exact ⟨_, ys_ret (ye_andV (ye_op (ye_op (ye_var rfl) ye_int (y_ixT rfl)) (ye_op (ye_var rfl) ye_int (y_ixT rfl)) y_le) (fun _ => (ye_op (ye_op (ye_var rfl) ye_int (y_ixT rfl)) (ye_op (ye_var rfl) ye_int (y_ixT rfl)) y_le))), .rt⟩
def S_length_of : Spec := fun ds m res m' => ∃ a b : Int, ds = [.tup [.int a, .int b]] ∧ isSpan a b = true ∧ res = .ok (.int (b - a)) ∧ m' = m
def t_length_of (K : PySem.W.Frag) (W : WX) : TS :=
  (tSeq (tDrop (tCall (spD K S_must_span) [] E0 (tCons (tVar 0) tNil)))
    (tRet (tOp oSub (tOp (rIxT K) (tVar 0) (tC (.int 1))) (tOp (rIxT K) (tVar 0) (tC (.int 0))))))
theorem len_length_of : ∀ ds m res m', S_length_of ds m res m' → ds.length = 1 := by rintro _ _ _ _ ⟨a, b, rfl, _⟩; rfl
theorem Y_length_of {K : PySem.W.Frag} : ∀ W ds m res m', S_length_of ds m res m' → ∃ o, YS K W (t_length_of K W) (st 1 ds) m o ∧ Fits m o res m' := by
  rintro W _ m _ _ ⟨a, b, rfl, h, rfl, rfl⟩
  exact ⟨_, ys_seq (ys_expr (ye_call (ya_cons (ye_var rfl) ya_nil) ⟨_, _, rfl, h, rfl, rfl⟩)) (ys_ret (ye_op (ye_op (ye_var rfl) ye_int (y_ixT rfl)) (ye_op (ye_var rfl) ye_int (y_ixT rfl)) y_sub)), .rt⟩
def S_meet : Spec := fun ds m res m' => ∃ a b c d : Int, ds = [.tup [.int a, .int b], .tup [.int c, .int d]] ∧ isSpan a b = true ∧ isSpan c d = true ∧ res = .ok (.bl (touches (a, b) (c, d))) ∧ m' = m
def t_meet (K : PySem.W.Frag) (W : WX) : TS :=
  (tSeq (tDrop (tCall (spD K S_must_span) [] E0 (tCons (tVar 0) tNil)))
    (tSeq (tDrop (tCall (spD K S_must_span) [] E0 (tCons (tVar 1) tNil)))
    (tRet (tCall (spD K S_touches) [] E0 (tCons (tVar 0) (tCons (tVar 1) tNil))))))
theorem len_meet : ∀ ds m res m', S_meet ds m res m' → ds.length = 2 := by rintro _ _ _ _ ⟨a, b, c, d, rfl, _⟩; rfl
theorem Y_meet {K : PySem.W.Frag} : ∀ W ds m res m', S_meet ds m res m' → ∃ o, YS K W (t_meet K W) (st 2 ds) m o ∧ Fits m o res m' := by
  rintro W _ m _ _ ⟨a, b, c, d, rfl, h1, h2, rfl, rfl⟩
  exact ⟨_, ys_seq (ys_expr (ye_call (ya_cons (ye_var rfl) ya_nil) ⟨_, _, rfl, h1, rfl, rfl⟩)) (ys_seq (ys_expr (ye_call (ya_cons (ye_var rfl) ya_nil) ⟨_, _, rfl, h2, rfl, rfl⟩))
    (ys_ret (ye_call (ya_cons (ye_var rfl) (ya_cons (ye_var rfl) ya_nil)) ⟨_, _, _, _, rfl, rfl, rfl⟩))), .rt⟩
def S_lies_within : Spec := fun ds m res m' => ∃ a b c d : Int, ds = [.tup [.int a, .int b], .tup [.int c, .int d]] ∧ isSpan a b = true ∧ isSpan c d = true ∧ res = .ok (.bl (isInside (a, b) (c, d))) ∧ m' = m
def t_lies_within (K : PySem.W.Frag) (W : WX) : TS :=
  (tSeq (tDrop (tCall (spD K S_must_span) [] E0 (tCons (tVar 0) tNil)))
    (tSeq (tDrop (tCall (spD K S_must_span) [] E0 (tCons (tVar 1) tNil)))
    (tRet (tCall (spD K S_is_inside) [] E0 (tCons (tVar 0) (tCons (tVar 1) tNil))))))
theorem len_lies_within : ∀ ds m res m', S_lies_within ds m res m' → ds.length = 2 := by rintro _ _ _ _ ⟨a, b, c, d, rfl, _⟩; rfl
theorem Y_lies_within {K : PySem.W.Frag} : ∀ W ds m res m', S_lies_within ds m res m' → ∃ o, YS K W (t_lies_within K W) (st 2 ds) m o ∧ Fits m o res m' := by
  rintro W _ m _ _ ⟨a, b, c, d, rfl, h1, h2, rfl, rfl⟩
  exact ⟨_, ys_seq (ys_expr (ye_call (ya_cons (ye_var rfl) ya_nil) ⟨_, _, rfl, h1, rfl, rfl⟩)) (ys_seq (ys_expr (ye_call (ya_cons (ye_var rfl) ya_nil) ⟨_, _, rfl, h2, rfl, rfl⟩))
    (ys_ret (ye_call (ya_cons (ye_var rfl) (ya_cons (ye_var rfl) ya_nil)) ⟨_, _, _, _, rfl, rfl, rfl⟩))), .rt⟩
/-! ### the purse: numbers drawn from a cell -/
structure Purse where
  a : Int
  b : Int
  c : Int
def ePu (p : Purse) : Cell := .lst [.int p.a, .int p.b, .int p.c]
def Pok (B : Int) (p : Purse) : Prop := 0 ≤ p.b ∧ p.b < 2147483647 ∧ 0 ≤ p.c ∧ p.c ≤ B
theorem Pok.mono {B B' : Int} {p : Purse} (h : Pok B p) (hb : B ≤ B') : Pok B' p := ⟨h.1, h.2.1, h.2.2.1, Int.le_trans h.2.2.2 hb⟩
def mixed (cell k : Int) : Int :=
  ((((cell * 1103515245 + 7919 * k * k + k + 1) % 2147483647) * ((cell * 1103515245 + 7919 * k * k + k + 1) % 2147483647) + 69621) % 2147483629) * 48271 % 2147483587
def dseq (b c : Int) : Nat → Int
  | 0 => 0
  | i + 1 => dseq b c i * 2147483587 + mixed b (c + (i : Int) + 1)
def dturns (n : Int) : Nat := (1 + (Builtin.Int.intBits n : Int) / 30).toNat
def draw (n : Int) (p : Purse) : Int × Purse :=
  if 0 < p.a then (p.a % n, { p with a := p.a / n }) else (dseq p.b p.c (dturns n) % n, { p with c := p.c + (dturns n : Int) })
theorem draw_range {n : Int} (p : Purse) (h : 0 < n) : 0 ≤ (draw n p).1 ∧ (draw n p).1 < n := by
  unfold draw
  split
  · exact ⟨Int.emod_nonneg _ (by omega), Int.emod_lt_of_pos _ h⟩
  · exact ⟨Int.emod_nonneg _ (by omega), Int.emod_lt_of_pos _ h⟩
theorem intBits_le {n : Int} {k : Nat} (h0 : 0 < n) (h : n < 2 ^ k) : Builtin.Int.intBits n ≤ k := by
  unfold Builtin.Int.intBits
  have h1 : n.natAbs < 2 ^ k := by
    have : ((n.natAbs : Nat) : Int) < ((2 ^ k : Nat) : Int) := by
      rw [Int.natAbs_of_nonneg (by omega)]; simpa using h
    exact_mod_cast this
  have h2 : n.natAbs ≠ 0 := by omega
  split
  · omega
  · have := (Nat.log2_lt h2).mpr h1
    omega
theorem dturns_le {n : Int} (h0 : 0 < n) (h : n < 2 ^ 89) : dturns n ≤ 3 := by
  have := intBits_le h0 h
  unfold dturns
  omega
theorem draw_ok {n B : Int} {p : Purse} (h : Pok B p) (h0 : 0 < n) (hn : n < 2 ^ 89) : Pok (B + 3) (draw n p).2 := by
  obtain ⟨a, b, c, d⟩ := h
  unfold draw
  split
  · exact ⟨a, b, c, by show p.c ≤ B + 3; omega⟩
  · refine ⟨a, b, ?_, ?_⟩
    · show 0 ≤ p.c + (dturns n : Int); omega
    · have := dturns_le h0 hn
      show p.c + (dturns n : Int) ≤ B + 3; omega
theorem mod_rng {x n : Int} (h : 0 < n) : 0 ≤ x % n ∧ x % n < n := ⟨Int.emod_nonneg _ (by omega), Int.emod_lt_of_pos _ h⟩
def lawAt (ns : List Int) (k : Nat) : Int := ns.getD k 0
def S_law_at : Spec := fun ds m res m' => ∃ (ns : List Int) (k : Nat), ds = [.scr ns, .int (k : Int)] ∧ res = .ok (.int (lawAt ns k)) ∧ m' = m
def t_law_at (K : PySem.W.Frag) (W : WX) : TS :=
  (tSeq (tIfS (tTest (tOp oLt (tVar 1) (tCB (Evl.rLenS K) (tCons (tVar 0) tNil)))) (tRet (tOp (rIxL K) (tVar 0) (tVar 1))) tNext)
    (tRet (tC (.int 0))))
theorem len_law_at : ∀ ds m res m', S_law_at ds m res m' → ds.length = 2 := by rintro _ _ _ _ ⟨a, b, rfl, _⟩; rfl
theorem Y_law_at {K : PySem.W.Frag} : ∀ W ds m res m', S_law_at ds m res m' → ∃ o, YS K W (t_law_at K W) (st 2 ds) m o ∧ Fits m o res m' := by
  rintro W _ _ _ m ⟨ns, k, rfl, rfl, rfl⟩
  by_cases h : (k : Int) < ns.length
  · refine ⟨.rt (.int (lawAt ns k)) m, ys_seqX (ys_if (yt_test (ye_op (ye_var rfl) (ye_cb (ya_cons (ye_var rfl) ya_nil) y_lenS) y_lt)) (fun _ => ys_ret (ye_op (ye_var rfl) (ye_var rfl) (y_ixS ?_))) (fun q => absurd h (of_decide_eq_false q))) rfl, .rt⟩
    rw [atI_getD 0 (by omega) h]; rfl
  · refine ⟨.rt (.int (lawAt ns k)) m, ys_seq (ys_if (yt_test (ye_op (ye_var rfl) (ye_cb (ya_cons (ye_var rfl) ya_nil) y_lenS) y_lt)) (fun q => absurd (of_decide_eq_true q) h) (fun _ => ys_next)) ?_, .rt⟩
    have e : lawAt ns k = 0 := by unfold lawAt; rw [List.getD_eq_getElem?_getD, List.getElem?_eq_none (by omega)]; rfl
    rw [e]; exact ys_ret ye_int
def S_law_mixed : Spec := fun ds m res m' => ∃ a k : Int, ds = [.int a, .int k] ∧ 0 ≤ k ∧ k < 2 ^ 60 ∧ res = .ok (.int (mixed a k)) ∧ m' = m
def t_law_mixed (K : PySem.W.Frag) (W : WX) : TS :=
  (tSeq (tAsg (tOp oMod (tOp oAdd (tOp oAdd (tOp oAdd (tOp oMul (tVar 0) (tC (.int 1103515245))) (tOp oMul (tOp oMul (tC (.int 7919)) (tVar 1)) (tVar 1))) (tVar 1)) (tC (.int 1))) (tC (.int 2147483647))) (gName 2))
    (tSeq (tAsg (tOp oMod (tOp oAdd (tOp oMul (tVar 2) (tVar 2)) (tC (.int 69621))) (tC (.int 2147483629))) (gName 2))
    (tRet (tOp oMod (tOp oMul (tVar 2) (tC (.int 48271))) (tC (.int 2147483587))))))
theorem len_law_mixed : ∀ ds m res m', S_law_mixed ds m res m' → ds.length = 2 := by rintro _ _ _ _ ⟨a, b, rfl, _⟩; rfl
theorem Y_law_mixed {K : PySem.W.Frag} : ∀ W ds m res m', S_law_mixed ds m res m' → ∃ o, YS K W (t_law_mixed K W) (st 3 ds) m o ∧ Fits m o res m' := by
  rintro W _ m _ _ ⟨a, k, rfl, h0, h1, rfl, rfl⟩
  refine ⟨_, (ys_seq (ys_set (ye_op (ye_op (ye_op (ye_op (ye_op (ye_var rfl) ye_int (y_mul (.inr ⟨by decide, by decide⟩))) (ye_op (ye_op ye_int (ye_var rfl) (y_mul (.inl ⟨by decide, by decide⟩))) (ye_var rfl) (y_mul (.inr ⟨by omega, by omega⟩))) y_add) (ye_var rfl) y_add) ye_int y_add) ye_int (y_mod (by decide))))
    (ys_seq (ys_set (ye_op (ye_op (ye_op (ye_var rfl) (ye_var rfl) (y_mul ?_)) ye_int y_add) ye_int (y_mod (by decide))))
    (ys_ret (ye_op (ye_op (ye_var rfl) ye_int (y_mul (.inr ⟨by decide, by decide⟩))) ye_int (y_mod (by decide)))))), .rt⟩
  have := mod_rng (x := a * 1103515245 + 7919 * k * k + k + 1) (n := 2147483647) (by decide)
  exact .inl ⟨by omega, by omega⟩
def purse (ns : List Int) (k : Nat) : Purse := ⟨max (lawAt ns k - 1000000000000000000) 0, lawAt ns k % 2147483647, 1000 * (k : Int)⟩
theorem purse_ok (ns : List Int) {k : Nat} (h : k ≤ 63) : Pok 63000 (purse ns k) := by
  have := mod_rng (x := lawAt ns k) (n := 2147483647) (by decide)
  exact ⟨this.1, this.2, by show 0 ≤ 1000 * (k : Int); omega, by show 1000 * (k : Int) ≤ 63000; omega⟩
def S_law_purse : Spec := fun ds m res m' => ∃ (ns : List Int) (k : Nat), ds = [.scr ns, .int (k : Int)] ∧ res = .ok (.cell m.length) ∧ m' = m ++ [ePu (purse ns k)]
def t_law_purse (K : PySem.W.Frag) (W : WX) : TS :=
  (tSeq (tAsg (tCall (spD K S_law_at) [] E0 (tCons (tVar 0) (tCons (tVar 1) tNil))) (gName 2))
    (tRet (tLst (tCons (tCB Evl.rMax2 (tCons (tOp oSub (tVar 2) (tOp oPow (tC (.int 10)) (tC (.int 18)))) (tCons (tC (.int 0)) tNil))) (tCons (tOp oMod (tVar 2) (tC (.int 2147483647))) (tCons (tOp oMul (tC (.int 1000)) (tVar 1)) tNil))))))
theorem len_law_purse : ∀ ds m res m', S_law_purse ds m res m' → ds.length = 2 := by rintro _ _ _ _ ⟨a, b, rfl, _⟩; rfl
theorem Y_law_purse {K : PySem.W.Frag} : ∀ W ds m res m', S_law_purse ds m res m' → ∃ o, YS K W (t_law_purse K W) (st 3 ds) m o ∧ Fits m o res m' := by
  rintro W _ m _ _ ⟨ns, k, rfl, rfl, rfl⟩
  exact ⟨_, (ys_seq (ys_set (ye_call (ya_cons (ye_var rfl) (ya_cons (ye_var rfl) ya_nil)) ⟨ns, k, rfl, rfl, rfl⟩))
    (ys_ret (YN.cell (yn_lst (ya_cons (ye_cb (ya_cons (ye_op (ye_var rfl) (ye_op ye_int ye_int (y_pow (n := 18) ⟨by decide, by decide, by decide⟩)) y_sub) (ya_cons ye_int ya_nil)) y_max2) (ya_cons (ye_op (ye_var rfl) ye_int (y_mod (by decide))) (ya_cons (ye_op ye_int (ye_var rfl) (y_mul (.inl ⟨by decide, by decide⟩))) ya_nil))) (le5 rfl))))), .rt⟩
def S_law_draw : Spec := fun ds m res m' => ∃ (k : Nat) (p : Purse) (n : Int), ds = [.cell k, .int n] ∧ m[k]? = some (ePu p) ∧ Pok (2 ^ 50) p ∧ 0 < n ∧ n < 2 ^ 89 ∧ res = .ok (.int (draw n p).1) ∧ m' = m.set k (ePu (draw n p).2)
def t_law_draw (K : PySem.W.Frag) (W : WX) : TS :=
  (tSeq (tIfS (tTest (tOp oGt (tOp (rIxL K) (tVar 0) (tC (.int 0))) (tC (.int 0)))) (tSeq (tAsg (tOp oMod (tOp (rIxL K) (tVar 0) (tC (.int 0))) (tVar 1)) (gName 2))
    (tSeq (tAsg (tOp oDiv (tOp (rIxL K) (tVar 0) (tC (.int 0))) (tVar 1)) (gSub (tVar 0) (tC (.int 0)) rSetL))
    (tRet (tVar 2)))) tNext)
    (tSeq (tAsg (tC (.int 0)) (gName 3))
    (tSeq (tFor (iRng1 (tCons (tOp oAdd (tC (.int 1)) (tOp oDiv (tBits (tVar 1)) (tC (.int 30)))) tNil)) (gName 4)
    ((tSeq (tAsg (tOp oAdd (tOp (rIxL K) (tVar 0) (tC (.int 2))) (tC (.int 1))) (gSub (tVar 0) (tC (.int 2)) rSetL))
    (tAsg (tOp oAdd (tOp oMul (tVar 3) (tC (.int 2147483587))) (tCall (spD K S_law_mixed) [] E0 (tCons (tOp (rIxL K) (tVar 0) (tC (.int 1))) (tCons (tOp (rIxL K) (tVar 0) (tC (.int 2))) tNil)))) (gName 3)))))
    (tRet (tOp oMod (tVar 3) (tVar 1))))))
theorem len_law_draw : ∀ ds m res m', S_law_draw ds m res m' → ds.length = 2 := by rintro _ _ _ _ ⟨a, b, n, rfl, _⟩; rfl
theorem Y_law_draw {K : PySem.W.Frag} : ∀ W ds m res m', S_law_draw ds m res m' → ∃ o, YS K W (t_law_draw K W) (st 5 ds) m o ∧ Fits m o res m' := by
  rintro W _ m _ _ ⟨k, p, n, rfl, hk, hp, h0, hn, rfl, rfl⟩
  by_cases ha : 0 < p.a
  · have e : draw n p = (p.a % n, { p with a := p.a / n }) := by unfold draw; rw [if_pos ha]
    rw [e]
    refine ⟨.rt (.int (p.a % n)) (m.set k (ePu { p with a := p.a / n })), ys_seqX (ys_if (yt_test (ye_op (ye_op (ye_var rfl) ye_int (y_ixC hk rfl)) ye_int y_gt))
      (fun _ => (ys_seq (ys_set (ye_op (ye_op (ye_var rfl) ye_int (y_ixC hk rfl)) (ye_var rfl) (y_mod h0)))
        (ys_seq (ys_setC (j := 0) (ye_op (ye_op (ye_var rfl) ye_int (y_ixC hk rfl)) (ye_var rfl) (y_fdiv (wide_div (b := 89) h0 ?_ (by decide) (by decide)))) (ye_var rfl) ye_int hk rfl)
        (ys_ret (ye_var rfl))))) (fun q => absurd ha (of_decide_eq_false q))) rfl, .rt⟩
    have : ((n.natAbs : Nat) : Int) < ((2 ^ 89 : Nat) : Int) := by rw [Int.natAbs_of_nonneg (by omega)]; simpa using hn
    exact_mod_cast this
  · have e : draw n p = (dseq p.b p.c (dturns n) % n, { p with c := p.c + (dturns n : Int) }) := by unfold draw; rw [if_neg ha]
    rw [e]
    have htb := intBits_le h0 hn
    have hdt : dturns n ≤ 3 := dturns_le h0 hn
    refine ⟨_, ys_seq (ys_if (yt_test (ye_op (ye_op (ye_var rfl) ye_int (y_ixC hk rfl)) ye_int y_gt)) (fun q => absurd (of_decide_eq_true q) ha) (fun _ => ys_next))
      (ys_seq (ys_set ye_int) (ys_seq (ys_forG (o := .nx [some (.cell k), some (.int n), none, some (.int (dseq p.b p.c (dturns n))), none] (m.set k (ePu { p with c := p.c + (dturns n : Int) })))
        (yi_range1 (ya_cons (ye_op ye_int (ye_op (ye_bits (ye_var rfl)) ye_int (y_fdiv (wide_div (b := 5) (by decide) (by decide) (by decide) (by decide)))) y_add) ya_nil) ⟨by omega, by omega⟩)
        (dturns n) (fun i => [some (.cell k), some (.int n), none, some (.int (dseq p.b p.c i)), none]) (fun i => m.set k (ePu { p with c := p.c + (i : Int) }))
        (Weak.refl _) ?_ (fun _ _ => trivial) (by rw [rng_len]; exact Nat.le_refl _) ?_ (.inl ⟨by rw [rng_len]; rfl, rfl⟩))
      (ys_ret (ye_op (ye_var rfl) (ye_var rfl) (y_mod h0))))), .rt⟩
    · show m.set k (ePu { p with c := p.c + ((0 : Nat) : Int) }) = m
      have : ({ p with c := p.c + ((0 : Nat) : Int) } : Purse) = p := by cases p; simp
      rw [this]; exact set_same hk
    · intro i d hi hd
      obtain ⟨_, rfl⟩ := rng_get hd
      obtain ⟨q1, q2, q3, q4⟩ := hp
      have e1 : ∀ c : Cell, (m.set k c)[k]? = some c := fun c => set_get hk
      refine ⟨_, _, yg_name, ys_seq (ys_setC (j := 2) (ye_op (ye_op (ye_var rfl) ye_int (y_ixC (e1 _) rfl)) ye_int y_add) (ye_var rfl) ye_int (e1 _) rfl)
        (ys_set (ye_op (ye_op (ye_var rfl) ye_int (y_mul (.inr ⟨by decide, by decide⟩))) (ye_call (ya_cons (ye_op (ye_var rfl) ye_int (y_ixC (d := .int p.b) (ds := [.int p.a, .int p.b, .int (p.c + (i : Int) + 1)]) ?_ rfl)) (ya_cons (ye_op (ye_var rfl) ye_int (y_ixC (d := .int (p.c + (i : Int) + 1)) (ds := [.int p.a, .int p.b, .int (p.c + (i : Int) + 1)]) ?_ rfl)) ya_nil)) ⟨p.b, p.c + (i : Int) + 1, rfl, by omega, by omega, rfl, rfl⟩) y_add)), ?_⟩
      · rw [List.set_set]; exact e1 _
      · rw [List.set_set]; exact e1 _
      · have : m.set k (ePu { p with c := p.c + ((i + 1 : Nat) : Int) }) = (m.set k (ePu { p with c := p.c + (i : Int) })).set k (.lst [.int p.a, .int p.b, .int (p.c + (i : Int) + 1)]) := by
          rw [List.set_set]
          have : p.c + ((i + 1 : Nat) : Int) = p.c + (i : Int) + 1 := by omega
          rw [this]; rfl
        rw [this]
        exact .nx (.keep (.keep (.keep (.keep (.drop .nil)))))
def farOf (most : Int) (p : Purse) : Int := ([1, 4, 30, most] : List Int).getD (draw 4 p).1.toNat 0
def number (most : Int) (p : Purse) : Int × Purse := ((draw (2 * farOf most p + 1) (draw 4 p).2).1 - farOf most p, (draw (2 * farOf most p + 1) (draw 4 p).2).2)
theorem far_range {most : Int} (p : Purse) (h : 30 ≤ most) : 1 ≤ farOf most p ∧ farOf most p ≤ most := by
  obtain ⟨h0, h1⟩ := draw_range p (n := 4) (by decide)
  unfold farOf
  generalize (draw 4 p).1 = i at h0 h1
  have : i = 0 ∨ i = 1 ∨ i = 2 ∨ i = 3 := by omega
  rcases this with rfl | rfl | rfl | rfl
  · exact ⟨by show (1 : Int) ≤ 1; omega, by show (1 : Int) ≤ most; omega⟩
  · exact ⟨by show (1 : Int) ≤ 4; omega, by show (4 : Int) ≤ most; omega⟩
  · exact ⟨by show (1 : Int) ≤ 30; omega, by show (30 : Int) ≤ most; omega⟩
  · exact ⟨by show 1 ≤ most; omega, by show most ≤ most; omega⟩
theorem number_range {most : Int} (p : Purse) (h : 30 ≤ most) : -most ≤ (number most p).1 ∧ (number most p).1 ≤ most := by
  obtain ⟨h1, h2⟩ := far_range p h
  obtain ⟨h3, h4⟩ := draw_range (draw 4 p).2 (n := 2 * farOf most p + 1) (by omega)
  unfold number
  constructor
  · show -most ≤ (draw (2 * farOf most p + 1) (draw 4 p).2).1 - farOf most p; omega
  · show (draw (2 * farOf most p + 1) (draw 4 p).2).1 - farOf most p ≤ most; omega
theorem number_ok {most B : Int} {p : Purse} (hp : Pok B p) (h : 30 ≤ most) (h2 : most < 2 ^ 60) : Pok (B + 6) (number most p).2 := by
  obtain ⟨h3, h4⟩ := far_range p h
  exact (draw_ok (draw_ok hp (by decide) (by decide)) (by omega) (by omega)).mono (by omega)
def S_law_number : Spec := fun ds m res m' => ∃ (k : Nat) (p : Purse) (most : Int), ds = [.cell k, .int most] ∧ m[k]? = some (ePu p) ∧ Pok (2 ^ 49) p ∧ 30 ≤ most ∧ most < 2 ^ 60 ∧ res = .ok (.int (number most p).1) ∧ m' = m.set k (ePu (number most p).2)
def t_law_number (K : PySem.W.Frag) (W : WX) : TS :=
  (tSeq (tAsg (tOp (rIxL K) (tLst (tCons (tC (.int 1)) (tCons (tC (.int 4)) (tCons (tC (.int 30)) (tCons (tVar 1) tNil))))) (tCall (spD K S_law_draw) [] E0 (tCons (tVar 0) (tCons (tC (.int 4)) tNil)))) (gName 2))
    (tRet (tOp oSub (tCall (spD K S_law_draw) [] E0 (tCons (tVar 0) (tCons (tOp oAdd (tOp oMul (tC (.int 2)) (tVar 2)) (tC (.int 1))) tNil))) (tVar 2))))
theorem len_law_number : ∀ ds m res m', S_law_number ds m res m' → ds.length = 2 := by rintro _ _ _ _ ⟨a, b, n, rfl, _⟩; rfl
theorem Y_law_number {K : PySem.W.Frag} : ∀ W ds m res m', S_law_number ds m res m' → ∃ o, YS K W (t_law_number K W) (st 3 ds) m o ∧ Fits m o res m' := by
  rintro W _ m _ _ ⟨k, p, most, rfl, hk, hp, h0, h1, rfl, rfl⟩
  obtain ⟨h3, h4⟩ := far_range p h0
  obtain ⟨d0, d1⟩ := draw_range p (n := 4) (by decide)
  refine ⟨.rt (.int (number most p).1) (m.set k (ePu (number most p).2)), (ys_seq (ys_set (ye_op (YN.data (yn_lst (ya_cons ye_int (ya_cons ye_int (ya_cons ye_int (ya_cons (ye_var rfl) ya_nil)))) (le5 rfl))) (ye_call (ya_cons (ye_var rfl) (ya_cons ye_int ya_nil)) ⟨k, p, 4, rfl, hk, hp.mono (by decide), by decide, by decide, rfl, rfl⟩) (y_ixI (e := .int (farOf most p)) .lst ?_)))
    (ys_ret (ye_op (ye_call (ya_cons (ye_var rfl) (ya_cons (ye_op (ye_op ye_int (ye_var rfl) (y_mul (.inl ⟨by decide, by decide⟩))) ye_int y_add) ya_nil)) ⟨k, (draw 4 p).2, 2 * farOf most p + 1, rfl, set_get hk, (draw_ok hp (by decide) (by decide)).mono (by decide), by omega, by omega, rfl, ?_⟩) (ye_var rfl) y_sub))), .rt⟩
  · exact atI_map (xs := [1, 4, 30, most]) (f := D.int) (atI_getD 0 d0 d1)
  · rw [List.set_set]; rfl
theorem IsL.sd {m : Store} {e : D} {xs : List D} (h : IsL m e xs) (s : Sh 60 (.lst xs)) : Sd m e (.lst xs) := by
  cases h with
  | lst => exact .data s
  | cell hk => exact .cell hk s
theorem sh_ints (ns : List Int) : Sh 60 (.lst (ns.map D.int)) := Sh.map (n := 59) (fun _ => trivial)
def endM (ends : List Int) (most : Int) (p : Purse) : Int × Purse :=
  if ends = [] then number most p
  else if 0 < (draw 3 p).1 then
    (max (0 - most) (min most (ends.getD (draw ends.length (draw 3 p).2).1.toNat 0 + (draw 3 (draw ends.length (draw 3 p).2).2).1 - 1)), (draw 3 (draw ends.length (draw 3 p).2).2).2)
  else number most (draw 3 p).2
theorem endM_range {ends : List Int} {most : Int} (p : Purse) (h : 30 ≤ most) : -most ≤ (endM ends most p).1 ∧ (endM ends most p).1 ≤ most := by
  unfold endM
  split
  · exact number_range p h
  · split
    · constructor
      · show -most ≤ max (0 - most) _; omega
      · show max (0 - most) (min most _) ≤ most; omega
    · exact number_range _ h
theorem endM_ok {ends : List Int} {most B : Int} {p : Purse} (hp : Pok B p) (h : 30 ≤ most) (h2 : most < 2 ^ 60) (hl : ends.length ≤ 1000) : Pok (B + 9) (endM ends most p).2 := by
  unfold endM
  split
  · exact (number_ok hp h h2).mono (by omega)
  · rename_i hne
    have hpos : 0 < ends.length := List.length_pos_iff.mpr hne
    split
    · exact (draw_ok (draw_ok (draw_ok hp (by decide) (by decide)) (by omega) (by omega)) (by decide) (by decide)).mono (by omega)
    · exact (number_ok (draw_ok hp (by decide) (by decide)) h h2).mono (by omega)
def S_law_end : Spec := fun ds m res m' => ∃ (k : Nat) (p : Purse) (e : D) (ends : List Int) (most : Int), ds = [.cell k, e, .int most] ∧ m[k]? = some (ePu p) ∧ (∀ c, IsL (m.set k c) e (ends.map D.int)) ∧ ends.length ≤ 1000 ∧ Pok (2 ^ 48) p ∧ 30 ≤ most ∧ most < 2 ^ 60 ∧
  res = .ok (.int (endM ends most p).1) ∧ m' = m.set k (ePu (endM ends most p).2)
def t_law_end (K : PySem.W.Frag) (W : WX) : TS :=
  (tSeq (tIfS (tAnd (tTest (tOp (rNeD K) (tVar 1) (tLst tNil))) (tTest (tOp oGt (tCall (spD K S_law_draw) [] E0 (tCons (tVar 0) (tCons (tC (.int 3)) tNil))) (tC (.int 0))))) (tSeq (tAsg (tOp oSub (tOp oAdd (tOp (rIxL K) (tVar 1) (tCall (spD K S_law_draw) [] E0 (tCons (tVar 0) (tCons (tCB (Evl.rLenS K) (tCons (tVar 1) tNil)) tNil)))) (tCall (spD K S_law_draw) [] E0 (tCons (tVar 0) (tCons (tC (.int 3)) tNil)))) (tC (.int 1))) (gName 3))
    (tRet (tCB Evl.rMax2 (tCons (tOp oSub (tC (.int 0)) (tVar 2)) (tCons (tCB rMin2 (tCons (tVar 2) (tCons (tVar 3) tNil))) tNil))))) tNext)
    (tRet (tCall (spD K S_law_number) [] E0 (tCons (tVar 0) (tCons (tVar 2) tNil)))))
theorem len_law_end : ∀ ds m res m', S_law_end ds m res m' → ds.length = 3 := by rintro _ _ _ _ ⟨a, b, n, _, _, rfl, _⟩; rfl
theorem Y_law_end {K : PySem.W.Frag} : ∀ W ds m res m', S_law_end ds m res m' → ∃ o, YS K W (t_law_end K W) (st 4 ds) m o ∧ Fits m o res m' := by
  rintro W _ m _ _ ⟨k, p, e, ends, most, rfl, hk, hE, hl, hp, h0, h1, rfl, rfl⟩
  have hE0 : IsL m e (ends.map D.int) := by have := hE (ePu p); rwa [set_same hk] at this
  have hsd : Sd m e (.lst (ends.map D.int)) := hE0.sd (sh_ints ends)
  have ne : ∀ b, b = (!(ends.map D.int).isEmpty) → YE K (tOp (rNeD K) (tVar 1) (tLst tNil)) [some (.cell k), some e, some (.int most), none] m (.bl b) m := by
    rintro _ rfl; exact ye_op (ye_var rfl) (YN.data (yn_lst ya_nil (le5 rfl))) (y_neNil hsd)
  by_cases he : ends = []
  · have ee : endM ends most p = number most p := by unfold endM; rw [if_pos he]
    rw [ee]
    have nf := ne false (by rw [he]; rfl)
    refine ⟨.rt (.int (number most p).1) (m.set k (ePu (number most p).2)), ys_seq (ys_if (yt_and (b := false) (yt_test nf) (fun q => nomatch q) (fun _ => rfl)) (fun q => nomatch q) (fun _ => ys_next))
      (ys_ret (ye_call (ya_cons (ye_var rfl) (ya_cons (ye_var rfl) ya_nil)) ⟨k, p, most, rfl, hk, hp.mono (by decide), h0, h1, rfl, rfl⟩)), .rt⟩
  · have nt := ne true (by cases ends with | nil => exact absurd rfl he | cons _ _ => rfl)
    have hpos : 0 < ends.length := List.length_pos_iff.mpr he
    by_cases hd : 0 < (draw 3 p).1
    · have ee : endM ends most p = (max (0 - most) (min most (ends.getD (draw ends.length (draw 3 p).2).1.toNat 0 + (draw 3 (draw ends.length (draw 3 p).2).2).1 - 1)), (draw 3 (draw ends.length (draw 3 p).2).2).2) := by unfold endM; rw [if_neg he, if_pos hd]
      rw [ee]
      obtain ⟨d0, d1⟩ := draw_range (draw 3 p).2 (n := ends.length) (by omega)
      have hp1 := draw_ok hp (n := 3) (by decide) (by decide)
      have hp2 := draw_ok hp1 (n := ends.length) (by omega) (by omega)
      have hg : L2.atI (ends.map D.int) (draw ends.length (draw 3 p).2).1 = some (.int (ends.getD (draw ends.length (draw 3 p).2).1.toNat 0)) := atI_map (atI_getD 0 d0 d1)
      have hE1 := hE (ePu (draw 3 p).2)
      have hE2 := hE (ePu (draw ends.length (draw 3 p).2).2)
      refine ⟨.rt _ (m.set k (ePu (draw 3 (draw ends.length (draw 3 p).2).2).2)), ys_seqX (ys_if (yt_and (yt_test nt) (fun _ => yt_test (ye_op (ye_call (ya_cons (ye_var rfl) (ya_cons ye_int ya_nil)) ⟨k, p, 3, rfl, hk, hp.mono (by decide), by decide, by decide, rfl, rfl⟩) ye_int y_gt)) (fun q => nomatch q))
        (fun _ => (ys_seq (ys_set (ye_op (ye_op (ye_op (ye_var rfl) (ye_call (m2 := m.set k (ePu (draw ends.length (draw 3 p).2).2)) (ya_cons (ye_var rfl) (ya_cons (ye_cb (ya_cons (ye_var rfl) ya_nil) (lenD hE1)) ya_nil)) ⟨k, (draw 3 p).2, _, rfl, set_get hk, hp1.mono (by decide), ?_, ?_, rfl, ?_⟩) (y_ixI hE2 ?_)) (ye_call (m2 := m.set k (ePu (draw 3 (draw ends.length (draw 3 p).2).2).2)) (ya_cons (ye_var rfl) (ya_cons ye_int ya_nil)) ⟨k, (draw ends.length (draw 3 p).2).2, 3, rfl, set_get hk, hp2.mono (by decide), by decide, by decide, rfl, ?_⟩) y_add) ye_int y_sub))
          (ys_ret (ye_cb (ya_cons (ye_op ye_int (ye_var rfl) y_sub) (ya_cons (ye_cb (ya_cons (ye_var rfl) (ya_cons (ye_var rfl) ya_nil)) y_min2) ya_nil)) y_max2))))
        (fun q => by rw [decide_eq_true hd] at q; cases q)) rfl, .rt⟩
      · rw [List.length_map]; omega
      · rw [List.length_map]; omega
      · rw [List.set_set, List.length_map]
      · rw [List.length_map]; exact hg
      · rw [List.set_set]
    · have ee : endM ends most p = number most (draw 3 p).2 := by unfold endM; rw [if_neg he, if_neg hd]
      rw [ee]
      have hp1 := draw_ok hp (n := 3) (by decide) (by decide)
      refine ⟨.rt (.int (number most (draw 3 p).2).1) (m.set k (ePu (number most (draw 3 p).2).2)), ys_seq (ys_if (yt_and (yt_test nt) (fun _ => yt_test (ye_op (ye_call (ya_cons (ye_var rfl) (ya_cons ye_int ya_nil)) ⟨k, p, 3, rfl, hk, hp.mono (by decide), by decide, by decide, rfl, rfl⟩) ye_int y_gt)) (fun q => nomatch q))
        (fun q => by rw [decide_eq_false hd] at q; cases q) (fun _ => ys_next))
        (ys_ret (ye_call (ya_cons (ye_var rfl) (ya_cons (ye_var rfl) ya_nil)) ⟨k, (draw 3 p).2, most, rfl, set_get hk, hp1.mono (by decide), h0, h1, rfl, ?_⟩)), .rt⟩
      rw [List.set_set]
def sOne (ends : List Int) (most : Int) (p : Purse) : Int × Purse := endM ends most p
def sOther (ends : List Int) (most : Int) (p : Purse) : Int × Purse := endM (ends ++ [(sOne ends most p).1]) most (sOne ends most p).2
def sLow (ends : List Int) (most : Int) (p : Purse) : Int := min (min (sOne ends most p).1 (sOther ends most p).1) (most - 1)
def sHigh (ends : List Int) (most : Int) (p : Purse) : Int := max (max (sOne ends most p).1 (sOther ends most p).1) (sLow ends most p + 1)
def spanM (ends : List Int) (most : Int) (p : Purse) : Sp2 := (sLow ends most p, sHigh ends most p)
def spanP (ends : List Int) (most : Int) (p : Purse) : Purse := (sOther ends most p).2
def spanE (ends : List Int) (most : Int) (p : Purse) : List Int := ends ++ [sLow ends most p, sHigh ends most p]
theorem span_range {ends : List Int} {most : Int} (p : Purse) (h : 30 ≤ most) : -most ≤ (spanM ends most p).1 ∧ (spanM ends most p).1 < (spanM ends most p).2 ∧ (spanM ends most p).2 ≤ most := by
  have h1 := endM_range (ends := ends) p h
  have h2 := endM_range (ends := ends ++ [(sOne ends most p).1]) (sOne ends most p).2 h
  have e1 : (spanM ends most p).1 = min (min (endM ends most p).1 (endM (ends ++ [(sOne ends most p).1]) most (sOne ends most p).2).1) (most - 1) := rfl
  have e2 : (spanM ends most p).2 = max (max (endM ends most p).1 (endM (ends ++ [(sOne ends most p).1]) most (sOne ends most p).2).1) (sLow ends most p + 1) := rfl
  have e3 : (spanM ends most p).1 = sLow ends most p := rfl
  rw [e2, ← e3, e1]
  omega
theorem span_good {ends : List Int} (p : Purse) : Good (spanM ends 999999999999 p) := by
  have := span_range (ends := ends) (most := 999999999999) p (by decide)
  unfold Good; omega
theorem span_ok {ends : List Int} {most B : Int} {p : Purse} (hp : Pok B p) (h : 30 ≤ most) (h2 : most < 2 ^ 60) (hl : ends.length ≤ 999) : Pok (B + 18) (spanP ends most p) := by
  refine (endM_ok (endM_ok hp h h2 (by omega)) h h2 ?_).mono (by omega)
  rw [List.length_append]; show ends.length + 1 ≤ 1000; omega
def S_law_span : Spec := fun ds m res m' => ∃ (k l : Nat) (p : Purse) (ends : List Int) (most : Int), ds = [.cell k, .cell l, .int most] ∧ k ≠ l ∧ m[k]? = some (ePu p) ∧ m[l]? = some (.lst (ends.map D.int)) ∧ ends.length ≤ 990 ∧ Pok (2 ^ 47) p ∧ 30 ≤ most ∧ most < 2 ^ 60 ∧
  res = .ok (eS (spanM ends most p)) ∧ m' = (m.set k (ePu (spanP ends most p))).set l (.lst ((spanE ends most p).map D.int))
def t_law_span (K : PySem.W.Frag) (W : WX) : TS :=
  (tSeq (tAsg (tCall (spD K S_law_end) [] E0 (tCons (tVar 0) (tCons (tVar 1) (tCons (tVar 2) tNil)))) (gName 3))
    (tSeq (tAsg (tCall (spD K S_law_end) [] E0 (tCons (tVar 0) (tCons (tOp rCat (tVar 1) (tLst (tCons (tVar 3) tNil))) (tCons (tVar 2) tNil)))) (gName 4))
    (tSeq (tAsg (tCB (rNuC3 nuMin3) (tCons (tVar 3) (tCons (tVar 4) (tCons (tOp oSub (tVar 2) (tC (.int 1))) tNil)))) (gName 5))
    (tSeq (tAsg (tCB (rNuC3 nuMax3) (tCons (tVar 3) (tCons (tVar 4) (tCons (tOp oAdd (tVar 5) (tC (.int 1))) tNil)))) (gName 6))
    (tSeq (tDrop (tBM K "list" rAppend (tVar 1) (tCons (tVar 5) tNil)))
    (tSeq (tDrop (tBM K "list" rAppend (tVar 1) (tCons (tVar 6) tNil)))
    (tRet (tTup (tCons (tVar 5) (tCons (tVar 6) tNil))))))))))
theorem len_law_span : ∀ ds m res m', S_law_span ds m res m' → ds.length = 3 := by rintro _ _ _ _ ⟨a, b, n, _, _, rfl, _⟩; rfl
theorem Y_law_span {K : PySem.W.Frag} : ∀ W ds m res m', S_law_span ds m res m' → ∃ o, YS K W (t_law_span K W) (st 7 ds) m o ∧ Fits m o res m' := by
  rintro W _ m _ _ ⟨k, l, p, ends, most, rfl, hkl, hk, hl, hn, hp, h0, h1, rfl, rfl⟩
  have hE : ∀ c, IsL (m.set k c) (.cell l) (ends.map D.int) := fun c => .cell (by rw [set_get_ne hkl]; exact hl)
  have hp1 := endM_ok (ends := ends) hp h0 h1 (by omega)
  have hl1 : ∀ c, (m.set k c)[l]? = some (.lst (ends.map D.int)) := fun c => by rw [set_get_ne hkl]; exact hl
  have hA : (m.set k (ePu (spanP ends most p)))[l]? = some (.lst (ends.map D.int)) := hl1 _
  refine ⟨.rt (eS (spanM ends most p)) ((m.set k (ePu (spanP ends most p))).set l (.lst ((spanE ends most p).map D.int))),
    (ys_seq (ys_set (ye_call (ya_cons (ye_var rfl) (ya_cons (ye_var rfl) (ya_cons (ye_var rfl) ya_nil))) ⟨k, p, .cell l, ends, most, rfl, hk, hE, by omega, hp.mono (by decide), h0, h1, rfl, rfl⟩))
    (ys_seq (ys_set (ye_call (d := .int (sOther ends most p).1) (m2 := m.set k (ePu (spanP ends most p))) (ya_cons (ye_var rfl) (ya_cons (YN.data (yn_op (ye_var rfl) (YN.data (yn_lst (ya_cons (ye_var rfl) ya_nil) (le5 rfl))) (y_cat (hE _) .lst ?_))) (ya_cons (ye_var rfl) ya_nil)))
      ⟨k, (endM ends most p).2, _, ends ++ [(sOne ends most p).1], most, rfl, set_get hk, fun c => ?_, ?_, hp1.mono (by decide), h0, h1, rfl, ?_⟩))
    (ys_seq (ys_set (ye_cb (ya_cons (ye_var rfl) (ya_cons (ye_var rfl) (ya_cons (ye_op (ye_var rfl) ye_int y_sub) ya_nil))) y_min3))
    (ys_seq (ys_set (ye_cb (ya_cons (ye_var rfl) (ya_cons (ye_var rfl) (ya_cons (ye_op (ye_var rfl) ye_int y_add) ya_nil))) y_max3))
    (ys_seq (ys_expr (ye_append (ye_var rfl) hA (ye_var rfl) hA ?_))
    (ys_seq (ys_expr (ye_append (ye_var rfl) (set_get hA) (ye_var rfl) (set_get hA) ?_))
    (YS.of_eq (ys_ret (ye_tup (ya_cons (ye_var rfl) (ya_cons (ye_var rfl) ya_nil)) (le5 rfl))) ?_))))))), .rt⟩
  · rw [List.length_map]; show ends.length + 1 ≤ 100000; omega
  · rw [List.map_append]; exact .lst
  · rw [List.length_append]; show ends.length + 1 ≤ 1000; omega
  · rw [List.set_set]; rfl
  · rw [List.length_map]; omega
  · rw [List.length_append, List.length_map]; show ends.length + 1 < 100000; omega
  · show Out.rt _ _ = Out.rt _ _
    congr 1
    rw [List.set_set]
    congr 2
    show (ends.map D.int ++ [_]) ++ [_] = (ends ++ [_, _]).map D.int
    rw [List.map_append, List.append_assoc]; rfl
def lawMeet (a b : Sp2) : Bool := decide (max a.1 b.1 < min a.2 b.2)
def S_law_meet : Spec := fun ds m res m' => ∃ a b c d : Int, ds = [.tup [.int a, .int b], .tup [.int c, .int d]] ∧ res = .ok (.bl (lawMeet (a, b) (c, d))) ∧ m' = m
def t_law_meet (K : PySem.W.Frag) (W : WX) : TS :=
  (tRet (tOp oLt (tCB Evl.rMax2 (tCons (tOp (rIxT K) (tVar 0) (tC (.int 0))) (tCons (tOp (rIxT K) (tVar 1) (tC (.int 0))) tNil))) (tCB rMin2 (tCons (tOp (rIxT K) (tVar 0) (tC (.int 1))) (tCons (tOp (rIxT K) (tVar 1) (tC (.int 1))) tNil)))))
theorem len_law_meet : ∀ ds m res m', S_law_meet ds m res m' → ds.length = 2 := by rintro _ _ _ _ ⟨a, b, c, d, rfl, _⟩; rfl
theorem Y_law_meet {K : PySem.W.Frag} : ∀ W ds m res m', S_law_meet ds m res m' → ∃ o, YS K W (t_law_meet K W) (st 2 ds) m o ∧ Fits m o res m' := by
  rintro W _ m _ _ ⟨a, b, c, d, rfl, rfl, rfl⟩
  exact ⟨_, ys_ret (ye_op (ye_cb (ya_cons (ye_op (ye_var rfl) ye_int (y_ixT rfl)) (ya_cons (ye_op (ye_var rfl) ye_int (y_ixT rfl)) ya_nil)) y_max2) (ye_cb (ya_cons (ye_op (ye_var rfl) ye_int (y_ixT rfl)) (ya_cons (ye_op (ye_var rfl) ye_int (y_ixT rfl)) ya_nil)) y_min2) y_lt), .rt⟩
theorem isSpan_lt {a b : Int} (h : isSpan a b = true) : a < b := by
  unfold isSpan at h
  simp at h
  exact h.2.2
theorem touches_is {a b c d : Int} (h1 : isSpan a b = true) (h2 : isSpan c d = true) : touches (a, b) (c, d) = lawMeet (a, b) (c, d) := by
  have := isSpan_lt h1; have := isSpan_lt h2
  unfold touches lawMeet
  rw [Bool.eq_iff_iff]
  simp
  omega
theorem sh_span (s : Sp2) : Sh 59 (eS s) := fun x hx => by
  rcases List.mem_cons.mp hx with rfl | hx
  · trivial
  · rcases List.mem_cons.mp hx with rfl | hx
    · trivial
    · cases hx
theorem sh_spans (l : List Sp2) : Sh 60 (.lst (l.map eS)) := Sh.map sh_span
def S_law_right : Spec := fun ds m res m' => ∃ a b c d : Int, ds = [.tup [.int a, .int b], .tup [.int c, .int d]] ∧ isSpan a b = true ∧ isSpan c d = true ∧ res = .ok (.bl true) ∧ m' = m
def t_law_right (K : PySem.W.Frag) (W : WX) : TS :=
  (tSeq (tAsg (tCall (spD K S_meet) [] E0 (tCons (tVar 0) (tCons (tVar 1) tNil))) (gName 2))
    (tSeq (tIfS (tOr (tNot (tB (tCB (rIsi K) (tCons (tVar 2) (tCons (tC (.ty "bool")) tNil))))) (tTest (tOp rNe (tVar 2) (tCall (spD K S_law_meet) [] E0 (tCons (tVar 0) (tCons (tVar 1) tNil)))))) (tRet (tC (.bl false))) tNext)
    (tSeq (tAsg (tCall (spD K S_lies_within) [] E0 (tCons (tVar 0) (tCons (tVar 1) tNil))) (gName 2))
    (tSeq (tAsg (tLc (iList K (tLst (tCons (tVar 0) tNil))) (gName 3) (tAnd (tTest (tOp oLe (tOp (rIxT K) (tVar 1) (tC (.int 0))) (tOp (rIxT K) (tVar 3) (tC (.int 0))))) (tTest (tOp oLe (tOp (rIxT K) (tVar 3) (tC (.int 1))) (tOp (rIxT K) (tVar 1) (tC (.int 1)))))) (tVar 3) [3]) (gName 4))
    (tRet (tAndV (tCB (rIsi K) (tCons (tVar 2) (tCons (tC (.ty "bool")) tNil))) (tOp rEq (tVar 2) (tOp (rNeD K) (tVar 4) (tLst tNil)))))))))
theorem len_law_right : ∀ ds m res m', S_law_right ds m res m' → ds.length = 2 := by rintro _ _ _ _ ⟨a, b, c, d, rfl, _⟩; rfl
theorem Y_law_right {K : PySem.W.Frag} : ∀ W ds m res m', S_law_right ds m res m' → ∃ o, YS K W (t_law_right K W) (st 5 ds) m o ∧ Fits m o res m' := by
  rintro W _ _ _ m ⟨a, b, c, d, rfl, h1, h2, rfl, rfl⟩
  have e1 := touches_is h1 h2
  have e2 : isInside (a, b) (c, d) = !((([(a, b)] : List Sp2).filter fun s => decide (c ≤ s.1) && decide (s.2 ≤ d)).map eS).isEmpty := by
    unfold isInside
    cases h : (decide (c ≤ a) && decide (b ≤ d)) <;> simp [List.filter, h]
  refine ⟨.rt (.bl true) m, (ys_seq (ys_set (ye_call (ya_cons (ye_var rfl) (ya_cons (ye_var rfl) ya_nil)) ⟨a, b, c, d, rfl, h1, h2, rfl, rfl⟩))
    (ys_seq (ys_if (yt_or (yt_not (yt_B (ye_isi (ye_var rfl) .bl kb_bb))) (fun _ => yt_test (ye_op (ye_var rfl) (ye_call (ya_cons (ye_var rfl) (ya_cons (ye_var rfl) ya_nil)) ⟨a, b, c, d, rfl, rfl, rfl⟩) y_neB)) (fun q => nomatch q))
      (fun q => by rw [e1] at q; simp at q)
      (fun _ => ys_next))
    (ys_seq (ys_set (ye_call (ya_cons (ye_var rfl) (ya_cons (ye_var rfl) ya_nil)) ⟨a, b, c, d, rfl, h1, h2, rfl, rfl⟩))
    (ys_seq (ys_set (YN.data (yn_lc [(a, b)] eS (fun s => decide (c ≤ s.1) && decide (s.2 ≤ d)) eS (yi_list (YN.data (yn_lst (ya_cons (ye_var rfl) ya_nil) (le5 rfl)))) trivial (by simp)
      (fun s _ => ⟨_, ygw_name (by decide), yt_and (yt_test (ye_op (ye_op (ye_var rfl) ye_int (y_ixT rfl)) (ye_op (ye_var rfl) ye_int (y_ixT rfl)) y_le)) (fun _ => yt_test (ye_op (ye_op (ye_var rfl) ye_int (y_ixT rfl)) (ye_op (ye_var rfl) ye_int (y_ixT rfl)) y_le)) (fun _ => rfl), fun _ => ye_var rfl⟩))))
    (YS.of_eq (ys_ret (ye_andV (ye_isi (ye_var rfl) .bl kb_bb) (fun _ => (ye_op (ye_var rfl) (ye_op (ye_var rfl) (YN.data (yn_lst ya_nil (le5 rfl))) (y_neNil (.data (sh_spans _)))) y_eqB)))) ?_))))), .rt⟩
  rw [e2]; simp
def kst (p : Purse) : Nat → List Int × Purse
  | 0 => ([], p)
  | i + 1 => (spanE (kst p i).1 999999999999 (kst p i).2, spanP (kst p i).1 999999999999 (kst p i).2)
def ksp (p : Purse) (i : Nat) : Sp2 := spanM (kst p i).1 999999999999 (kst p i).2
theorem kst_ok {p : Purse} (h : Pok 63000 p) : ∀ i : Nat, i ≤ 20 → Pok (63000 + 18 * (i : Int)) (kst p i).2 ∧ (kst p i).1.length = 2 * i
  | 0, _ => ⟨h.mono (by omega), rfl⟩
  | i + 1, hi => by
    obtain ⟨a, b⟩ := kst_ok h i (by omega)
    refine ⟨(span_ok a (by decide) (by decide) (by omega)).mono (by omega), ?_⟩
    show (spanE (kst p i).1 _ (kst p i).2).length = _
    unfold spanE
    rw [List.length_append, b]; show 2 * i + 2 = _; omega
def kAll (a b c : Sp2) : List Sp2 := [a, b, c, (max (a.1 - 1) (1 - 1000000000000), a.2), (a.1, a.1 + 1), (a.2 - 1, a.2)]
theorem kAll_good {a b c : Sp2} (ha : Good a) (hb : Good b) (hc : Good c) : ∀ s ∈ kAll a b c, Good s := by
  unfold Good at *
  intro s hs
  simp [kAll] at hs
  rcases hs with rfl | rfl | rfl | rfl | rfl | rfl
  · exact ha
  · exact hb
  · exact hc
  · show -1000000000000 < max (a.1 - 1) (1 - 1000000000000) ∧ max (a.1 - 1) (1 - 1000000000000) < a.2 ∧ a.2 < 1000000000000; omega
  · show -1000000000000 < a.1 ∧ a.1 < a.1 + 1 ∧ a.1 + 1 < 1000000000000; omega
  · show -1000000000000 < a.2 - 1 ∧ a.2 - 1 < a.2 ∧ a.2 < 1000000000000; omega
def S_law : Spec := fun ds m res m' => ∃ ns : List Int, ds = [.scr ns] ∧ m = [] ∧ res = .ok (.bl true) ∧ m' = []
theorem law_true (ns : List Int) (hl : ns.length ≤ 63) : S_law [.scr ns] [] (.ok (.bl true)) [] := ⟨ns, rfl, rfl, rfl, rfl⟩
def t_law (K : PySem.W.Frag) (W : WX) : TS :=
  (tSeq (tAsg (tCall (spD K S_law_purse) [] E0 (tCons (tVar 0) (tCons (tC (.int 0)) tNil))) (gName 1))
    (tSeq (tAsg (tLst tNil) (gName 2))
    (tSeq (tAsg (tLc (iRng1 (tCons (tC (.int 3)) tNil)) (gName 3) tYes (tCall (spD K S_law_span) [] E0 (tCons (tVar 1) (tCons (tVar 2) (tCons (tOp oSub (tOp oPow (tC (.int 10)) (tC (.int 12))) (tC (.int 1))) tNil)))) [3]) (gName 4))
    (tSeq (tAsg (tOp (rIxL K) (tVar 4) (tC (.int 0))) (gTup K 2 (gCons (gName 5) (gCons (gName 6) gNil))))
    (tSeq (tAsg (tOp rCat (tVar 4) (tLst (tCons (tTup (tCons (tCB Evl.rMax2 (tCons (tOp oSub (tVar 5) (tC (.int 1))) (tCons (tOp oSub (tC (.int 1)) (tOp oPow (tC (.int 10)) (tC (.int 12)))) tNil))) (tCons (tVar 6) tNil))) (tCons (tTup (tCons (tVar 5) (tCons (tOp oAdd (tVar 5) (tC (.int 1))) tNil))) (tCons (tTup (tCons (tOp oSub (tVar 6) (tC (.int 1))) (tCons (tVar 6) tNil))) tNil))))) (gName 4))
    (tSeq (tFor (iList K (tVar 4)) (gName 7)
    ((tSeq (tIfS (tTest (tOp rNe (tCall (spD K S_length_of) [] E0 (tCons (tVar 7) tNil)) (tOp oSub (tOp (rIxT K) (tVar 7) (tC (.int 1))) (tOp (rIxT K) (tVar 7) (tC (.int 0)))))) (tRet (tC (.bl false))) tNext)
    (tFor (iList K (tVar 4)) (gName 8)
    ((tIfS (tNot (tB (tCall (spD K S_law_right) [] E0 (tCons (tVar 7) (tCons (tVar 8) tNil))))) (tRet (tC (.bl false))) tNext))))))
    (tRet (tC (.bl true)))))))))
theorem len_law : ∀ ds m res m', S_law ds m res m' → ds.length = 1 := by rintro _ _ _ _ ⟨a, rfl, _⟩; rfl
theorem Y_law {K : PySem.W.Frag} : ∀ W ds m res m', S_law ds m res m' → ∃ o, YS K W (t_law K W) (st 9 ds) m o ∧ Fits m o res m' := by
  rintro W _ _ _ _ ⟨ns, rfl, rfl, rfl, rfl⟩
  have hp := purse_ok ns (k := 0) (by decide)
  generalize hpe : purse ns 0 = p at hp
  have hs : ∀ i, Good (ksp p i) := fun i => span_good _
  have hg := kAll_good (hs 0) (hs 1) (hs 2)
  generalize hL : kAll (ksp p 0) (ksp p 1) (ksp p 2) = L at hg
  have hLl : L.length = 6 := by rw [← hL]; rfl
  refine ⟨.rt (.bl true) ([] ++ [ePu (kst p 3).2, .lst ((kst p 3).1.map D.int)]), (ys_seq (ys_set (ye_call (ya_cons (ye_var rfl) (ya_cons ye_int ya_nil)) ⟨ns, 0, rfl, rfl, rfl⟩))
    (ys_seq (ys_set (YN.cell (yn_lst ya_nil (le5 rfl))))
    (ys_seq (ys_set (YN.data (yn_lcG (yi_range1 (ya_cons ye_int ya_nil) ⟨by decide, by decide⟩) (fun i => [ePu (kst p i).2, .lst ((kst p i).1.map D.int)]) (fun i => (List.range i).map fun j => eS (ksp p j)) ?e0 rfl (fun _ _ => trivial) ?hl ?step)))
    (ys_seq (ys_asg (ye_op (ye_var rfl) ye_int (y_ixI (e := eS (ksp p 0)) .lst rfl)) (yg_tup rfl (ygs_cons yg_name (ygs_cons yg_name ygs_nil))))
    (ys_seq (ys_set (d := .lst (L.map eS)) ?cat)
    (ys_seq (ys_forC L eS (yi_list (ye_var rfl)) trivial [some (.scr ns), some (.cell 0), some (.cell 1), none, some (.lst (L.map eS)), some (.int (ksp p 0).1), some (.int (ksp p 0).2), none, none] ?w ?outer)
    (ys_ret ye_bl))))))), .rtd _ (Tidy.refl _) rfl⟩
  case e0 => subst hpe; rfl
  case hl => intro i hi; rw [rng_len] at hi; simp; omega
  case step =>
    intro i d hd
    obtain ⟨hi, rfl⟩ := rng_get hd
    have hi3 : i < 3 := hi
    obtain ⟨a, b⟩ := kst_ok hp i (by omega)
    refine ⟨_, true, _, ygw_name (by decide), yt_yes, fun _ => ⟨eS (ksp p i), ye_call (ya_cons (ye_var rfl) (ya_cons (ye_var rfl) (ya_cons (ye_op (ye_op ye_int ye_int (y_powK (n := 12) (z := 1000000000000) ⟨by decide, by decide, by decide⟩ rfl)) ye_int (y_subK (z := 999999999999) rfl)) ya_nil))) ⟨0, 1, (kst p i).2, (kst p i).1, 999999999999, rfl, by decide, rfl, rfl, by omega, a.mono (by omega), by decide, by decide, rfl, rfl⟩, ?_⟩, fun q => nomatch q⟩
    show (List.range (i + 1)).map _ = _
    rw [List.range_succ, List.map_append]; rfl
  case cat =>
    subst hL
    exact YN.data (yn_op (ye_var rfl) (YN.data (yn_lst (ya_cons (ye_tup (ya_cons (ye_cb (ya_cons (ye_op (ye_var rfl) ye_int y_sub) (ya_cons (ye_op ye_int (ye_op ye_int ye_int (y_powK (n := 12) (z := 1000000000000) ⟨by decide, by decide, by decide⟩ rfl)) y_sub) ya_nil)) y_max2) (ya_cons (ye_var rfl) ya_nil)) (le5 rfl)) (ya_cons (ye_tup (ya_cons (ye_var rfl) (ya_cons (ye_op (ye_var rfl) ye_int y_add) ya_nil)) (le5 rfl)) (ya_cons (ye_tup (ya_cons (ye_op (ye_var rfl) ye_int y_sub) (ya_cons (ye_var rfl) ya_nil)) (le5 rfl)) ya_nil))) (le5 rfl))) (y_cat .lst .lst (le5 rfl)))
  case w => exact .keep (.keep (.keep (.drop (.keep (.keep (.keep (.keep (.keep .nil))))))))
  case outer =>
    intro one h1
    have g1 := (hg one h1).isSpan
    refine ⟨_, _, yg_name, ys_seq (ys_if (yt_test (ye_op (ye_call (ya_cons (ye_var rfl) ya_nil) ⟨one.1, one.2, rfl, g1, rfl, rfl⟩) (ye_op (ye_op (ye_var rfl) ye_int (y_ixT rfl)) (ye_op (ye_var rfl) ye_int (y_ixT rfl)) y_sub) y_neI)) (fun q => by simp at q) (fun _ => ys_next))
      (ys_forC L eS (yi_list (ye_var rfl)) trivial [some (.scr ns), some (.cell 0), some (.cell 1), none, some (.lst (L.map eS)), some (.int (ksp p 0).1), some (.int (ksp p 0).2), some (eS one), none] (Weak.refl _) ?_), .keep (.keep (.keep (.keep (.keep (.keep (.keep (.drop (.keep .nil))))))))⟩
    intro other h2
    have g2 := (hg other h2).isSpan
    exact ⟨_, _, yg_name, ys_if (yt_not (yt_B (ye_call (ya_cons (ye_var rfl) (ya_cons (ye_var rfl) ya_nil)) ⟨one.1, one.2, other.1, other.2, rfl, g1, g2, rfl, rfl⟩))) (fun q => nomatch q) (fun _ => ys_next), .keep (.keep (.keep (.keep (.keep (.keep (.keep (.keep (.drop .nil))))))))⟩
end DL
open DL
namespace LW
open PySem PySem.Spec PyProof.Rows L2 DL
def top (i : Nat) : Stmt := PySem.Challenge.pw_spanshelf_k01_spans.main.body.getD i (.Pass ⟨0, 0, 0, 0⟩)
abbrev FnP (K : PySem.W.Frag) (x : Str) (st : Stmt) (f : Addr) (fd : FuncData) : Prop := FunD K x x (defArgs st) (defBody st) (defScope st) [] [] f fd
abbrev s_is_place : Stmt := top 5
abbrev N_is_place : List Str := ["number"]
theorem sc_is_place : FnScope N_is_place ["number"] (defScope s_is_place) := ⟨rfl, rfl, rfl, by decide +kernel, rfl, by decide +kernel, by decide +kernel⟩
abbrev s_is_span : Stmt := top 6
abbrev N_is_span : List Str := ["span"]
theorem sc_is_span : FnScope N_is_span ["span"] (defScope s_is_span) := ⟨rfl, rfl, rfl, by decide +kernel, rfl, by decide +kernel, by decide +kernel⟩
abbrev s_must_span : Stmt := top 7
abbrev N_must_span : List Str := ["span"]
theorem sc_must_span : FnScope N_must_span ["span"] (defScope s_must_span) := ⟨rfl, rfl, rfl, by decide +kernel, rfl, by decide +kernel, by decide +kernel⟩
abbrev s_touches : Stmt := top 8
abbrev N_touches : List Str := ["one", "other"]
theorem sc_touches : FnScope N_touches ["one", "other"] (defScope s_touches) := ⟨rfl, rfl, rfl, by decide +kernel, rfl, by decide +kernel, by decide +kernel⟩
abbrev s_is_inside : Stmt := top 9
abbrev N_is_inside : List Str := ["one", "other"]
theorem sc_is_inside : FnScope N_is_inside ["one", "other"] (defScope s_is_inside) := ⟨rfl, rfl, rfl, by decide +kernel, rfl, by decide +kernel, by decide +kernel⟩
abbrev s_length_of : Stmt := top 10
abbrev N_length_of : List Str := ["span"]
theorem sc_length_of : FnScope N_length_of ["span"] (defScope s_length_of) := ⟨rfl, rfl, rfl, by decide +kernel, rfl, by decide +kernel, by decide +kernel⟩
abbrev s_meet : Stmt := top 11
abbrev N_meet : List Str := ["one", "other"]
theorem sc_meet : FnScope N_meet ["one", "other"] (defScope s_meet) := ⟨rfl, rfl, rfl, by decide +kernel, rfl, by decide +kernel, by decide +kernel⟩
abbrev s_lies_within : Stmt := top 12
abbrev N_lies_within : List Str := ["one", "other"]
theorem sc_lies_within : FnScope N_lies_within ["one", "other"] (defScope s_lies_within) := ⟨rfl, rfl, rfl, by decide +kernel, rfl, by decide +kernel, by decide +kernel⟩
abbrev s_law_at : Stmt := top 14
abbrev N_law_at : List Str := ["_law_script", "_law_k"]
theorem sc_law_at : FnScope N_law_at ["_law_script", "_law_k"] (defScope s_law_at) := ⟨rfl, rfl, rfl, by decide +kernel, rfl, by decide +kernel, by decide +kernel⟩
abbrev s_law_mixed : Stmt := top 15
abbrev N_law_mixed : List Str := ["_law_cell", "_law_k", "_law_number_here"]
theorem sc_law_mixed : FnScope N_law_mixed ["_law_cell", "_law_k"] (defScope s_law_mixed) := ⟨rfl, rfl, rfl, by decide +kernel, rfl, by decide +kernel, by decide +kernel⟩
abbrev s_law_purse : Stmt := top 16
abbrev N_law_purse : List Str := ["_law_script", "_law_at_here", "_law_cell"]
theorem sc_law_purse : FnScope N_law_purse ["_law_script", "_law_at_here"] (defScope s_law_purse) := ⟨rfl, rfl, rfl, by decide +kernel, rfl, by decide +kernel, by decide +kernel⟩
abbrev s_law_draw : Stmt := top 17
abbrev N_law_draw : List Str := ["_law_purse_here", "_law_out_of", "_law_drawn", "_law_number_here", "_law_k"]
theorem sc_law_draw : FnScope N_law_draw ["_law_purse_here", "_law_out_of"] (defScope s_law_draw) := ⟨rfl, rfl, rfl, by decide +kernel, rfl, by decide +kernel, by decide +kernel⟩
abbrev s_law_number : Stmt := top 18
abbrev N_law_number : List Str := ["_law_purse_here", "_law_most", "_law_far"]
theorem sc_law_number : FnScope N_law_number ["_law_purse_here", "_law_most"] (defScope s_law_number) := ⟨rfl, rfl, rfl, by decide +kernel, rfl, by decide +kernel, by decide +kernel⟩
abbrev s_law_end : Stmt := top 19
abbrev N_law_end : List Str := ["_law_purse_here", "_law_ends", "_law_most", "_law_near"]
theorem sc_law_end : FnScope N_law_end ["_law_purse_here", "_law_ends", "_law_most"] (defScope s_law_end) := ⟨rfl, rfl, rfl, by decide +kernel, rfl, by decide +kernel, by decide +kernel⟩
abbrev s_law_span : Stmt := top 20
abbrev N_law_span : List Str := ["_law_purse_here", "_law_ends", "_law_most", "_law_one", "_law_other", "_law_low", "_law_high"]
theorem sc_law_span : FnScope N_law_span ["_law_purse_here", "_law_ends", "_law_most"] (defScope s_law_span) := ⟨rfl, rfl, rfl, by decide +kernel, rfl, by decide +kernel, by decide +kernel⟩
abbrev s_law_meet : Stmt := top 21
abbrev N_law_meet : List Str := ["_law_one", "_law_other"]
theorem sc_law_meet : FnScope N_law_meet ["_law_one", "_law_other"] (defScope s_law_meet) := ⟨rfl, rfl, rfl, by decide +kernel, rfl, by decide +kernel, by decide +kernel⟩
abbrev s_law_right : Stmt := top 22
abbrev N_law_right : List Str := ["_law_one", "_law_other", "_law_found", "_law_span_here", "_law_within"]
theorem sc_law_right : FnScope N_law_right ["_law_one", "_law_other"] (defScope s_law_right) := ⟨rfl, rfl, rfl, by decide +kernel, rfl, by decide +kernel, by decide +kernel⟩
abbrev s_law : Stmt := top 23
abbrev N_law : List Str := ["_law_script", "_law_purse_here", "_law_ends", "_law_k", "_law_spans", "_law_low", "_law_high", "_law_one", "_law_other"]
theorem sc_law : FnScope N_law ["_law_script"] (defScope s_law) := ⟨rfl, rfl, rfl, by decide +kernel, rfl, by decide +kernel, by decide +kernel⟩
structure Txt (K : PySem.W.Frag) (mg : Str → Option Value) : Prop where
  n_len : mg "len" = none
  n_max : mg "max" = none
  n_range : mg "range" = none
  n_min : mg "min" = none
  n_isinstance : mg "isinstance" = none
  n_bool : mg "bool" = none
  c_BEYOND : ∃ t, mg "BEYOND" = some (.int 1000000000000 t)
section
variable {P : Program} {w : World} {K : PySem.W.Frag} {mg : Str → Option Value} {base : Heap}
theorem ok_is_place (T : Txt K mg) {f : Addr} {fd : FuncData} (F : FnP K "is_place" s_is_place f fd) : FnOk P w K mg base (L2.CX P w) 1 f fd ["number"] (spD K S_is_place) :=
  fn_okC F sc_is_place (len_is_place) (t_is_place K) (fun cdv A outer s H E hr =>
    (pss_one (ps_ret (pe_chain op_lt op_lt (pe_op op_sub pe_int (pe_const T.c_BEYOND (by rfl))) (pv 0) (pe_const T.c_BEYOND (by rfl)))))) Y_is_place
theorem ok_is_span (T : Txt K mg) (C_is_place : Cal P w K mg base "is_place" 1 ["number"] S_is_place) {f : Addr} {fd : FuncData} (F : FnP K "is_span" s_is_span f fd) : FnOk P w K mg base (L2.CX P w) 2 f fd ["span"] (spD K S_is_span) :=
  fn_okC F sc_is_span (len_is_span) (t_is_span K) (fun cdv A outer s H E hr =>
    (pss_one (ps_ret (pe_and (pe_own C_is_place (hr.mono (by decide)) (by rfl) (pa_cons (pe_ix ix_tup (pv 0) pe_int (fun _ _ => rfl)) pa_nil)) (pe_and (pe_own C_is_place (hr.mono (by decide)) (by rfl) (pa_cons (pe_ix ix_tup (pv 0) pe_int (fun _ _ => rfl)) pa_nil)) (pe_one (pe_cmpR op_lt (pe_ix ix_tup (pv 0) pe_int (fun _ _ => rfl)) (pe_ix ix_tup (pv 0) pe_int (fun _ _ => rfl)) (nomark _)))))))) Y_is_span
theorem ok_must_span (T : Txt K mg) (C_is_span : Cal P w K mg base "is_span" 2 ["span"] S_is_span) {f : Addr} {fd : FuncData} (F : FnP K "must_span" s_must_span f fd) : FnOk P w K mg base (L2.CX P w) 3 f fd ["span"] (spD K S_must_span) :=
  fn_okC F sc_must_span (len_must_span) (t_must_span K) (fun cdv A outer s H E hr =>
    (pss_one (ps_if (pt_not (pt_val (pe_own C_is_span (hr.mono (by decide)) (by rfl) (pa_cons (pv 0) pa_nil)))) (pss_one ps_never) pss_nil))) Y_must_span
theorem ok_touches (T : Txt K mg) {f : Addr} {fd : FuncData} (F : FnP K "touches" s_touches f fd) : FnOk P w K mg base (L2.CX P w) 1 f fd ["one", "other"] (spD K S_touches) :=
  fn_okC F sc_touches (len_touches) (t_touches K) (fun cdv A outer s H E hr =>
    (pss_one (ps_ret (pe_and (pe_cmpR op_lt (pe_ix ix_tup (pv 0) pe_int (fun _ _ => rfl)) (pe_ix ix_tup (pv 1) pe_int (fun _ _ => rfl)) (nomark _)) (pe_one (pe_cmpR op_lt (pe_ix ix_tup (pv 1) pe_int (fun _ _ => rfl)) (pe_ix ix_tup (pv 0) pe_int (fun _ _ => rfl)) (nomark _))))))) Y_touches
theorem ok_is_inside (T : Txt K mg) {f : Addr} {fd : FuncData} (F : FnP K "is_inside" s_is_inside f fd) : FnOk P w K mg base (L2.CX P w) 1 f fd ["one", "other"] (spD K S_is_inside) :=
  fn_okC F sc_is_inside (len_is_inside) (t_is_inside K) (fun cdv A outer s H E hr =>
    (pss_one (ps_ret (pe_and (pe_cmpR op_le (pe_ix ix_tup (pv 1) pe_int (fun _ _ => rfl)) (pe_ix ix_tup (pv 0) pe_int (fun _ _ => rfl)) (nomark _)) (pe_one (pe_cmpR op_le (pe_ix ix_tup (pv 0) pe_int (fun _ _ => rfl)) (pe_ix ix_tup (pv 1) pe_int (fun _ _ => rfl)) (nomark _))))))) Y_is_inside
theorem ok_length_of (T : Txt K mg) (C_must_span : Cal P w K mg base "must_span" 3 ["span"] S_must_span) {f : Addr} {fd : FuncData} (F : FnP K "length_of" s_length_of f fd) : FnOk P w K mg base (L2.CX P w) 4 f fd ["span"] (spD K S_length_of) :=
  fn_okC F sc_length_of (len_length_of) (t_length_of K) (fun cdv A outer s H E hr =>
    (pss_cons (ps_expr (pe_own C_must_span (hr.mono (by decide)) (by rfl) (pa_cons (pv 0) pa_nil))) (pss_one (ps_ret (pe_op op_sub (pe_ix ix_tup (pv 0) pe_int (fun _ _ => rfl)) (pe_ix ix_tup (pv 0) pe_int (fun _ _ => rfl))))))) Y_length_of
theorem ok_meet (T : Txt K mg) (C_must_span : Cal P w K mg base "must_span" 3 ["span"] S_must_span) (C_touches : Cal P w K mg base "touches" 1 ["one", "other"] S_touches) {f : Addr} {fd : FuncData} (F : FnP K "meet" s_meet f fd) : FnOk P w K mg base (L2.CX P w) 4 f fd ["one", "other"] (spD K S_meet) :=
  fn_okC F sc_meet (len_meet) (t_meet K) (fun cdv A outer s H E hr =>
    (pss_cons (ps_expr (pe_own C_must_span (hr.mono (by decide)) (by rfl) (pa_cons (pv 0) pa_nil))) (pss_cons (ps_expr (pe_own C_must_span (hr.mono (by decide)) (by rfl) (pa_cons (pv 1) pa_nil))) (pss_one (ps_ret (pe_own C_touches (hr.mono (by decide)) (by rfl) (pa_cons (pv 0) (pa_cons (pv 1) pa_nil)))))))) Y_meet
theorem ok_lies_within (T : Txt K mg) (C_must_span : Cal P w K mg base "must_span" 3 ["span"] S_must_span) (C_is_inside : Cal P w K mg base "is_inside" 1 ["one", "other"] S_is_inside) {f : Addr} {fd : FuncData} (F : FnP K "lies_within" s_lies_within f fd) : FnOk P w K mg base (L2.CX P w) 4 f fd ["one", "other"] (spD K S_lies_within) :=
  fn_okC F sc_lies_within (len_lies_within) (t_lies_within K) (fun cdv A outer s H E hr =>
    (pss_cons (ps_expr (pe_own C_must_span (hr.mono (by decide)) (by rfl) (pa_cons (pv 0) pa_nil))) (pss_cons (ps_expr (pe_own C_must_span (hr.mono (by decide)) (by rfl) (pa_cons (pv 1) pa_nil))) (pss_one (ps_ret (pe_own C_is_inside (hr.mono (by decide)) (by rfl) (pa_cons (pv 0) (pa_cons (pv 1) pa_nil)))))))) Y_lies_within
theorem ok_law_at (T : Txt K mg) {f : Addr} {fd : FuncData} (F : FnP K "_law_at" s_law_at f fd) : FnOk P w K mg base (L2.CX P w) 1 f fd ["_law_script", "_law_k"] (spD K S_law_at) :=
  fn_okC F sc_law_at (len_law_at) (t_law_at K) (fun cdv A outer s H E hr =>
    (pss_cons (ps_if (pt_cmpR op_lt (pv 1) (pe_callB call_len_seq (by rfl) T.n_len bt_len (pa_cons (pv 0) pa_nil)) (nomark _)) (pss_one (ps_ret (pe_ix ix_list (pv 0) (pv 1) (fun _ _ => rfl)))) pss_nil) (pss_one (ps_ret pe_int)))) Y_law_at
theorem ok_law_mixed (T : Txt K mg) {f : Addr} {fd : FuncData} (F : FnP K "_law_mixed" s_law_mixed f fd) : FnOk P w K mg base (L2.CX P w) 1 f fd ["_law_cell", "_law_k"] (spD K S_law_mixed) :=
  fn_okC F sc_law_mixed (len_law_mixed) (t_law_mixed K) (fun cdv A outer s H E hr =>
    (pss_cons (ps_set (i := 2) sc_law_mixed.nd rfl (Or.inl rfl) (pe_op op_mod (pe_op op_add (pe_op op_add (pe_op op_add (pe_op op_mul (pv 0) pe_int) (pe_op op_mul (pe_op op_mul pe_int (pv 1)) (pv 1))) (pv 1)) pe_int) pe_int)) (pss_cons (ps_set (i := 2) sc_law_mixed.nd rfl (Or.inl rfl) (pe_op op_mod (pe_op op_add (pe_op op_mul (pv 2) (pv 2)) pe_int) pe_int)) (pss_one (ps_ret (pe_op op_mod (pe_op op_mul (pv 2) pe_int) pe_int)))))) Y_law_mixed
theorem ok_law_purse (T : Txt K mg) (C_law_at : Cal P w K mg base "_law_at" 1 ["_law_script", "_law_k"] S_law_at) {f : Addr} {fd : FuncData} (F : FnP K "_law_purse" s_law_purse f fd) : FnOk P w K mg base (L2.CX P w) 2 f fd ["_law_script", "_law_at_here"] (spD K S_law_purse) :=
  fn_okC F sc_law_purse (len_law_purse) (t_law_purse K) (fun cdv A outer s H E hr =>
    (pss_cons (ps_set (i := 2) sc_law_purse.nd rfl (Or.inl rfl) (pe_own C_law_at (hr.mono (by decide)) (by rfl) (pa_cons (pv 0) (pa_cons (pv 1) pa_nil)))) (pss_one (ps_ret (pe_lst (pa_cons (pe_callB (call_max2 rfl) (by rfl) T.n_max bt_max (pa_cons (pe_op op_sub (pv 2) (pe_op op_pow pe_int pe_int)) (pa_cons pe_int pa_nil))) (pa_cons (pe_op op_mod (pv 2) pe_int) (pa_cons (pe_op op_mul pe_int (pv 1)) pa_nil)))))))) Y_law_purse
theorem ok_law_draw (T : Txt K mg) (C_law_mixed : Cal P w K mg base "_law_mixed" 1 ["_law_cell", "_law_k"] S_law_mixed) {f : Addr} {fd : FuncData} (F : FnP K "_law_draw" s_law_draw f fd) : FnOk P w K mg base (L2.CX P w) 2 f fd ["_law_purse_here", "_law_out_of"] (spD K S_law_draw) :=
  fn_okC F sc_law_draw (len_law_draw) (t_law_draw K) (fun cdv A outer s H E hr =>
    (pss_cons (ps_if (pt_cmpR op_gt (pe_ix ix_list (pv 0) pe_int (fun _ _ => rfl)) pe_int (nomark _)) (pss_cons (ps_set (i := 2) sc_law_draw.nd rfl (Or.inl rfl) (pe_op op_mod (pe_ix ix_list (pv 0) pe_int (fun _ _ => rfl)) (pv 1))) (pss_cons (ps_asg (pe_op op_fdivW (pe_ix ix_list (pv 0) pe_int (fun _ _ => rfl)) (pv 1)) (pg_sub (pv 0) pe_int set_list)) (pss_one (ps_ret (pv 2))))) pss_nil) (pss_cons (ps_set (i := 3) sc_law_draw.nd rfl (Or.inl rfl) pe_int) (pss_cons (ps_for (passes_of rfl) rfl (pi_range1 (by rfl) T.n_range (pa_cons (pe_op op_add pe_int (pe_op op_fdivW (pe_bits (pv 1)) pe_int)) pa_nil)) (pg_name (i := 4) sc_law_draw.nd rfl (Or.inl rfl)) (pss_cons (ps_asg (pe_op op_add (pe_ix ix_list (pv 0) pe_int (fun _ _ => rfl)) pe_int) (pg_sub (pv 0) pe_int set_list)) (pss_one (ps_set (i := 3) sc_law_draw.nd rfl (Or.inl rfl) (pe_op op_add (pe_op op_mul (pv 3) pe_int) (pe_own C_law_mixed (hr.mono (by decide)) (by rfl) (pa_cons (pe_ix ix_list (pv 0) pe_int (fun _ _ => rfl)) (pa_cons (pe_ix ix_list (pv 0) pe_int (fun _ _ => rfl)) pa_nil)))))))) (pss_one (ps_ret (pe_op op_mod (pv 3) (pv 1)))))))) Y_law_draw
theorem ok_law_number (T : Txt K mg) (C_law_draw : Cal P w K mg base "_law_draw" 2 ["_law_purse_here", "_law_out_of"] S_law_draw) {f : Addr} {fd : FuncData} (F : FnP K "_law_number" s_law_number f fd) : FnOk P w K mg base (L2.CX P w) 3 f fd ["_law_purse_here", "_law_most"] (spD K S_law_number) :=
  fn_okC F sc_law_number (len_law_number) (t_law_number K) (fun cdv A outer s H E hr =>
    (pss_cons (ps_set (i := 2) sc_law_number.nd rfl (Or.inl rfl) (pe_ix ix_list (pe_lst (pa_cons pe_int (pa_cons pe_int (pa_cons pe_int (pa_cons (pv 1) pa_nil))))) (pe_own C_law_draw (hr.mono (by decide)) (by rfl) (pa_cons (pv 0) (pa_cons pe_int pa_nil))) (fun _ _ => rfl))) (pss_one (ps_ret (pe_op op_sub (pe_own C_law_draw (hr.mono (by decide)) (by rfl) (pa_cons (pv 0) (pa_cons (pe_op op_add (pe_op op_mul pe_int (pv 2)) pe_int) pa_nil))) (pv 2)))))) Y_law_number
theorem ok_law_end (T : Txt K mg) (C_law_draw : Cal P w K mg base "_law_draw" 2 ["_law_purse_here", "_law_out_of"] S_law_draw) (C_law_number : Cal P w K mg base "_law_number" 3 ["_law_purse_here", "_law_most"] S_law_number) {f : Addr} {fd : FuncData} (F : FnP K "_law_end" s_law_end f fd) : FnOk P w K mg base (L2.CX P w) 4 f fd ["_law_purse_here", "_law_ends", "_law_most"] (spD K S_law_end) :=
  fn_okC F sc_law_end (len_law_end) (t_law_end K) (fun cdv A outer s H E hr =>
    (pss_cons (ps_if (PW.pt (pw_and (pt_cmpR (op_neD hr.units) (pv 1) (pe_lst pa_nil) (nomark _)) (pw_and1 (pt_cmpR op_gt (pe_own C_law_draw (hr.mono (by decide)) (by rfl) (pa_cons (pv 0) (pa_cons pe_int pa_nil))) pe_int (nomark _))))) (pss_cons (ps_set (i := 3) sc_law_end.nd rfl (Or.inl rfl) (pe_op op_sub (pe_op op_add (pe_ix ix_list (pv 1) (pe_own C_law_draw (hr.mono (by decide)) (by rfl) (pa_cons (pv 0) (pa_cons (pe_callB call_len_seq (by rfl) T.n_len bt_len (pa_cons (pv 1) pa_nil)) pa_nil))) (fun _ _ => rfl)) (pe_own C_law_draw (hr.mono (by decide)) (by rfl) (pa_cons (pv 0) (pa_cons pe_int pa_nil)))) pe_int)) (pss_one (ps_ret (pe_callB (call_max2 rfl) (by rfl) T.n_max bt_max (pa_cons (pe_op op_sub pe_int (pv 2)) (pa_cons (pe_callB (call_min2 rfl) (by rfl) T.n_min bt_min (pa_cons (pv 2) (pa_cons (pv 3) pa_nil))) pa_nil)))))) pss_nil) (pss_one (ps_ret (pe_own C_law_number (hr.mono (by decide)) (by rfl) (pa_cons (pv 0) (pa_cons (pv 2) pa_nil))))))) Y_law_end
theorem ok_law_span (T : Txt K mg) (C_law_end : Cal P w K mg base "_law_end" 4 ["_law_purse_here", "_law_ends", "_law_most"] S_law_end) {f : Addr} {fd : FuncData} (F : FnP K "_law_span" s_law_span f fd) : FnOk P w K mg base (L2.CX P w) 5 f fd ["_law_purse_here", "_law_ends", "_law_most"] (spD K S_law_span) :=
  fn_okC F sc_law_span (len_law_span) (t_law_span K) (fun cdv A outer s H E hr =>
    (pss_cons (ps_set (i := 3) sc_law_span.nd rfl (Or.inl rfl) (pe_own C_law_end (hr.mono (by decide)) (by rfl) (pa_cons (pv 0) (pa_cons (pv 1) (pa_cons (pv 2) pa_nil))))) (pss_cons (ps_set (i := 4) sc_law_span.nd rfl (Or.inl rfl) (pe_own C_law_end (hr.mono (by decide)) (by rfl) (pa_cons (pv 0) (pa_cons (pe_op op_cat (pv 1) (pe_lst (pa_cons (pv 3) pa_nil))) (pa_cons (pv 2) pa_nil))))) (pss_cons (ps_set (i := 5) sc_law_span.nd rfl (Or.inl rfl) (pe_callB (call_min3Nu rfl) (by rfl) T.n_min bt_min (pa_cons (pv 3) (pa_cons (pv 4) (pa_cons (pe_op op_sub (pv 2) pe_int) pa_nil))))) (pss_cons (ps_set (i := 6) sc_law_span.nd rfl (Or.inl rfl) (pe_callB (call_max3Nu rfl) (by rfl) T.n_max bt_max (pa_cons (pv 3) (pa_cons (pv 4) (pa_cons (pe_op op_add (pv 5) pe_int) pa_nil))))) (pss_cons (ps_expr (pe_bm PySem.F.plainAttrs_list PySem.F.slot_list_append PySem.F.type_list_append mt_append (pv 1) (pa_cons (pv 5) pa_nil))) (pss_cons (ps_expr (pe_bm PySem.F.plainAttrs_list PySem.F.slot_list_append PySem.F.type_list_append mt_append (pv 1) (pa_cons (pv 6) pa_nil))) (pss_one (ps_ret (pe_tup (pa_cons (pv 5) (pa_cons (pv 6) pa_nil)))))))))))) Y_law_span
theorem ok_law_meet (T : Txt K mg) {f : Addr} {fd : FuncData} (F : FnP K "_law_meet" s_law_meet f fd) : FnOk P w K mg base (L2.CX P w) 1 f fd ["_law_one", "_law_other"] (spD K S_law_meet) :=
  fn_okC F sc_law_meet (len_law_meet) (t_law_meet K) (fun cdv A outer s H E hr =>
    (pss_one (ps_ret (pe_cmpR op_lt (pe_callB (call_max2 rfl) (by rfl) T.n_max bt_max (pa_cons (pe_ix ix_tup (pv 0) pe_int (fun _ _ => rfl)) (pa_cons (pe_ix ix_tup (pv 1) pe_int (fun _ _ => rfl)) pa_nil))) (pe_callB (call_min2 rfl) (by rfl) T.n_min bt_min (pa_cons (pe_ix ix_tup (pv 0) pe_int (fun _ _ => rfl)) (pa_cons (pe_ix ix_tup (pv 1) pe_int (fun _ _ => rfl)) pa_nil))) (nomark _))))) Y_law_meet
theorem ok_law_right (T : Txt K mg) (C_meet : Cal P w K mg base "meet" 4 ["one", "other"] S_meet) (C_law_meet : Cal P w K mg base "_law_meet" 1 ["_law_one", "_law_other"] S_law_meet) (C_lies_within : Cal P w K mg base "lies_within" 4 ["one", "other"] S_lies_within) {f : Addr} {fd : FuncData} (F : FnP K "_law_right" s_law_right f fd) : FnOk P w K mg base (L2.CX P w) 5 f fd ["_law_one", "_law_other"] (spD K S_law_right) :=
  fn_okC F sc_law_right (len_law_right) (t_law_right K) (fun cdv A outer s H E hr =>
    (pss_cons (ps_set (i := 2) sc_law_right.nd rfl (Or.inl rfl) (pe_own C_meet (hr.mono (by decide)) (by rfl) (pa_cons (pv 0) (pa_cons (pv 1) pa_nil)))) (pss_cons (ps_if (PW.pt (pw_or (pt_not (pt_val (pe_callB call_isi (by rfl) T.n_isinstance bt_isinstance (pa_cons (pv 2) (pa_cons (pe_bltn (v := .ty "bool") (by rfl) T.n_bool bt_bool rfl) pa_nil))))) (pw_or1 (pt_cmpR op_ne (pv 2) (pe_own C_law_meet (hr.mono (by decide)) (by rfl) (pa_cons (pv 0) (pa_cons (pv 1) pa_nil))) (nomark _))))) (pss_one (ps_ret pe_bl)) pss_nil) (pss_cons (ps_set (i := 2) sc_law_right.nd rfl (Or.inl rfl) (pe_own C_lies_within (hr.mono (by decide)) (by rfl) (pa_cons (pv 0) (pa_cons (pv 1) pa_nil)))) (pss_cons (ps_setLc (i := 4) (own := [("_law_span_here", 3)]) rfl sc_law_right.nd rfl rfl (sw_true rfl rfl rfl (by decide +kernel)) (pi_list (pe_lst (pa_cons (pv 0) pa_nil))) (blkOk_by (own := [("_law_span_here", 3)]) (N := N_law_right) (sc := defScope s_law_right) (by decide +kernel)) (fun _ _ _ _ _ => (pg_name (i := 3) sc_law_right.nd rfl (Or.inl rfl))) (fun _ _ _ _ _ => (pts_one (PW.pt (pw_and (pt_cmpR op_le (pe_ix ix_tup (pv 1) pe_int (fun _ _ => rfl)) (pe_ix ix_tup (pv 3) pe_int (fun _ _ => rfl)) (nomark _)) (pw_and1 (pt_cmpR op_le (pe_ix ix_tup (pv 3) pe_int (fun _ _ => rfl)) (pe_ix ix_tup (pv 1) pe_int (fun _ _ => rfl)) (nomark _))))))) (fun _ _ _ _ _ => (pv 3))) (pss_one (ps_ret (pe_and (pe_callB call_isi (by rfl) T.n_isinstance bt_isinstance (pa_cons (pv 2) (pa_cons (pe_bltn (v := .ty "bool") (by rfl) T.n_bool bt_bool rfl) pa_nil))) (pe_one (pe_cmpR op_eq (pv 2) (pe_cmpR (op_neD hr.units) (pv 4) (pe_lst pa_nil) (nomark _)) (nomark _))))))))))) Y_law_right
theorem ok_law (T : Txt K mg) (C_law_purse : Cal P w K mg base "_law_purse" 2 ["_law_script", "_law_at_here"] S_law_purse) (C_law_span : Cal P w K mg base "_law_span" 5 ["_law_purse_here", "_law_ends", "_law_most"] S_law_span) (C_length_of : Cal P w K mg base "length_of" 4 ["span"] S_length_of) (C_law_right : Cal P w K mg base "_law_right" 5 ["_law_one", "_law_other"] S_law_right) {f : Addr} {fd : FuncData} (F : FnP K "law" s_law f fd) : FnOk P w K mg base CX0 6 f fd ["_law_script"] (spD K S_law) :=
  fn_okC F sc_law (len_law) (t_law K) (fun cdv A outer s H E hr =>
    (pss_cons (ps_set (i := 1) sc_law.nd rfl (Or.inr rfl) (pe_own C_law_purse (hr.mono (by decide)) (by rfl) (pa_cons (pv 0) (pa_cons pe_int pa_nil)))) (pss_cons (ps_set (i := 2) sc_law.nd rfl (Or.inr rfl) (pe_lst pa_nil)) (pss_cons (ps_setLc (i := 4) (own := [("_law_k", 3)]) rfl sc_law.nd rfl rfl (sw_true rfl rfl rfl (by decide +kernel)) (pi_range1 (by rfl) T.n_range (pa_cons pe_int pa_nil)) (blkOk_by (own := [("_law_k", 3)]) (N := N_law) (sc := defScope s_law) (by decide +kernel)) (fun _ _ _ _ _ => (pg_name (i := 3) sc_law.nd rfl (Or.inl rfl))) (fun _ _ _ _ _ => pts_nil) (fun _ _ _ _ _ => (pe_own C_law_span (hr.mono (by decide)) (by rfl) (pa_cons (pv 1) (pa_cons (pv 2) (pa_cons (pe_op op_sub (pe_op op_pow pe_int pe_int) pe_int) pa_nil)))))) (pss_cons (ps_asg (pe_ix ix_list (pv 4) pe_int (fun _ _ => rfl)) (pg_tup (by rfl) (pgs_cons (pg_name (i := 5) sc_law.nd rfl (Or.inl rfl)) (pgs_cons (pg_name (i := 6) sc_law.nd rfl (Or.inl rfl)) pgs_nil)))) (pss_cons (ps_set (i := 4) sc_law.nd rfl (Or.inl rfl) (pe_op op_cat (pv 4) (pe_lst (pa_cons (pe_tup (pa_cons (pe_callB (call_max2 rfl) (by rfl) T.n_max bt_max (pa_cons (pe_op op_sub (pv 5) pe_int) (pa_cons (pe_op op_sub pe_int (pe_op op_pow pe_int pe_int)) pa_nil))) (pa_cons (pv 6) pa_nil))) (pa_cons (pe_tup (pa_cons (pv 5) (pa_cons (pe_op op_add (pv 5) pe_int) pa_nil))) (pa_cons (pe_tup (pa_cons (pe_op op_sub (pv 6) pe_int) (pa_cons (pv 6) pa_nil))) pa_nil)))))) (pss_cons (ps_for (passes_of rfl) rfl (pi_list (pv 4)) (pg_name (i := 7) sc_law.nd rfl (Or.inl rfl)) (pss_cons (ps_if (pt_cmpR op_ne (pe_own C_length_of (hr.mono (by decide)) (by rfl) (pa_cons (pv 7) pa_nil)) (pe_op op_sub (pe_ix ix_tup (pv 7) pe_int (fun _ _ => rfl)) (pe_ix ix_tup (pv 7) pe_int (fun _ _ => rfl))) (nomark _)) (pss_one (ps_ret pe_bl)) pss_nil) (pss_one (ps_for (passes_of rfl) rfl (pi_list (pv 4)) (pg_name (i := 8) sc_law.nd rfl (Or.inl rfl)) (pss_one (ps_if (pt_not (pt_val (pe_own C_law_right (hr.mono (by decide)) (by rfl) (pa_cons (pv 7) (pa_cons (pv 8) pa_nil))))) (pss_one (ps_ret pe_bl)) pss_nil)))))) (pss_one (ps_ret pe_bl))))))))) Y_law
end
def d_is_place : He.DefD := ⟨("is_place", none), "is_place", "is_place", defArgs s_is_place, defBody s_is_place, defScope s_is_place, [], []⟩
def d_is_span : He.DefD := ⟨("is_span", none), "is_span", "is_span", defArgs s_is_span, defBody s_is_span, defScope s_is_span, [], []⟩
def d_must_span : He.DefD := ⟨("must_span", none), "must_span", "must_span", defArgs s_must_span, defBody s_must_span, defScope s_must_span, [], []⟩
def d_touches : He.DefD := ⟨("touches", none), "touches", "touches", defArgs s_touches, defBody s_touches, defScope s_touches, [], []⟩
def d_is_inside : He.DefD := ⟨("is_inside", none), "is_inside", "is_inside", defArgs s_is_inside, defBody s_is_inside, defScope s_is_inside, [], []⟩
def d_length_of : He.DefD := ⟨("length_of", none), "length_of", "length_of", defArgs s_length_of, defBody s_length_of, defScope s_length_of, [], []⟩
def d_meet : He.DefD := ⟨("meet", none), "meet", "meet", defArgs s_meet, defBody s_meet, defScope s_meet, [], []⟩
def d_lies_within : He.DefD := ⟨("lies_within", none), "lies_within", "lies_within", defArgs s_lies_within, defBody s_lies_within, defScope s_lies_within, [], []⟩
def d_law_at : He.DefD := ⟨("_law_at", none), "_law_at", "_law_at", defArgs s_law_at, defBody s_law_at, defScope s_law_at, [], []⟩
def d_law_mixed : He.DefD := ⟨("_law_mixed", none), "_law_mixed", "_law_mixed", defArgs s_law_mixed, defBody s_law_mixed, defScope s_law_mixed, [], []⟩
def d_law_purse : He.DefD := ⟨("_law_purse", none), "_law_purse", "_law_purse", defArgs s_law_purse, defBody s_law_purse, defScope s_law_purse, [], []⟩
def d_law_draw : He.DefD := ⟨("_law_draw", none), "_law_draw", "_law_draw", defArgs s_law_draw, defBody s_law_draw, defScope s_law_draw, [], []⟩
def d_law_number : He.DefD := ⟨("_law_number", none), "_law_number", "_law_number", defArgs s_law_number, defBody s_law_number, defScope s_law_number, [], []⟩
def d_law_end : He.DefD := ⟨("_law_end", none), "_law_end", "_law_end", defArgs s_law_end, defBody s_law_end, defScope s_law_end, [], []⟩
def d_law_span : He.DefD := ⟨("_law_span", none), "_law_span", "_law_span", defArgs s_law_span, defBody s_law_span, defScope s_law_span, [], []⟩
def d_law_meet : He.DefD := ⟨("_law_meet", none), "_law_meet", "_law_meet", defArgs s_law_meet, defBody s_law_meet, defScope s_law_meet, [], []⟩
def d_law_right : He.DefD := ⟨("_law_right", none), "_law_right", "_law_right", defArgs s_law_right, defBody s_law_right, defScope s_law_right, [], []⟩
def d_law : He.DefD := ⟨("law", none), "law", "law", defArgs s_law, defBody s_law, defScope s_law, [], []⟩
def fn : List He.DefD := [d_is_place, d_is_span, d_must_span, d_touches, d_is_inside, d_length_of, d_meet, d_lies_within, d_law_at, d_law_mixed, d_law_purse, d_law_draw, d_law_number, d_law_end, d_law_span, d_law_meet, d_law_right, d_law]
def fa : List He.Fa := [.glo "is_place", .glo "is_span", .glo "must_span", .glo "touches", .glo "is_inside", .glo "length_of", .glo "meet", .glo "lies_within", .glo "_law_at", .glo "_law_mixed", .glo "_law_purse", .glo "_law_draw", .glo "_law_number", .glo "_law_end", .glo "_law_span", .glo "_law_meet", .glo "_law_right", .glo "law", .free "len", .free "max", .free "range", .free "min", .free "isinstance", .free "bool", .int "BEYOND" 1000000000000]
abbrev R : PySem.W.OpenRow := PySem.W.OpenLaw.row PySem.Challenge.rw_spanshelf_k01_spans
abbrev hk : PySem.W.Hook := He.hookD 4 fa fn
def ob (s : PySem.W.SharedT) : He.AlD := He.obsDG 4 fa fn (HandSHeadRun.getT s)
theorem ob_eq (s : PySem.W.SharedT) : ob s = hk.obs s.abs := He.obsDG_eq (HandSHeadRun.getT_eq s)
def loose0 : List Str := ["__name__", "ShelfError", "NoSpan", "BEYOND", "is_place", "is_span", "must_span", "touches", "is_inside", "length_of", "meet", "lies_within", "_law_at", "_law_mixed", "_law_purse", "_law_draw", "_law_number", "_law_end", "_law_span", "_law_meet", "_law_right"]
abbrev loose : List Str := loose0
theorem run (w : World) : HandSHeadRun.RunEq R (PySem.W.view R.prog [23]) hk ob 40000 loose w := by
  intro os
  kernel_rfl
theorem facts {P : Program} {w : World} {K : PySem.W.Frag} {h : Heap} {mg : Str → Option Value} {f : Addr} (X : K.In h) (G : h.Ns mainGlobals mg) (hfa : mg ("law" : Str) = some (.ref f)) (c : He.SaysD fa fn K) :
    ∃ fd : FuncData, (∀ (s : Shared) (v : Value), BindsTo s fd ⟨[v], []⟩ [("_law_script", v)]) ∧ ∀ base : Heap, K.In base → base.Ns mainGlobals mg → FnOk P w K mg base CX0 6 f fd ["_law_script"] (spD K S_law) := by
  have T : Txt K mg := ⟨He.free_ok X G (c.fact 18 (f := .free "len") rfl), He.free_ok X G (c.fact 19 (f := .free "max") rfl), He.free_ok X G (c.fact 20 (f := .free "range") rfl), He.free_ok X G (c.fact 21 (f := .free "min") rfl), He.free_ok X G (c.fact 22 (f := .free "isinstance") rfl), He.free_ok X G (c.fact 23 (f := .free "bool") rfl), He.int_ok X G (c.fact 24 rfl)⟩
  obtain ⟨fd_is_place, F_is_place⟩ := c.def_ 0 (d := d_is_place) rfl
  obtain ⟨fd_is_span, F_is_span⟩ := c.def_ 1 (d := d_is_span) rfl
  obtain ⟨fd_must_span, F_must_span⟩ := c.def_ 2 (d := d_must_span) rfl
  obtain ⟨fd_touches, F_touches⟩ := c.def_ 3 (d := d_touches) rfl
  obtain ⟨fd_is_inside, F_is_inside⟩ := c.def_ 4 (d := d_is_inside) rfl
  obtain ⟨fd_length_of, F_length_of⟩ := c.def_ 5 (d := d_length_of) rfl
  obtain ⟨fd_meet, F_meet⟩ := c.def_ 6 (d := d_meet) rfl
  obtain ⟨fd_lies_within, F_lies_within⟩ := c.def_ 7 (d := d_lies_within) rfl
  obtain ⟨fd_law_at, F_law_at⟩ := c.def_ 8 (d := d_law_at) rfl
  obtain ⟨fd_law_mixed, F_law_mixed⟩ := c.def_ 9 (d := d_law_mixed) rfl
  obtain ⟨fd_law_purse, F_law_purse⟩ := c.def_ 10 (d := d_law_purse) rfl
  obtain ⟨fd_law_draw, F_law_draw⟩ := c.def_ 11 (d := d_law_draw) rfl
  obtain ⟨fd_law_number, F_law_number⟩ := c.def_ 12 (d := d_law_number) rfl
  obtain ⟨fd_law_end, F_law_end⟩ := c.def_ 13 (d := d_law_end) rfl
  obtain ⟨fd_law_span, F_law_span⟩ := c.def_ 14 (d := d_law_span) rfl
  obtain ⟨fd_law_meet, F_law_meet⟩ := c.def_ 15 (d := d_law_meet) rfl
  obtain ⟨fd_law_right, F_law_right⟩ := c.def_ 16 (d := d_law_right) rfl
  obtain ⟨fd_law, F_law⟩ := c.def_ 17 (d := d_law) rfl
  have e := hfa.symm.trans (He.glo_ok X G (c.fact 17 (f := .glo "law") rfl))
  cases e
  have b := FunD.bindsA (ps := ["_law_script"]) F_law fun _ _ _ _ _ _ us hl => match us, hl with | [_], _ => rfl
  refine ⟨fd_law, fun s v => b s [v] rfl, fun base _ _ => ?_⟩
  have C_is_place : Cal P w K mg base "is_place" 1 ["number"] S_is_place := ⟨_, ok_is_place T F_is_place, FunD.bindsN F_is_place fun _ _ _ _ _ _ us hl => match us, hl with | [_], _ => rfl, F_is_place.kp, He.glo_ok X G (c.fact 0 (f := .glo "is_place") rfl)⟩
  have C_is_span : Cal P w K mg base "is_span" 2 ["span"] S_is_span := ⟨_, ok_is_span T C_is_place F_is_span, FunD.bindsN F_is_span fun _ _ _ _ _ _ us hl => match us, hl with | [_], _ => rfl, F_is_span.kp, He.glo_ok X G (c.fact 1 (f := .glo "is_span") rfl)⟩
  have C_must_span : Cal P w K mg base "must_span" 3 ["span"] S_must_span := ⟨_, ok_must_span T C_is_span F_must_span, FunD.bindsN F_must_span fun _ _ _ _ _ _ us hl => match us, hl with | [_], _ => rfl, F_must_span.kp, He.glo_ok X G (c.fact 2 (f := .glo "must_span") rfl)⟩
  have C_touches : Cal P w K mg base "touches" 1 ["one", "other"] S_touches := ⟨_, ok_touches T F_touches, FunD.bindsN F_touches fun _ _ _ _ _ _ us hl => match us, hl with | [_, _], _ => rfl, F_touches.kp, He.glo_ok X G (c.fact 3 (f := .glo "touches") rfl)⟩
  have C_is_inside : Cal P w K mg base "is_inside" 1 ["one", "other"] S_is_inside := ⟨_, ok_is_inside T F_is_inside, FunD.bindsN F_is_inside fun _ _ _ _ _ _ us hl => match us, hl with | [_, _], _ => rfl, F_is_inside.kp, He.glo_ok X G (c.fact 4 (f := .glo "is_inside") rfl)⟩
  have C_length_of : Cal P w K mg base "length_of" 4 ["span"] S_length_of := ⟨_, ok_length_of T C_must_span F_length_of, FunD.bindsN F_length_of fun _ _ _ _ _ _ us hl => match us, hl with | [_], _ => rfl, F_length_of.kp, He.glo_ok X G (c.fact 5 (f := .glo "length_of") rfl)⟩
  have C_meet : Cal P w K mg base "meet" 4 ["one", "other"] S_meet := ⟨_, ok_meet T C_must_span C_touches F_meet, FunD.bindsN F_meet fun _ _ _ _ _ _ us hl => match us, hl with | [_, _], _ => rfl, F_meet.kp, He.glo_ok X G (c.fact 6 (f := .glo "meet") rfl)⟩
  have C_lies_within : Cal P w K mg base "lies_within" 4 ["one", "other"] S_lies_within := ⟨_, ok_lies_within T C_must_span C_is_inside F_lies_within, FunD.bindsN F_lies_within fun _ _ _ _ _ _ us hl => match us, hl with | [_, _], _ => rfl, F_lies_within.kp, He.glo_ok X G (c.fact 7 (f := .glo "lies_within") rfl)⟩
  have C_law_at : Cal P w K mg base "_law_at" 1 ["_law_script", "_law_k"] S_law_at := ⟨_, ok_law_at T F_law_at, FunD.bindsN F_law_at fun _ _ _ _ _ _ us hl => match us, hl with | [_, _], _ => rfl, F_law_at.kp, He.glo_ok X G (c.fact 8 (f := .glo "_law_at") rfl)⟩
  have C_law_mixed : Cal P w K mg base "_law_mixed" 1 ["_law_cell", "_law_k"] S_law_mixed := ⟨_, ok_law_mixed T F_law_mixed, FunD.bindsN F_law_mixed fun _ _ _ _ _ _ us hl => match us, hl with | [_, _], _ => rfl, F_law_mixed.kp, He.glo_ok X G (c.fact 9 (f := .glo "_law_mixed") rfl)⟩
  have C_law_purse : Cal P w K mg base "_law_purse" 2 ["_law_script", "_law_at_here"] S_law_purse := ⟨_, ok_law_purse T C_law_at F_law_purse, FunD.bindsN F_law_purse fun _ _ _ _ _ _ us hl => match us, hl with | [_, _], _ => rfl, F_law_purse.kp, He.glo_ok X G (c.fact 10 (f := .glo "_law_purse") rfl)⟩
  have C_law_draw : Cal P w K mg base "_law_draw" 2 ["_law_purse_here", "_law_out_of"] S_law_draw := ⟨_, ok_law_draw T C_law_mixed F_law_draw, FunD.bindsN F_law_draw fun _ _ _ _ _ _ us hl => match us, hl with | [_, _], _ => rfl, F_law_draw.kp, He.glo_ok X G (c.fact 11 (f := .glo "_law_draw") rfl)⟩
  have C_law_number : Cal P w K mg base "_law_number" 3 ["_law_purse_here", "_law_most"] S_law_number := ⟨_, ok_law_number T C_law_draw F_law_number, FunD.bindsN F_law_number fun _ _ _ _ _ _ us hl => match us, hl with | [_, _], _ => rfl, F_law_number.kp, He.glo_ok X G (c.fact 12 (f := .glo "_law_number") rfl)⟩
  have C_law_end : Cal P w K mg base "_law_end" 4 ["_law_purse_here", "_law_ends", "_law_most"] S_law_end := ⟨_, ok_law_end T C_law_draw C_law_number F_law_end, FunD.bindsN F_law_end fun _ _ _ _ _ _ us hl => match us, hl with | [_, _, _], _ => rfl, F_law_end.kp, He.glo_ok X G (c.fact 13 (f := .glo "_law_end") rfl)⟩
  have C_law_span : Cal P w K mg base "_law_span" 5 ["_law_purse_here", "_law_ends", "_law_most"] S_law_span := ⟨_, ok_law_span T C_law_end F_law_span, FunD.bindsN F_law_span fun _ _ _ _ _ _ us hl => match us, hl with | [_, _, _], _ => rfl, F_law_span.kp, He.glo_ok X G (c.fact 14 (f := .glo "_law_span") rfl)⟩
  have C_law_meet : Cal P w K mg base "_law_meet" 1 ["_law_one", "_law_other"] S_law_meet := ⟨_, ok_law_meet T F_law_meet, FunD.bindsN F_law_meet fun _ _ _ _ _ _ us hl => match us, hl with | [_, _], _ => rfl, F_law_meet.kp, He.glo_ok X G (c.fact 15 (f := .glo "_law_meet") rfl)⟩
  have C_law_right : Cal P w K mg base "_law_right" 5 ["_law_one", "_law_other"] S_law_right := ⟨_, ok_law_right T C_meet C_law_meet C_lies_within F_law_right, FunD.bindsN F_law_right fun _ _ _ _ _ _ us hl => match us, hl with | [_, _], _ => rfl, F_law_right.kp, He.glo_ok X G (c.fact 16 (f := .glo "_law_right") rfl)⟩
  exact ok_law T C_law_purse C_law_span C_length_of C_law_right F_law
end LW
open PySem PySem.W PySem.Calls PyProof.Rows
set_option maxRecDepth 100000 in
set_option maxHeartbeats 0 in
theorem PySem.Challenge.cw_spanshelf_k01_spans_holds : PySem.Challenge.rw_spanshelf_k01_spans.Holds := by
  w_on; o_law
  refine HandSHeadRun.head_any (r := OpenLaw.row PySem.Challenge.rw_spanshelf_k01_spans) (q := view (OpenLaw.row PySem.Challenge.rw_spanshelf_k01_spans).prog [23]) (H := LW.hk) (ob := LW.ob) (M := 40000) (loose := LW.loose) (d := HandSHeadRun.topDef (OpenLaw.row PySem.Challenge.rw_spanshelf_k01_spans).prog 23) (kwd := []) LW.ob_eq
    (by kernel_rfl) (fun s => by kernel_rfl) LW.run (by kernel_rfl) (by kernel_rfl) (by kernel_rfl) (by rfl) (by first | assumption | decide +kernel) (by decide +kernel) ⟨rfl, rfl, rfl, rfl, rfl, by decide +kernel⟩ ?hw ?hc
  case hw => w_witness2
  case hc =>
    refine L2.walk_ofE (l := PySem.Challenge.rw_spanshelf_k01_spans) (n := 63) (k := 6) (x := "_law_script") (CX := L2.CX0) rfl (by decide) (by kernel_rfl) ⟨rfl, by decide, by decide⟩ ?F (fun _ _ _ _ z => z)
    intro w mg fa h Y G hmg0
    obtain ⟨K, KX, c⟩ := Y
    have hmg : mg ("law" : PySem.Str) = some (.ref fa) := by
      have e : (HandSHeadRun.topDef (OpenLaw.row PySem.Challenge.rw_spanshelf_k01_spans).prog 23).name = ("law" : PySem.Str) := by kernel_rfl
      rw [← e]
      exact hmg0
    obtain ⟨fd, hb, hF⟩ := LW.facts (P := (PySem.Challenge.rw_spanshelf_k01_spans).prog) (w := w) KX G hmg c
    exact ⟨K, fd, DL.spD K S_law, KX, hb, fun H a ns hl _ hS => DL.law_start hS (law_true ns hl), hF⟩
