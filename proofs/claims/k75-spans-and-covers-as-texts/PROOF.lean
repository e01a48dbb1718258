import PyProof.Rows.All
import Wide.All
import OpenK.AllK
import Wide.FinOn
import HandS.ForMost
import HandS.ForExc
import HandS.ExcValue
import HandS.ExcIs
import HandS.IsInst
import HandS.Evl
import HandS.HeadHook1
import HandS.Flt
import HandS.Wide
import HandS.WideBits
import HandS.Defaults
import HandS.Style
import HandS.TupLe
import HandS.HeadEnd
import HandS.HeadHook2
import HandS.Head0
import HandS.Head1
import HandS.Head2
import HandS.SortInts
import HandS.SortRule
import HandS.SetFor
import HandS.Conv
import HandS.Sort
import HandS.NoneIn
import HandS.More
import KE.DataFind
import HandS.Dict
import HandS.Text
import HandS.WordsDict
import HandS.Iter
import HandS.ListEq
import PyProof.DictCopy
import PyProof.DictUpdate
import HandS.Replace
import PyProof.NeKinds
import KE.KSortTupAny
import HandS.Deep
import HandS.TryOnly
import HandS.TupAny
import HandS.List
import PyProof.StrOps2
import PySem.Challenge.RW_spanshelf_k75_spans_and_covers_as_texts
set_option Elab.async false
set_option linter.all false
set_option maxRecDepth 100000
set_option maxHeartbeats 4000000
/-! Errors kept as values: an error that a clause has caught is put by a name and stays tracked; it may be asked for its class later. -/
namespace DL
open PySem PySem.Spec PyProof.Rows L2
/-- an exception object of the class cls at a (it may have been raised) -/
def ExV (cls : Value) (a : Addr) : HO := .ext fun h => ∃ (oe : Obj) (vs : Array Value), h.get? a = some oe ∧ Zc cls none oe ∧ oe.data = .fields vs
/-- an object that nobody tracked, younger than the entry, is tracked from now on -/
theorem inv_track {X : Cx} {pins : List (Addr × Obj)} {σ : L2.St} {H : Hp} {s : Shared} {a : Addr} {oe : Obj} {o : HO} (I : Inv X pins σ H s) (ha : s.heap.get? a = some oe) (na : H a = none) (nL : a ≠ X.env.locals)
    (nC : ∀ x c, X.env.cells.lookup x = some c → c ≠ a) (n0 : X.s_0.heap.get? a = none) (np : ∀ p ∈ X.pn ++ pins, p.1 ≠ a) (new : ObjOk X.prog X.w (upd H a o) s.heap a o) : Inv X pins σ (upd H a o) s := by
  have young : ∀ b u, X.s_0.heap.get? b = some u → b ≠ a := fun b u e z => by rw [z, n0] at e; cases e
  have same : ∀ b u, H b = some u → upd H a o b = some u := fun b u e => by rw [upd_ne (ne_of_none e na)]; exact e
  refine ⟨I.ok, I.os, I.bare, ⟨I.base.keep, I.base.slot, ?_, I.base.there, fun b xs e => same _ _ (I.base.tups b xs e), fun b u w e => same _ _ (I.base.frzs b u w e), ?_⟩, I.loc, I.cell, ?_, ?_, ?_, ?_, I.len⟩
  · intro b u e n hx
    rw [upd_ne (young b u e)]
    exact I.base.free b u e n hx
  · intro b ps e
    obtain ⟨more, q⟩ := I.base.tbls b ps e
    exact ⟨more, same _ _ q⟩
  · rw [upd_ne (Ne.symm nL)]
    exact I.free
  · intro x c e
    rw [upd_ne (nC x c e)]
    exact I.freeC x c e
  · intro p hp
    have q := I.pin p hp
    exact ⟨q.1, by rw [upd_ne (np p hp)]; exact q.2.1, q.2.2⟩
  · intro b u e
    by_cases hb : b = a
    · subst hb
      rw [upd_same] at e
      cases e
      exact new
    · rw [upd_ne hb] at e
      exact (I.hok b u e).stay (fun _ _ _ q => q) (fun c q => same _ _ q) fun c xs q => same _ _ q
/-- what a clause that keeps the error wishes: i the clause's name, j the name that holds it behind -/
def wKeep (K : PySem.W.Frag) (c : Value) (i j : Nat) (D : Ends) : WX := fun cls d σ H =>
  PySem.W.exmOne K cls c = some true ∧ d = none ∧ ∀ a, H a = none → D.nx (((σ.set i (some (.ref a))).set j (some (.ref a))).set i none) (upd H a (ExV cls a))
section
variable {X : Cx} {x n : Str} {c : Value} {i j : Nat} {body : List Stmt} {sj : Stmt} {p1 p2 p3 : Pos} {tb : WX → TS}
theorem ps_try_keep (hst : X.stack = X.env :: X.outer) (hfm : X.env.frame = some X.env.locals) (hex : X.ex = []) (nd : X.N.Nodup) (hi : X.N[i]? = some n) (hk : X.env.kindOf n = some .local) (hcl : Names X x c)
    (hB : ∀ (W : WX) (pn : List (Addr × Obj)) (xe : Value → Shared → Prop), Takes (X.tr pn xe) W → PassesOwn (model X.prog X.w) X.A X.env xe → PSs (X.tr pn xe) body (tb W))
    (hS : ∀ (a : Addr) (oe : Obj) (pn : List (Addr × Obj)), PSs (X.suite a ((a, oe) :: pn)) [sj] (tAsg (tVar i) (gName j))) :
    PS X (.Try body [.ExceptHandler (some (.Name x p1)) (some n) [sj] p2] [] [] p3) (fun D σ H => tb (wKeep X.K c i j D) D σ H) := by
  refine ⟨fun pins s σ H D I0 wish => wpAny_Try_except ?_⟩
  have okX := I0.ok
  have frs0 : X.A.frames = some (X.env :: X.outer) := okX.frames.trans (congrArg some hst)
  let catching : Value → Shared → Prop := fun e s1 => wpAny (model X.prog X.w) X.A (noteFrame e X.env) (fun _ s2 => wpAny (model X.prog X.w) X.A (setFlight e none) (fun _ s3 =>
    wpAny (model X.prog X.w) X.A (handleBy e X.env [.ExceptHandler (some (.Name x p1)) (some n) [sj] p2]) (SP X pins D) X.xe s3) X.xe s2) X.xe s1
  have caught : Takes (X.tr (X.pn ++ pins) catching) (wKeep X.K c i j D) := by
    rintro u sA ⟨a, B, sI, _, τ, G, cls, d, rfl, I1, ground, upS, sky, freeA, osE, gensE, isC, rfl, go⟩
    have I2 : Inv X pins τ G sI := I1.ofTry okX
    show catching (.ref a) sA
    refine Sky.land Zc.steady frs0 hfm (hst ▸ sky) fun hp3 fly3 up3 => ?_
    obtain ⟨o3, v3, get3, z3, data3⟩ := fly3.there
    have offFrames : a ∉ frs (X.env :: X.outer) := fun hm => by
      obtain ⟨_, o', e', nf⟩ := fly3.2.2.1.mem hm
      rw [get3] at e'
      cases e'
      exact nf _ data3
    have offL : a ≠ X.env.locals := fun z => offFrames (List.mem_filterMap.mpr ⟨X.env, List.mem_cons_self, hfm.trans (congrArg some z.symm)⟩)
    have offF : a ∉ X.fs := fun hm => by
      obtain ⟨e, he, q⟩ := List.mem_filterMap.mp hm
      exact offFrames (List.mem_filterMap.mpr ⟨e, .tail _ he, q⟩)
    have gone1 : sI.heap.get? a = none := by
      cases q : sI.heap.get? a with
      | none => rfl
      | some o =>
        have z := ground a o q (hst ▸ offFrames)
        rw [fly3.2.1] at z
        cases z
    have gone0 : X.s_0.heap.get? a = none := by
      cases q : X.s_0.heap.get? a with
      | none => rfl
      | some o =>
        obtain ⟨_, z⟩ := I2.base.there a o q (by rw [hex]; exact fun y => nomatch y)
        rw [gone1] at z
        cases z
    have I3 : Inv X pins τ G { sA with heap := hp3 } := I2.landed ground fly3.1 (upS.trans up3) osE gensE
    have C3 := I3.suite get3 data3 freeA offL offF
    refine wpAny_handleBy_cons (codeAny_handlers_test ?_) (fun q => nomatch q)
    have looks := PySem.W.exm_one (M := model X.prog X.w) I3.kIn (fun _ _ _ _ k q => wpAny_typeOf_ref (k _ _ get3) (z3.1.symm ▸ q)) isC
    have named : ∀ {Q : Value → Shared → Prop} {E : Value → Shared → Prop}, Q c { sA with heap := hp3 } → wpAny (model X.prog X.w) (X.A.mark (some (.ref a))) (eval (.Name x p1) X.env) Q E { sA with heap := hp3 } := by
      intro Q E q
      rcases hcl with ⟨g1, g2, g3 | ⟨g3, g4, g5⟩⟩
      · exact ld_glob (X := X.suite a ((a, o3) :: (X.pn ++ pins))) C3 g1 g3 q g2
      · exact ld_blt (X := X.suite a ((a, o3) :: (X.pn ++ pins))) C3 g1 g3 g4 q g5 g2
    refine named (looks.here (codeAny_handlers_suite_as (HandSPX.lands_againZ fly3 fun hp4 fly4 up4 => ?_)))
    obtain ⟨o4, v4, get4, z4, data4⟩ := fly4.there
    have C4 := (I2.landed (s' := { sA with heap := hp4 }) ground fly4.1 ((upS.trans up3).trans up4) osE gensE).suite get4 data4 freeA offL offF
    refine store_ok (X := X.suite a ((a, o4) :: (X.pn ++ pins))) (v := .ref a) C4 nd hi (.inl hk) rfl (fun s5 C5 => ?_) (.inr hk)
    have hlt : i < τ.length := by rw [I2.len]; exact (List.getElem?_eq_some_iff.mp hi).1
    refine wpAny_mono ((hS a o4 (X.pn ++ pins)).run [] s5 _ G { nx := fun σ6 H6 => H6 = G ∧ σ6 = (τ.set i (some (.ref a))).set j (some (.ref a)), rt := fun _ _ => False } C5 ⟨.ref a, List.getElem?_set_self hlt, rfl, rfl⟩) ?_ (fun _ _ z => z.elim)
    rintro (_ | _ | _ | _) s6 fin
    case next =>
      obtain ⟨_, _, C6, rfl, rfl⟩ := fin
      refine gone_ok (X := X.suite a ((a, o4) :: (X.pn ++ pins))) C6 nd hi hk fun s7 C7 => ?_
      obtain ⟨get7, free7, _, _, notCell⟩ := C7.pin (a, o4) (List.mem_append_left _ (.head _))
      have I7 : Inv X pins _ _ s7 := C7.unsuite okX
      refine ⟨_, _, inv_track (a := a) (o := ExV cls a) I7 get7 free7 offL (fun y cc e z => ?_) gone0 (fun p hp z => ?_) ⟨⟨o4, v4, get7, z4, data4⟩, ⟨o4, get7⟩, fun _ _ ⟨o, v, q, r⟩ k => ⟨o, v, k o q, r⟩⟩, go a freeA⟩
      · obtain ⟨v, o, ho, hd⟩ := I7.cell y cc e
        rw [z, get7] at ho
        cases ho
        exact notCell v hd
      · have q := (I2.pin p hp).1
        rw [z, gone1] at q
        cases q
    all_goals
      first
        | (obtain ⟨_, _, _, z⟩ := fin; exact z.elim)
        | (obtain ⟨_, _, _, _, _, z⟩ := fin; exact z.elim)
  refine wpAny_mono ((hB _ _ catching caught PassesOwn.looking).run [] s σ H D (I0.toTry _) wish) ?_ (fun _ _ z => z)
  rintro (_ | _ | _ | _) s1 fin
  case next =>
    obtain ⟨σ1, H1, J1, q⟩ := fin
    exact wpAny_execs_nil ⟨σ1, H1, J1.ofTry okX, q⟩
  all_goals
    first
      | (obtain ⟨σ1, H1, J1, q⟩ := fin; exact ⟨σ1, H1, J1.ofTry okX, q⟩)
      | (obtain ⟨v1, σ1, H1, J1, rv, q⟩ := fin; exact ⟨v1, σ1, H1, J1.ofTry okX, rv, q⟩)
end
end DL
/-! The data layer: what readings make of plain data (D) and of cells (mutable lists, instances, dicts by number), heaps hidden. -/
namespace DL
open PySem PySem.Spec PyProof.Rows L2

inductive D where
  | non | bl (b : Bool) | int (i : Int) | str (x : Str) | lst (xs : List D) | tup (xs : List D) | cell (k : Nat) | scr (ns : List Int) | exc (x : Str)

inductive Cell where
  | lst (xs : List D)
  | ins (C : Str) (fs : List (Str × D))
  | dK (kvs : List (Key × D))
  | gone
  | fz (kvs : List (Key × D))
abbrev Store := List Cell
abbrev En := List (Option D)

def Cell.on : Cell → Bool
  | .gone => false
  | .fz _ => false
  | _ => true
def live (m : Store) (k : Nat) : Prop := ∃ c, m[k]? = some c ∧ c.on = true

mutual
inductive Rep (K : PySem.W.Frag) (r : List Addr) (F : Hp) : V → D → Prop
  | non : Rep K r F .non .non
  | bl (b : Bool) : Rep K r F (.bl b) (.bl b)
  | int (i : Int) : Rep K r F (.int i) (.int i)
  | str (x : Str) : Rep K r F (.str x) (.str x)
  | lst {a : Addr} {xs : List V} {ds : List D} : F a = some (.lst xs) → RepAll K r F xs ds → Rep K r F (.ref a) (.lst ds)
  | tup {a : Addr} {xs : List V} {ds : List D} : F a = some (.tup xs) → RepAll K r F xs ds → Rep K r F (.ref a) (.tup ds)
  | cell {k : Nat} {a : Addr} : r[k]? = some a → Rep K r F (.ref a) (.cell k)
  | scr {a : Addr} {ns : List Int} : SqL K F a (ns.map V.int) → Rep K r F (.ref a) (.scr ns)
  | exc {a : Addr} {x : Str} : (F a = some (ExV (.ref (He.ga K x)) a) ∨ F a = some (ExO (.ref (He.ga K x)) a)) → Rep K r F (.ref a) (.exc x)
inductive RepAll (K : PySem.W.Frag) (r : List Addr) (F : Hp) : List V → List D → Prop
  | nil : RepAll K r F [] []
  | cons {v : V} {vs : List V} {d : D} {ds : List D} : Rep K r F v d → RepAll K r F vs ds → RepAll K r F (v :: vs) (d :: ds)
end

theorem sqT_same {K : PySem.W.Frag} {H H' : Hp} {a : Addr} {xs : List V} (e : Same H H') (h : SqT K H a xs) : SqT K H' a xs := by
  rcases h with (h | ⟨o, h⟩) | h
  · exact .inl (.inl (e _ _ h))
  · exact .inl (.inr ⟨o, e _ _ h⟩)
  · exact .inr h

def Pre (r r' : List Addr) : Prop := ∀ (k : Nat) a, r[k]? = some a → r'[k]? = some a
theorem Pre.refl (r : List Addr) : Pre r r := fun _ _ h => h
theorem Pre.trans {a b c : List Addr} (x : Pre a b) (y : Pre b c) : Pre a c := fun k z h => y k z (x k z h)
theorem Pre.app (r m : List Addr) : Pre r (r ++ m) := fun k a h => by
  have hk : k < r.length := (List.getElem?_eq_some_iff.mp h).1
  rw [List.getElem?_append_left hk]; exact h

section
variable {K : PySem.W.Frag} {r r' : List Addr} {F F' : Hp}
mutual
theorem Rep.mono (p : Pre r r') (e : Same F F') : ∀ {v : V} {d : D}, Rep K r F v d → Rep K r' F' v d
  | _, _, .non => .non
  | _, _, .bl b => .bl b
  | _, _, .int i => .int i
  | _, _, .str x => .str x
  | _, _, .lst s h => .lst (e _ _ s) (RepAll.mono p e h)
  | _, _, .tup s h => .tup (e _ _ s) (RepAll.mono p e h)
  | _, _, .cell h => .cell (p _ _ h)
  | _, _, .scr h => .scr (e.seq h)
  | _, _, .exc h => .exc (h.imp (e _ _) (e _ _))
theorem RepAll.mono (p : Pre r r') (e : Same F F') : ∀ {vs : List V} {ds : List D}, RepAll K r F vs ds → RepAll K r' F' vs ds
  | _, _, .nil => .nil
  | _, _, .cons h t => .cons (Rep.mono p e h) (RepAll.mono p e t)
end
end

mutual
/-- no cell stands in it -/
def D.pure : D → Bool
  | .lst xs => D.pures xs
  | .tup xs => D.pures xs
  | .cell _ => false
  | .exc _ => false
  | _ => true
def D.pures : List D → Bool
  | [] => true
  | d :: ds => D.pure d && D.pures ds
end
theorem pures_map {α : Type} {f : α → D} (h : ∀ x, (f x).pure = true) : ∀ xs : List α, D.pures (xs.map f) = true
  | [] => rfl
  | x :: xs => by
    show ((f x).pure && D.pures (xs.map f)) = true
    rw [h x, pures_map h xs]; rfl
section
variable {K : PySem.W.Frag} {r r' : List Addr} {F : Hp}
mutual
theorem Rep.pure : ∀ {v : V} {d : D}, d.pure = true → Rep K r F v d → Rep K r' F v d
  | _, _, _, .non => .non
  | _, _, _, .bl b => .bl b
  | _, _, _, .int i => .int i
  | _, _, _, .str x => .str x
  | _, _, p, .lst s h => .lst s (RepAll.pure p h)
  | _, _, p, .tup s h => .tup s (RepAll.pure p h)
  | _, _, p, .cell h => nomatch p
  | _, _, _, .scr h => .scr h
  | _, _, p, .exc h => nomatch p
theorem RepAll.pure : ∀ {vs : List V} {ds : List D}, D.pures ds = true → RepAll K r F vs ds → RepAll K r' F vs ds
  | _, _, _, .nil => .nil
  | _, _, p, .cons h t =>
    have q : (D.pure _ && D.pures _) = true := p
    .cons (Rep.pure (Bool.and_eq_true_iff.mp q).1 h) (RepAll.pure (Bool.and_eq_true_iff.mp q).2 t)
end
end

section
variable {K : PySem.W.Frag} {r : List Addr} {F : Hp}
theorem RepAll.len : ∀ {vs : List V} {ds : List D}, RepAll K r F vs ds → vs.length = ds.length
  | _, _, .nil => rfl
  | _, _, .cons _ t => congrArg Nat.succ t.len
theorem RepAll.get : ∀ {vs : List V} {ds : List D} {i : Nat} {d : D}, RepAll K r F vs ds → ds[i]? = some d → ∃ v, vs[i]? = some v ∧ Rep K r F v d
  | _, _, _, _, .nil, e => by simp at e
  | _, _, 0, _, .cons h _, e => by simp at e; subst e; exact ⟨_, rfl, h⟩
  | _, _, i + 1, d, .cons _ t, e => by
    obtain ⟨u, h1, h2⟩ := RepAll.get (i := i) (d := d) t (by simpa using e)
    exact ⟨u, by simpa using h1, h2⟩
theorem RepAll.getV : ∀ {vs : List V} {ds : List D} {i : Nat} {v : V}, RepAll K r F vs ds → vs[i]? = some v → ∃ d, ds[i]? = some d ∧ Rep K r F v d
  | _, _, _, _, .nil, e => by simp at e
  | _, _, 0, _, .cons h _, e => by simp at e; subst e; exact ⟨_, rfl, h⟩
  | _, _, i + 1, d, .cons _ t, e => by
    obtain ⟨u, h1, h2⟩ := RepAll.getV (i := i) (v := d) t (by simpa using e)
    exact ⟨u, by simpa using h1, h2⟩
theorem RepAll.app : ∀ {vs ws : List V} {ds es : List D}, RepAll K r F vs ds → RepAll K r F ws es → RepAll K r F (vs ++ ws) (ds ++ es)
  | _, _, _, _, .nil, h => h
  | _, _, _, _, .cons h t, h' => .cons h (t.app h')
theorem RepAll.one {v : V} {d : D} (h : Rep K r F v d) : RepAll K r F [v] [d] := .cons h .nil
theorem RepAll.set {v : V} {d : D} (h : Rep K r F v d) : ∀ {vs : List V} {ds : List D} (i : Nat), RepAll K r F vs ds → RepAll K r F (vs.set i v) (ds.set i d)
  | _, _, _, .nil => .nil
  | _, _, 0, .cons _ t => .cons h t
  | _, _, i + 1, .cons q t => .cons q (RepAll.set h i t)
theorem RepAll.take : ∀ {vs : List V} {ds : List D} (n : Nat), RepAll K r F vs ds → RepAll K r F (vs.take n) (ds.take n)
  | _, _, 0, _ => .nil
  | _, _, _ + 1, .nil => .nil
  | _, _, n + 1, .cons h t => .cons h (RepAll.take n t)
theorem RepAll.drop : ∀ {vs : List V} {ds : List D} (n : Nat), RepAll K r F vs ds → RepAll K r F (vs.drop n) (ds.drop n)
  | _, _, 0, h => h
  | _, _, _ + 1, .nil => .nil
  | _, _, n + 1, .cons _ t => RepAll.drop n t
theorem RepAll.rev : ∀ {vs : List V} {ds : List D}, RepAll K r F vs ds → RepAll K r F vs.reverse ds.reverse
  | _, _, .nil => .nil
  | _, _, .cons h t => by rw [List.reverse_cons, List.reverse_cons]; exact (RepAll.rev t).app (.one h)
theorem RepAll.rep {v : V} {d : D} (h : Rep K r F v d) : ∀ n : Nat, RepAll K r F (List.replicate n v) (List.replicate n d)
  | 0 => .nil
  | n + 1 => .cons h (RepAll.rep h n)
theorem RepAll.ints : ∀ {vs : List V} {ns : List Int}, RepAll K r F vs (ns.map D.int) → vs = ns.map V.int
  | _, [], .nil => rfl
  | _, _ :: _, .cons h t => by cases h; rw [RepAll.ints t]; rfl
theorem RepAll.ofInts : ∀ (ns : List Int), RepAll K r F (ns.map V.int) (ns.map D.int)
  | [] => .nil
  | n :: ns => .cons (.int n) (RepAll.ofInts ns)
theorem RepAll.bls : ∀ {vs : List V} {ns : List Bool}, RepAll K r F vs (ns.map D.bl) → vs = ns.map V.bl
  | _, [], .nil => rfl
  | _, _ :: _, .cons h t => by cases h; rw [RepAll.bls t]; rfl
end

/-! ### the heap -/
def RepF (K : PySem.W.Frag) (r : List Addr) (F : Hp) : List (Str × V) → List (Str × D) → Prop
  | [], [] => True
  | (x, v) :: gs, (y, d) :: fs => x = y ∧ Rep K r F v d ∧ RepF K r F gs fs
  | _, _ => False
def RepK (K : PySem.W.Frag) (r : List Addr) (F : Hp) : List (Key × V) → List (Key × D) → Prop
  | [], [] => True
  | (x, v) :: gs, (y, d) :: fs => x = y ∧ Rep K r F v d ∧ RepK K r F gs fs
  | _, _ => False
section
variable {K : PySem.W.Frag} {r r' : List Addr} {F F' : Hp}
theorem RepF.mono (p : Pre r r') (e : Same F F') : ∀ {gs : List (Str × V)} {fs : List (Str × D)}, RepF K r F gs fs → RepF K r' F' gs fs
  | [], [], _ => trivial
  | (x, v) :: gs, (y, d) :: fs, h => ⟨h.1, h.2.1.mono p e, RepF.mono p e h.2.2⟩
  | [], _ :: _, h => h.elim
  | _ :: _, [], h => h.elim
theorem RepK.mono (p : Pre r r') (e : Same F F') : ∀ {gs : List (Key × V)} {fs : List (Key × D)}, RepK K r F gs fs → RepK K r' F' gs fs
  | [], [], _ => trivial
  | (x, v) :: gs, (y, d) :: fs, h => ⟨h.1, h.2.1.mono p e, RepK.mono p e h.2.2⟩
  | [], _ :: _, h => h.elim
  | _ :: _, [], h => h.elim
end

def CellOk (K : PySem.W.Frag) (r : List Addr) (F H : Hp) (a : Addr) : Cell → Prop
  | .lst xs => ∃ vs, H a = some (.lst vs) ∧ RepAll K r F vs xs
  | .ins C fs => ∃ dx gs, H a = some (.ins (He.ga K C) dx gs) ∧ H dx = some (.own a) ∧ RepF K r F gs fs
  | .dK kvs => ∃ gs, H a = some (.dK gs) ∧ RepK K r F gs kvs
  | .gone => True
  | .fz _ => False

structure HR (K : PySem.W.Frag) (r : List Addr) (F H : Hp) (m : Store) : Prop where
  len : r.length = m.length
  sub : Same F H
  cell : ∀ (k : Nat) a c, r[k]? = some a → m[k]? = some c → c.on = true → F a = none ∧ CellOk K r F H a c
  inj : ∀ (k l : Nat) a, r[k]? = some a → r[l]? = some a → live m k → live m l → k = l
  fz : ∀ (k : Nat) a kvs, r[k]? = some a → m[k]? = some (.fz kvs) → ∃ od gs, F a = some (.frz od (.dK gs)) ∧ RepK K r F gs kvs
  fzi : ∀ (k l : Nat) a x y, r[k]? = some a → r[l]? = some a → m[k]? = some (.fz x) → m[l]? = some (.fz y) → k = l

structure Ext (r : List Addr) (F H : Hp) (m : Store) (r' : List Addr) (F' H' : Hp) (m' : Store) : Prop where
  pre : Pre r r'
  sub : Same F F'
  keep : ∀ a o, H a = some o → (∀ (k : Nat), live m k → r[k]? ≠ some a) → H' a = some o
  new : ∀ a, F a = none → F' a ≠ none → H a = none ∨ ∃ k : Nat, live m k ∧ r[k]? = some a
  fresh : ∀ (k : Nat) a, m.length ≤ k → r'[k]? = some a → H a = none
  dead : ∀ k : Nat, k < m.length → live m' k → live m k
  mlen : m.length ≤ m'.length
  trk : ∀ a o, H a = some o → ∃ o', H' a = some o'

theorem live_lt {m : Store} {k : Nat} (h : live m k) : k < m.length := by
  obtain ⟨c, h, _⟩ := h
  exact (List.getElem?_eq_some_iff.mp h).1

section
variable {K : PySem.W.Frag} {r r1 r2 : List Addr} {F H F1 H1 F2 H2 : Hp} {m m1 m2 : Store}
theorem HR.at_some (h : HR K r F H m) {k : Nat} {a : Addr} (l : live m k) (e : r[k]? = some a) : ∃ o, H a = some o := by
  obtain ⟨c, hc, ng⟩ := l
  have q := (h.cell k a c e hc ng).2
  cases c with
  | lst xs => obtain ⟨vs, q, _⟩ := q; exact ⟨_, q⟩
  | ins C fs => obtain ⟨_, _, q, _⟩ := q; exact ⟨_, q⟩
  | dK kvs => obtain ⟨_, q, _⟩ := q; exact ⟨_, q⟩
  | gone => cases ng
  | fz _ => cases ng
theorem Ext.refl (h : HR K r F H m) : Ext r F H m r F H m where
  pre := Pre.refl r
  sub := Same.refl F
  keep := fun _ _ e _ => e
  new := fun _ n e => absurd n e
  fresh := fun k a hk e => by
    have := (List.getElem?_eq_some_iff.mp e).1
    rw [h.len] at this
    exact absurd this (Nat.not_lt.mpr hk)
  dead := fun _ _ l => l
  mlen := Nat.le_refl _
  trk := fun _ o e => ⟨o, e⟩
theorem Ext.trans (hl : r1.length = m1.length) (hl0 : r.length = m.length) (x : Ext r F H m r1 F1 H1 m1) (y : Ext r1 F1 H1 m1 r2 F2 H2 m2) : Ext r F H m r2 F2 H2 m2 := by
  have back : ∀ a o, H a = some o → (∀ (k : Nat), live m k → r[k]? ≠ some a) → ∀ (k : Nat), live m1 k → r1[k]? ≠ some a := fun a o e n k l q => by
    by_cases hk : k < m.length
    · have l0 := x.dead k hk l
      have hr : k < r.length := by rw [hl0]; exact hk
      have e1 : r[k]? = some r[k] := List.getElem?_eq_getElem hr
      have e2 := x.pre k _ e1
      rw [q] at e2
      exact n k l0 (by rw [e1, ← e2])
    · have := x.fresh k a (Nat.not_lt.mp hk) q
      rw [e] at this; cases this
  refine ⟨x.pre.trans y.pre, x.sub.trans y.sub, fun a o e n => y.keep a o (x.keep a o e n) (back a o e n), fun a n e => ?_, fun k a hk e => ?_, fun k hk l => x.dead k hk (y.dead k (Nat.lt_of_lt_of_le hk x.mlen) l), Nat.le_trans x.mlen y.mlen, fun a o e => let ⟨o1, e1⟩ := x.trk a o e; y.trk a o1 e1⟩
  · cases q : F1 a with
    | some o => exact x.new a n (by rw [q]; exact fun z => nomatch z)
    | none =>
      rcases y.new a q e with z | ⟨k, l, z⟩
      · cases w : H a with
        | none => exact .inl rfl
        | some o =>
          by_cases hn : ∀ (k : Nat), live m k → r[k]? ≠ some a
          · rw [x.keep a o w hn] at z; cases z
          · refine .inr ?_
            have ⟨k, hk⟩ := Classical.not_forall.mp hn
            have ⟨l, hk⟩ := Classical.not_imp.mp hk
            exact ⟨k, l, Classical.not_not.mp hk⟩
      · by_cases hk : k < m.length
        · have l0 := x.dead k hk l
          have hr : k < r.length := by rw [hl0]; exact hk
          have e1 : r[k]? = some r[k] := List.getElem?_eq_getElem hr
          have e2 := x.pre k _ e1
          rw [z] at e2
          exact .inr ⟨k, l0, by rw [e1, ← e2]⟩
        · exact .inl (x.fresh k a (Nat.not_lt.mp hk) z)
  · by_cases hk1 : m1.length ≤ k
    · have := y.fresh k a hk1 e
      cases w : H a with
      | none => rfl
      | some o =>
        obtain ⟨o1, e1⟩ := x.trk a o w
        rw [e1] at this; cases this
    · have hr : k < r1.length := by rw [hl]; omega
      have e1 : r1[k]? = some r1[k] := List.getElem?_eq_getElem hr
      have e2 := y.pre k _ e1
      rw [e] at e2
      exact x.fresh k a hk (by rw [e1, ← e2])
end
end DL
namespace DL
open PySem PySem.Spec PyProof.Rows L2

section
variable {K : PySem.W.Frag} {r r' : List Addr} {F F' H H' : Hp} {m m' : Store}
theorem CellOk.mono (p : Pre r r') (e : Same F F') {a : Addr} : ∀ {c : Cell}, CellOk K r F H a c → CellOk K r' F' H a c
  | .lst xs, ⟨vs, h, q⟩ => ⟨vs, h, q.mono p e⟩
  | .ins C fs, ⟨dx, gs, h, h2, q⟩ => ⟨dx, gs, h, h2, q.mono p e⟩
  | .dK kvs, ⟨gs, h, q⟩ => ⟨gs, h, q.mono p e⟩
  | .gone, _ => trivial
  | .fz _, h => h.elim
/-- the heap around the cell's own object may change -/
theorem CellOk.heap {a : Addr} (k : ∀ b o, H b = some o → (b = a ∨ o = .own a) → H' b = some o) : ∀ {c : Cell}, CellOk K r F H a c → CellOk K r F H' a c
  | .lst xs, ⟨vs, h, q⟩ => ⟨vs, k _ _ h (.inl rfl), q⟩
  | .ins C fs, ⟨dx, gs, h, h2, q⟩ => ⟨dx, gs, k _ _ h (.inl rfl), k _ _ h2 (.inr rfl), q⟩
  | .dK kvs, ⟨gs, h, q⟩ => ⟨gs, k _ _ h (.inl rfl), q⟩
  | .gone, _ => trivial
  | .fz _, h => h.elim

theorem HR.ne_new (h : HR K r F H m) {p : Addr} (hp : H p = none) {k : Nat} {a : Addr} (l : live m k) (e : r[k]? = some a) : a ≠ p := by
  obtain ⟨o, q⟩ := h.at_some l e
  exact ne_of_none q hp
/-- new data at a new place -/
theorem HR.laid (h : HR K r F H m) {p : Addr} {o : HO} (hp : H p = none) : HR K r (upd F p o) (upd H p o) m := by
  have fp : F p = none := h.sub.free hp
  have s1 : Same F (upd F p o) := fun b u e => by rw [upd_ne (ne_of_none e fp)]; exact e
  refine ⟨h.len, fun b u e => ?_, fun k a c e1 e2 ng => ?_, h.inj, fun k a kvs e1 e2 => let ⟨od, gs, q1, q2⟩ := h.fz k a kvs e1 e2; ⟨od, gs, s1 _ _ q1, q2.mono (Pre.refl r) s1⟩, h.fzi⟩
  · by_cases hb : b = p
    · subst hb; rw [upd_same] at e ⊢; exact e
    · rw [upd_ne hb] at e ⊢; exact h.sub b u e
  · have ne : a ≠ p := h.ne_new hp ⟨c, e2, ng⟩ e1
    obtain ⟨q1, q2⟩ := h.cell k a c e1 e2 ng
    refine ⟨by rw [upd_ne ne]; exact q1, (q2.mono (Pre.refl r) s1).heap fun b o' hb _ => ?_⟩
    rw [upd_ne (ne_of_none hb hp)]; exact hb
theorem Ext.laid (h : HR K r F H m) {p : Addr} {o : HO} (hp : H p = none) : Ext r F H m r (upd F p o) (upd H p o) m where
  pre := Pre.refl r
  sub := fun b u e => by rw [upd_ne (ne_of_none e (h.sub.free hp))]; exact e
  keep := fun a u e _ => by rw [upd_ne (ne_of_none e hp)]; exact e
  new := fun a n e => by
    by_cases ha : a = p
    · subst ha; exact .inl hp
    · rw [upd_ne ha] at e; exact absurd n e
  fresh := fun k a hk e => (Ext.refl h).fresh k a hk e
  dead := fun _ _ l => l
  mlen := Nat.le_refl _
  trk := fun a u e => ⟨u, by rw [upd_ne (ne_of_none e hp)]; exact e⟩
/-- a new place that is tracked, neither data nor cell -/
theorem HR.side (h : HR K r F H m) {p : Addr} {o : HO} (hp : H p = none) : HR K r F (upd H p o) m := by
  refine ⟨h.len, fun b u e => ?_, fun k a c e1 e2 ng => ?_, h.inj, h.fz, h.fzi⟩
  · rw [upd_ne (ne_of_none (h.sub b u e) hp)]; exact h.sub b u e
  · obtain ⟨q1, q2⟩ := h.cell k a c e1 e2 ng
    exact ⟨q1, q2.heap fun b o' hb _ => by rw [upd_ne (ne_of_none hb hp)]; exact hb⟩
theorem Ext.side (h : HR K r F H m) {p : Addr} {o : HO} (hp : H p = none) : Ext r F H m r F (upd H p o) m where
  pre := Pre.refl r
  sub := Same.refl F
  keep := fun a u e _ => by rw [upd_ne (ne_of_none e hp)]; exact e
  new := fun a n e => absurd n e
  fresh := fun k a hk e => (Ext.refl h).fresh k a hk e
  dead := fun _ _ l => l
  mlen := Nat.le_refl _
  trk := fun a u e => ⟨u, by rw [upd_ne (ne_of_none e hp)]; exact e⟩
/-- a side place (neither data nor cell) changes -/
theorem HR.sideSet (h : HR K r F H m) {p : Addr} {o : HO} (fp : F p = none) (np : ∀ (k : Nat), live m k → r[k]? ≠ some p) (no : ∀ b, H p ≠ some (.own b)) : HR K r F (upd H p o) m := by
  refine ⟨h.len, fun b u e => ?_, fun k a c e1 e2 ng => ?_, h.inj, h.fz, h.fzi⟩
  · rw [upd_ne (ne_of_none e fp)]; exact h.sub b u e
  · obtain ⟨q1, q2⟩ := h.cell k a c e1 e2 ng
    have na : a ≠ p := fun z => np k ⟨c, e2, ng⟩ (by rw [e1, z])
    refine ⟨q1, q2.heap fun b o' hb w => ?_⟩
    have : b ≠ p := by
      rintro rfl
      rcases w with w | w
      · exact na w.symm
      · subst w; exact no _ hb
    rw [upd_ne this]; exact hb
/-- what stands apart becomes data -/
theorem HR.freeze (h : HR K r F H m) {p : Addr} {o : HO} (fp : F p = none) (np : ∀ (k : Nat), live m k → r[k]? ≠ some p) (hp : H p = some o) : HR K r (upd F p o) H m := by
  have s1 : Same F (upd F p o) := fun b u e => by rw [upd_ne (ne_of_none e fp)]; exact e
  refine ⟨h.len, fun b u e => ?_, fun k a c e1 e2 ng => ?_, h.inj, fun k a kvs e1 e2 => let ⟨od, gs, q1, q2⟩ := h.fz k a kvs e1 e2; ⟨od, gs, s1 _ _ q1, q2.mono (Pre.refl r) s1⟩, h.fzi⟩
  · by_cases hb : b = p
    · subst hb; rw [upd_same] at e; rw [hp]; exact e
    · rw [upd_ne hb] at e; exact h.sub b u e
  · have na : a ≠ p := fun z => np k ⟨c, e2, ng⟩ (by rw [e1, z])
    obtain ⟨q1, q2⟩ := h.cell k a c e1 e2 ng
    exact ⟨by rw [upd_ne na]; exact q1, q2.mono (Pre.refl r) s1⟩
/-- .. becomes a cell -/
theorem live_app {m : Store} {c : Cell} {k : Nat} (l : live (m ++ [c]) k) : live m k ∨ k = m.length := by
  obtain ⟨c', e, ng⟩ := l
  by_cases hk : k < m.length
  · rw [List.getElem?_append_left hk] at e; exact .inl ⟨c', e, ng⟩
  · have : k < (m ++ [c]).length := (List.getElem?_eq_some_iff.mp e).1
    rw [List.length_append] at this
    have : k < m.length + 1 := this
    exact .inr (by omega)
theorem HR.toCell (h : HR K r F H m) {p : Addr} {c : Cell} (fp : F p = none) (np : ∀ (k : Nat), live m k → r[k]? ≠ some p) (hc : CellOk K r F H p c) : HR K (r ++ [p]) F H (m ++ [c]) := by
  have pr : Pre r (r ++ [p]) := Pre.app r [p]
  have last : (r ++ [p])[m.length]? = some p := by rw [← h.len]; simp
  have low : ∀ (k : Nat) a, k < m.length → (r ++ [p])[k]? = some a → r[k]? = some a := fun k a hk e => by
    rw [List.getElem?_append_left (by rw [h.len]; exact hk)] at e; exact e
  refine ⟨by simp [h.len], h.sub, fun k a c' e1 e2 ng => ?_, fun k l a e1 e2 l1 l2 => ?_, fun k a kvs e1 e2 => ?_, fun k l a x y e1 e2 z1 z2 => ?_⟩
  · rcases live_app ⟨c', e2, ng⟩ with l | rfl
    · have hk := live_lt l
      rw [List.getElem?_append_left hk] at e2
      obtain ⟨q1, q2⟩ := h.cell k a c' (low k a hk e1) e2 ng
      exact ⟨q1, q2.mono pr (Same.refl F)⟩
    · rw [last] at e1; cases e1
      have : (m ++ [c])[m.length]? = some c := by simp
      rw [this] at e2; cases e2
      exact ⟨fp, hc.mono pr (Same.refl F)⟩
  · rcases live_app l1 with z1 | rfl
    · have k1 := low k a (live_lt z1) e1
      rcases live_app l2 with z2 | rfl
      · exact h.inj k l a k1 (low l a (live_lt z2) e2) z1 z2
      · rw [last] at e2; cases e2; exact absurd k1 (np k z1)
    · rw [last] at e1; cases e1
      rcases live_app l2 with z2 | rfl
      · exact absurd (low l _ (live_lt z2) e2) (np l z2)
      · rfl
  · have hk : k < (m ++ [c]).length := (List.getElem?_eq_some_iff.mp e2).1
    by_cases hk1 : k < m.length
    · rw [List.getElem?_append_left hk1] at e2
      obtain ⟨od, gs, q1, q2⟩ := h.fz k a kvs (low k a hk1 e1) e2
      exact ⟨od, gs, q1, q2.mono pr (Same.refl F)⟩
    · have hke : k = m.length := by rw [List.length_append] at hk; have : k < m.length + 1 := hk; omega
      subst hke
      have : (m ++ [c])[m.length]? = some c := by simp
      rw [this] at e2; cases e2
      exact hc.elim
  · have old : ∀ (k : Nat) x, (m ++ [c])[k]? = some (.fz x) → k < m.length ∧ m[k]? = some (.fz x) := fun k x e2 => by
      have hk : k < (m ++ [c]).length := (List.getElem?_eq_some_iff.mp e2).1
      by_cases hk1 : k < m.length
      · rw [List.getElem?_append_left hk1] at e2
        exact ⟨hk1, e2⟩
      · have hke : k = m.length := by rw [List.length_append] at hk; have : k < m.length + 1 := hk; omega
        subst hke
        have : (m ++ [c])[m.length]? = some c := by simp
        rw [this] at e2; cases e2
        exact hc.elim
    obtain ⟨k1, w1⟩ := old k x z1
    obtain ⟨k2, w2⟩ := old l y z2
    exact h.fzi k l a x y (low k a k1 e1) (low l a k2 e2) w1 w2
/-- a cell is written -/
theorem live_set {m : Store} {k l : Nat} {c : Cell} (hk : live m k) (h : live (m.set k c) l) : live m l := by
  by_cases e : k = l
  · subst e; exact hk
  · obtain ⟨c', e1, ng⟩ := h
    rw [List.getElem?_set_ne e] at e1
    exact ⟨c', e1, ng⟩
theorem HR.put (h : HR K r F H m) {k : Nat} {a : Addr} {c : Cell} {o : HO} (l : live m k) (e : r[k]? = some a) (no : ∀ b, H a ≠ some (.own b)) (hc : CellOk K r F (upd H a o) a c) : HR K r F (upd H a o) (m.set k c) := by
  obtain ⟨c0, e0, ng0⟩ := l
  have fa := (h.cell k a c0 e e0 ng0).1
  have hkl : k < m.length := live_lt ⟨c0, e0, ng0⟩
  refine ⟨by simp [h.len], fun b u q => ?_, fun l b c' e1 e2 ng => ?_, fun i j b e1 e2 l1 l2 => h.inj i j b e1 e2 (live_set ⟨c0, e0, ng0⟩ l1) (live_set ⟨c0, e0, ng0⟩ l2), fun l b kvs e1 e2 => ?_, fun i j b x y e1 e2 z1 z2 => ?_⟩
  · rw [upd_ne (ne_of_none q fa)]; exact h.sub b u q
  · by_cases hl : k = l
    · subst hl
      rw [e] at e1; cases e1
      rw [List.getElem?_set_self hkl] at e2; cases e2
      exact ⟨fa, hc⟩
    · rw [List.getElem?_set_ne hl] at e2
      obtain ⟨q1, q2⟩ := h.cell l b c' e1 e2 ng
      have nb : b ≠ a := fun z => hl (h.inj k l a e (by rw [e1, z]) ⟨c0, e0, ng0⟩ ⟨c', e2, ng⟩)
      refine ⟨q1, q2.heap fun x o' hx w => ?_⟩
      have : x ≠ a := by
        rintro rfl
        rcases w with w | w
        · exact nb w.symm
        · subst w; exact no _ hx
      rw [upd_ne this]; exact hx
  · by_cases hl : k = l
    · subst hl
      rw [List.getElem?_set_self hkl] at e2; cases e2
      exact hc.elim
    · rw [List.getElem?_set_ne hl] at e2
      exact h.fz l b kvs e1 e2
  · have old : ∀ (i : Nat) x, (m.set k c)[i]? = some (.fz x) → m[i]? = some (.fz x) := fun i x e2 => by
      by_cases hl : k = i
      · subst hl
        rw [List.getElem?_set_self hkl] at e2; cases e2
        exact hc.elim
      · rw [List.getElem?_set_ne hl] at e2
        exact e2
    exact h.fzi i j b x y e1 e2 (old i x z1) (old j y z2)
theorem Ext.put (h : HR K r F H m) {k : Nat} {a : Addr} {c : Cell} {o : HO} (l : live m k) (e : r[k]? = some a) : Ext r F H m r F (upd H a o) (m.set k c) where
  pre := Pre.refl r
  sub := Same.refl F
  keep := fun b u q n => by rw [upd_ne (fun z => n k l (by rw [e, z]))]; exact q
  new := fun a n e => absurd n e
  fresh := fun k a hk e => (Ext.refl h).fresh k a hk e
  dead := fun j _ z => live_set l z
  mlen := by simp
  trk := fun b u q => by
    by_cases hb : b = a
    · subst hb; exact ⟨_, upd_same⟩
    · exact ⟨u, by rw [upd_ne hb]; exact q⟩
/-- behind the work a place that was new becomes data, or a cell -/
theorem Ext.freeze (x : Ext r F H m r' F' H' m') {p : Addr} {o : HO} (fp : F' p = none) (n : H p = none) : Ext r F H m r' (upd F' p o) H' m' where
  pre := x.pre
  sub := fun b u e => by rw [upd_ne (ne_of_none (x.sub b u e) fp)]; exact x.sub b u e
  keep := x.keep
  new := fun a n' e => by
    by_cases ha : a = p
    · subst ha; exact .inl n
    · rw [upd_ne ha] at e; exact x.new a n' e
  fresh := x.fresh
  dead := x.dead
  mlen := x.mlen
  trk := x.trk
theorem Ext.toCell (x : Ext r F H m r' F' H' m') (hl : r'.length = m'.length) {p : Addr} {c : Cell} (n : H p = none) : Ext r F H m (r' ++ [p]) F' H' (m' ++ [c]) where
  pre := x.pre.trans (Pre.app _ _)
  sub := x.sub
  keep := x.keep
  new := x.new
  fresh := fun k a hk e => by
    by_cases hk1 : k < r'.length
    · rw [List.getElem?_append_left hk1] at e; exact x.fresh k a hk e
    · rw [List.getElem?_append_right (by omega)] at e
      have : a = p := by
        cases q : k - r'.length with
        | zero => rw [q] at e; simp at e; exact e.symm
        | succ j => rw [q] at e; simp at e
      rw [this]; exact n
  dead := fun k hk l => by
    rcases live_app l with z | rfl
    · exact x.dead k hk z
    · exact absurd x.mlen (by omega)
  mlen := by simp; exact Nat.le_succ_of_le x.mlen
  trk := x.trk
end

/-! ### the judgements -/
def ER (K : PySem.W.Frag) (r : List Addr) (F : Hp) (σ : L2.St) (δ : En) : Prop := σ.length = δ.length ∧ ∀ (i : Nat) d, δ[i]? = some (some d) → ∃ v, σ[i]? = some (some v) ∧ Rep K r F v d
theorem ER.mono {K : PySem.W.Frag} {r r' : List Addr} {F F' : Hp} {σ : L2.St} {δ : En} (p : Pre r r') (e : Same F F') (h : ER K r F σ δ) : ER K r' F' σ δ := ⟨h.1, fun i d q => let ⟨v, a, b⟩ := h.2 i d q; ⟨v, a, b.mono p e⟩⟩
theorem ER.ext {K : PySem.W.Frag} {r r' : List Addr} {F F' H H' : Hp} {m m' : Store} {σ : L2.St} {δ : En} (x : Ext r F H m r' F' H' m') (h : ER K r F σ δ) : ER K r' F' σ δ := h.mono x.pre x.sub
theorem ER.set {K : PySem.W.Frag} {r : List Addr} {F : Hp} {σ : L2.St} {δ : En} {v : V} {d : D} (h : ER K r F σ δ) (i : Nat) (q : Rep K r F v d) : ER K r F (σ.set i (some v)) (δ.set i (some d)) := by
  refine ⟨by simp [h.1], fun j e he => ?_⟩
  by_cases hj : i = j
  · subst hj
    have hl : i < (δ.set i (some d)).length := (List.getElem?_eq_some_iff.mp he).1
    rw [List.length_set] at hl
    rw [List.getElem?_set_self hl] at he
    cases he
    exact ⟨v, by rw [List.getElem?_set_self (by rw [h.1]; exact hl)], q⟩
  · rw [List.getElem?_set_ne hj] at he ⊢
    exact h.2 j e he
/-- what is forgotten -/
def Weak (δ δ' : En) : Prop := δ.length = δ'.length ∧ ∀ (i : Nat) d, δ'[i]? = some (some d) → δ[i]? = some (some d)
theorem ER.weak {K : PySem.W.Frag} {r : List Addr} {F : Hp} {σ : L2.St} {δ δ' : En} (h : ER K r F σ δ) (w : Weak δ δ') : ER K r F σ δ' := ⟨h.1.trans w.1, fun i d q => h.2 i d (w.2 i d q)⟩

theorem le5 {n : Nat} (h : Nat.ble n 100000 = true) : n ≤ 100000 := Nat.le_of_ble_eq_true h
abbrev Post1 (K : PySem.W.Frag) (r : List Addr) (F H : Hp) (m : Store) (d : D) (m' : Store) (Q : VK) : Prop := ∀ v r' F' H', HR K r' F' H' m' → Ext r F H m r' F' H' m' → Rep K r' F' v d → Q v H'
/-- a new list that nothing else holds -/
abbrev PostN (K : PySem.W.Frag) (r : List Addr) (F H : Hp) (m : Store) (ds : List D) (m' : Store) (Q : VK) : Prop := ∀ p vs r' F' H', HR K r' F' H' m' → Ext r F H m r' F' H' m' → H p = none → F' p = none → (∀ (k : Nat), live m' k → r'[k]? ≠ some p) → H' p = some (.lst vs) → RepAll K r' F' vs ds → Q (.ref p) H'
def YE (K : PySem.W.Frag) (t : TE) (δ : En) (m : Store) (d : D) (m' : Store) : Prop := ∀ r F H σ, HR K r F H m → ER K r F σ δ → ∀ Q : VK, Post1 K r F H m d m' Q → t σ H Q
def YN (K : PySem.W.Frag) (t : TE) (δ : En) (m : Store) (ds : List D) (m' : Store) : Prop := ∀ r F H σ, HR K r F H m → ER K r F σ δ → ∀ Q : VK, PostN K r F H m ds m' Q → t σ H Q
def YT (K : PySem.W.Frag) (t : TT) (δ : En) (m : Store) (b : Bool) (m' : Store) : Prop := ∀ r F H σ, HR K r F H m → ER K r F σ δ → ∀ Q : Bool → Hp → Prop, (∀ r' F' H', HR K r' F' H' m' → Ext r F H m r' F' H' m' → Q b H') → t σ H Q
def YA (K : PySem.W.Frag) (t : TA) (δ : En) (m : Store) (ds : List D) (m' : Store) : Prop := ∀ r F H σ, HR K r F H m → ER K r F σ δ → ∀ Q : List V → Hp → Prop, (∀ vs r' F' H', HR K r' F' H' m' → Ext r F H m r' F' H' m' → RepAll K r' F' vs ds → Q vs H') → t σ H Q
def YO (K : PySem.W.Frag) (t : TO) (δ : En) (m : Store) (o : Option Int) (m' : Store) : Prop := ∀ r F H σ, HR K r F H m → ER K r F σ δ → ∀ Q : Option Int → Hp → Prop, (∀ r' F' H', HR K r' F' H' m' → Ext r F H m r' F' H' m' → Q o H') → t σ H Q
/-- on values -/
def Y2 (K : PySem.W.Frag) (rr : R2) (d e : D) (m : Store) (z : D) (m' : Store) : Prop := ∀ r F H x y, HR K r F H m → Rep K r F x d → Rep K r F y e → ∀ Q : VK, Post1 K r F H m z m' Q → rr x y H Q
def Y2N (K : PySem.W.Frag) (rr : R2) (d e : D) (m : Store) (zs : List D) (m' : Store) : Prop := ∀ r F H x y, HR K r F H m → Rep K r F x d → Rep K r F y e → ∀ Q : VK, PostN K r F H m zs m' Q → rr x y H Q
def Y1 (K : PySem.W.Frag) (rr : V → Hp → VK → Prop) (d : D) (m : Store) (z : D) (m' : Store) : Prop := ∀ r F H x, HR K r F H m → Rep K r F x d → ∀ Q : VK, Post1 K r F H m z m' Q → rr x H Q
def YC (K : PySem.W.Frag) (rr : List V → Hp → VK → Prop) (ds : List D) (m : Store) (z : D) (m' : Store) : Prop := ∀ r F H vs, HR K r F H m → RepAll K r F vs ds → ∀ Q : VK, Post1 K r F H m z m' Q → rr vs H Q
def YCN (K : PySem.W.Frag) (rr : List V → Hp → VK → Prop) (ds : List D) (m : Store) (zs : List D) (m' : Store) : Prop := ∀ r F H vs, HR K r F H m → RepAll K r F vs ds → ∀ Q : VK, PostN K r F H m zs m' Q → rr vs H Q
def YM (K : PySem.W.Frag) (T : String) (rr : V → List V → Hp → VK → Prop) (d : D) (ds : List D) (m : Store) (z : D) (m' : Store) : Prop := ∀ r F H x vs, HR K r F H m → Rep K r F x d → RepAll K r F vs ds → ∀ Q : VK, Post1 K r F H m z m' Q → rr x vs H Q
def YMN (K : PySem.W.Frag) (T : String) (rr : V → List V → Hp → VK → Prop) (d : D) (ds : List D) (m : Store) (zs : List D) (m' : Store) : Prop := ∀ r F H x vs, HR K r F H m → Rep K r F x d → RepAll K r F vs ds → ∀ Q : VK, PostN K r F H m zs m' Q → rr x vs H Q

section
variable {K : PySem.W.Frag} {t ta tb tc : TE} {tt tu : TT} {tas : TA} {δ : En} {m m1 m2 m3 : Store} {d d1 d2 d3 : D} {ds : List D} {rr : R2}
/-- a new list taken as data, as a cell -/
theorem YN.data (h : YN K t δ m ds m1) : YE K t δ m (.lst ds) m1 := fun r F H σ hr er Q q => h r F H σ hr er Q fun p vs r' F' H' hr' x np fp nc hp ra => by
  have s1 : Same F' (upd F' p (.lst vs)) := fun b u e => by rw [upd_ne (ne_of_none e fp)]; exact e
  refine q (.ref p) r' (upd F' p (.lst vs)) H' (hr'.freeze fp nc hp) (x.freeze fp np) (.lst upd_same (ra.mono (Pre.refl _) s1))
theorem YN.cell (h : YN K t δ m ds m1) : YE K t δ m (.cell m1.length) (m1 ++ [.lst ds]) := fun r F H σ hr er Q q => h r F H σ hr er Q fun p vs r' F' H' hr' x np fp nc hp ra => by
  refine q (.ref p) (r' ++ [p]) F' H' (hr'.toCell fp nc ⟨vs, hp, ra⟩) (x.toCell hr'.len np) (.cell ?_)
  rw [← hr'.len]; simp
theorem ye_var {i : Nat} (h : δ[i]? = some (some d)) : YE K (tVar i) δ m d m := fun r F H σ hr er Q q => by
  obtain ⟨v, e, p⟩ := er.2 i d h
  exact ⟨v, e, q v r F H hr (Ext.refl hr) p⟩
theorem ye_int {i : Int} : YE K (tC (.int i)) δ m (.int i) m := fun r F H σ hr er Q q => q _ r F H hr (Ext.refl hr) (.int i)
theorem ye_bl {b : Bool} : YE K (tC (.bl b)) δ m (.bl b) m := fun r F H σ hr er Q q => q _ r F H hr (Ext.refl hr) (.bl b)
theorem ye_non : YE K (tC .non) δ m .non m := fun r F H σ hr er Q q => q _ r F H hr (Ext.refl hr) .non
theorem ye_str {x : Str} : YE K (tC (.str x)) δ m (.str x) m := fun r F H σ hr er Q q => q _ r F H hr (Ext.refl hr) (.str x)
theorem ye_op (ha : YE K ta δ m d1 m1) (hb : YE K tb δ m1 d2 m2) (h2 : Y2 K rr d1 d2 m2 d3 m3) : YE K (tOp rr ta tb) δ m d3 m3 := fun r F H σ hr er Q q =>
  ha r F H σ hr er _ fun x r1 F1 H1 hr1 x1 p1 => hb r1 F1 H1 σ hr1 (er.ext x1) _ fun y r2 F2 H2 hr2 x2 p2 =>
    h2 r2 F2 H2 x y hr2 (p1.mono x2.pre x2.sub) p2 Q fun v r3 F3 H3 hr3 x3 p3 => q v r3 F3 H3 hr3 ((x1.trans hr1.len hr.len x2).trans hr2.len hr.len x3) p3
theorem yn_op {zs : List D} (ha : YE K ta δ m d1 m1) (hb : YE K tb δ m1 d2 m2) (h2 : Y2N K rr d1 d2 m2 zs m3) : YN K (tOp rr ta tb) δ m zs m3 := fun r F H σ hr er Q q =>
  ha r F H σ hr er _ fun x r1 F1 H1 hr1 x1 p1 => hb r1 F1 H1 σ hr1 (er.ext x1) _ fun y r2 F2 H2 hr2 x2 p2 =>
    h2 r2 F2 H2 x y hr2 (p1.mono x2.pre x2.sub) p2 Q fun p vs r3 F3 H3 hr3 x3 np fp nc hp ra => q p vs r3 F3 H3 hr3 ((x1.trans hr1.len hr.len x2).trans hr2.len hr.len x3) (by
      cases e : H p with
      | none => rfl
      | some o =>
        obtain ⟨o', e'⟩ := (x1.trans hr1.len hr.len x2).trk p o e
        rw [e'] at np; cases np) fp nc hp ra
theorem ye_un {ru : V → Hp → VK → Prop} (ha : YE K ta δ m d1 m1) (h1 : Y1 K ru d1 m1 d2 m2) : YE K (tUn ru ta) δ m d2 m2 := fun r F H σ hr er Q q =>
  ha r F H σ hr er _ fun x r1 F1 H1 hr1 x1 p1 => h1 r1 F1 H1 x hr1 p1 Q fun v r2 F2 H2 hr2 x2 p2 => q v r2 F2 H2 hr2 (x1.trans hr1.len hr.len x2) p2
theorem ya_nil : YA K tNil δ m [] m := fun r F H σ hr er Q q => q [] r F H hr (Ext.refl hr) .nil
theorem ya_cons (ha : YE K ta δ m d m1) (hs : YA K tas δ m1 ds m2) : YA K (tCons ta tas) δ m (d :: ds) m2 := fun r F H σ hr er Q q =>
  ha r F H σ hr er _ fun x r1 F1 H1 hr1 x1 p1 => hs r1 F1 H1 σ hr1 (er.ext x1) _ fun vs r2 F2 H2 hr2 x2 p2 => q _ r2 F2 H2 hr2 (x1.trans hr1.len hr.len x2) (.cons (p1.mono x2.pre x2.sub) p2)
theorem ye_cb {rc : List V → Hp → VK → Prop} (ha : YA K tas δ m ds m1) (hc : YC K rc ds m1 d m2) : YE K (tCB rc tas) δ m d m2 := fun r F H σ hr er Q q =>
  ha r F H σ hr er _ fun vs r1 F1 H1 hr1 x1 p1 => hc r1 F1 H1 vs hr1 p1 Q fun v r2 F2 H2 hr2 x2 p2 => q v r2 F2 H2 hr2 (x1.trans hr1.len hr.len x2) p2
theorem trk_back {r r' : List Addr} {F H F' H' : Hp} {m m' : Store} (x : Ext r F H m r' F' H' m') {p : Addr} (np : H' p = none) : H p = none := by
  cases e : H p with
  | none => rfl
  | some o =>
    obtain ⟨o', e'⟩ := x.trk p o e
    rw [e'] at np; cases np
theorem yn_cb {rc : List V → Hp → VK → Prop} {zs : List D} (ha : YA K tas δ m ds m1) (hc : YCN K rc ds m1 zs m2) : YN K (tCB rc tas) δ m zs m2 := fun r F H σ hr er Q q =>
  ha r F H σ hr er _ fun vs r1 F1 H1 hr1 x1 p1 => hc r1 F1 H1 vs hr1 p1 Q fun p ws r2 F2 H2 hr2 x2 np fp nc hp ra => q p ws r2 F2 H2 hr2 (x1.trans hr1.len hr.len x2) (trk_back x1 np) fp nc hp ra
theorem ye_tup (ha : YA K tas δ m ds m1) (hl : ds.length ≤ 100000) : YE K (tTup tas) δ m (.tup ds) m1 := fun r F H σ hr er Q q =>
  ha r F H σ hr er _ fun vs r1 F1 H1 hr1 x1 p1 => ⟨Evl.sz_of (by rw [p1.len]; exact hl), fun p hp => q _ r1 _ _ (hr1.laid hp) (x1.trans hr1.len hr.len (Ext.laid hr1 hp)) (.tup upd_same (p1.mono (Pre.refl _) (Ext.laid hr1 hp).sub))⟩
theorem yn_lst (ha : YA K tas δ m ds m1) (hl : ds.length ≤ 100000) : YN K (tLst tas) δ m ds m1 := fun r F H σ hr er Q q =>
  ha r F H σ hr er _ fun vs r1 F1 H1 hr1 x1 p1 => ⟨Evl.sz_of (by rw [p1.len]; exact hl), fun p hp => q p vs r1 F1 _ (hr1.side hp) (x1.trans hr1.len hr.len (Ext.side hr1 hp)) (trk_back x1 hp) (hr1.sub.free hp) (fun k l e => (hr1.ne_new hp l e) rfl) upd_same p1⟩
theorem ye_andV {a b : Bool} (h1 : YE K ta δ m (.bl a) m1) (h2 : a = true → YE K tb δ m1 (.bl b) m1) : YE K (tAndV ta tb) δ m (.bl (a && b)) m1 := fun r F H σ hr er Q q =>
  h1 r F H σ hr er _ fun x r1 F1 H1 hr1 x1 p1 => by
    cases p1
    refine ⟨a, rfl, ?_⟩
    cases a with
    | true => exact h2 rfl r1 F1 H1 σ hr1 (er.ext x1) Q fun v r2 F2 H2 hr2 x2 p2 => q v r2 F2 H2 hr2 (x1.trans hr1.len hr.len x2) p2
    | false => exact q _ r1 F1 H1 hr1 x1 (.bl _)
theorem ye_orV {a b : Bool} (h1 : YE K ta δ m (.bl a) m1) (h2 : a = false → YE K tb δ m1 (.bl b) m1) : YE K (tOrV ta tb) δ m (.bl (a || b)) m1 := fun r F H σ hr er Q q =>
  h1 r F H σ hr er _ fun x r1 F1 H1 hr1 x1 p1 => by
    cases p1
    refine ⟨a, rfl, ?_⟩
    cases a with
    | false => exact h2 rfl r1 F1 H1 σ hr1 (er.ext x1) Q fun v r2 F2 H2 hr2 x2 p2 => q v r2 F2 H2 hr2 (x1.trans hr1.len hr.len x2) p2
    | true => exact q _ r1 F1 H1 hr1 x1 (.bl _)
theorem ye_notV {a : Bool} (h1 : YE K ta δ m (.bl a) m1) : YE K (tNotV ta) δ m (.bl (!a)) m1 := fun r F H σ hr er Q q =>
  h1 r F H σ hr er _ fun x r1 F1 H1 hr1 x1 p1 => by
    cases p1
    exact ⟨a, rfl, q _ r1 F1 H1 hr1 x1 (.bl _)⟩
theorem yt_test {a : Bool} (h1 : YE K ta δ m (.bl a) m1) : YT K (tTest ta) δ m a m1 := fun r F H σ hr er Q q =>
  h1 r F H σ hr er _ fun x r1 F1 H1 hr1 x1 p1 => by
    cases p1
    exact ⟨a, rfl, q r1 F1 H1 hr1 x1⟩
theorem yt_B {a : Bool} (h1 : YE K ta δ m (.bl a) m1) : YT K (tB ta) δ m a m1 := fun r F H σ hr er Q q =>
  h1 r F H σ hr er _ fun x r1 F1 H1 hr1 x1 p1 => by
    cases p1
    exact ⟨a, rfl, q r1 F1 H1 hr1 x1⟩
/-- and, or in tests: the second side's store by what the first tells -/
theorem yt_and {a b : Bool} (h1 : YT K tt δ m a m1) (h2 : a = true → YT K tu δ m1 b m2) (hf : a = false → m1 = m2) : YT K (tAnd tt tu) δ m (a && b) m2 := fun r F H σ hr er Q q =>
  h1 r F H σ hr er _ fun r1 F1 H1 hr1 x1 => by
    cases a with
    | true => exact h2 rfl r1 F1 H1 σ hr1 (er.ext x1) Q fun r2 F2 H2 hr2 x2 => q r2 F2 H2 hr2 (x1.trans hr1.len hr.len x2)
    | false => cases hf rfl; exact q r1 F1 H1 hr1 x1
theorem yt_or {a b : Bool} (h1 : YT K tt δ m a m1) (h2 : a = false → YT K tu δ m1 b m2) (hf : a = true → m1 = m2) : YT K (tOr tt tu) δ m (a || b) m2 := fun r F H σ hr er Q q =>
  h1 r F H σ hr er _ fun r1 F1 H1 hr1 x1 => by
    cases a with
    | false => exact h2 rfl r1 F1 H1 σ hr1 (er.ext x1) Q fun r2 F2 H2 hr2 x2 => q r2 F2 H2 hr2 (x1.trans hr1.len hr.len x2)
    | true => cases hf rfl; exact q r1 F1 H1 hr1 x1
theorem yt_not {a : Bool} (h1 : YT K tt δ m a m1) : YT K (tNot tt) δ m (!a) m1 := fun r F H σ hr er Q q =>
  h1 r F H σ hr er _ fun r1 F1 H1 hr1 x1 => q r1 F1 H1 hr1 x1
theorem ye_if {b : Bool} (h : YT K tt δ m b m1) (h1 : b = true → YE K ta δ m1 d m2) (h2 : b = false → YE K tb δ m1 d m2) : YE K (tIf tt ta tb) δ m d m2 := fun r F H σ hr er Q q =>
  h r F H σ hr er _ fun r1 F1 H1 hr1 x1 => by
    cases b with
    | true => exact h1 rfl r1 F1 H1 σ hr1 (er.ext x1) Q fun v r2 F2 H2 hr2 x2 p => q v r2 F2 H2 hr2 (x1.trans hr1.len hr.len x2) p
    | false => exact h2 rfl r1 F1 H1 σ hr1 (er.ext x1) Q fun v r2 F2 H2 hr2 x2 p => q v r2 F2 H2 hr2 (x1.trans hr1.len hr.len x2) p
theorem ye_chain {r1' r2' : R2} {a b : Bool} (ha : YE K ta δ m d1 m1) (hb : YE K tb δ m1 d2 m2) (h1 : Y2 K r1' d1 d2 m2 (.bl a) m2) (hc : a = true → YE K tc δ m2 d3 m2) (h2 : a = true → Y2 K r2' d2 d3 m2 (.bl b) m2) : YE K (tChain r1' r2' ta tb tc) δ m (.bl (a && b)) m2 := fun r F H σ hr er Q q =>
  ha r F H σ hr er _ fun x r1 F1 H1 hr1 x1 p1 => hb r1 F1 H1 σ hr1 (er.ext x1) _ fun y r2 F2 H2 hr2 x2 p2 =>
    h1 r2 F2 H2 x y hr2 (p1.mono x2.pre x2.sub) p2 _ fun z r3 F3 H3 hr3 x3 p3 => by
      cases p3
      have x13 := (x1.trans hr1.len hr.len x2).trans hr2.len hr.len x3
      refine ⟨a, rfl, ?_⟩
      cases a with
      | false => exact q _ r3 F3 H3 hr3 x13 (.bl _)
      | true =>
        show tc σ H3 fun w H4 => r2' y w H4 Q
        exact hc rfl r3 F3 H3 σ hr3 (er.ext x13) _ fun w r4 F4 H4 hr4 x4 p4 => h2 rfl r4 F4 H4 y w hr4 (p2.mono (x3.pre.trans x4.pre) (x3.sub.trans x4.sub)) p4 Q fun z r5 F5 H5 hr5 x5 p5 => q z r5 F5 H5 hr5 ((x13.trans hr3.len hr.len x4).trans hr4.len hr.len x5) p5
end
end DL
namespace DL
open PySem PySem.Spec PyProof.Rows L2

/-! ### data and PyData -/
mutual
def D.toPy : D → PyData
  | .non => .none
  | .bl b => .bool b
  | .int i => .int i
  | .str x => .str x
  | .lst xs => .list (D.toPys xs)
  | .tup xs => .tuple (D.toPys xs)
  | .cell _ => .none
  | .scr ns => .list (ns.map PyData.int)
  | .exc _ => .none
def D.toPys : List D → List PyData
  | [] => []
  | d :: ds => D.toPy d :: D.toPys ds
end
theorem dp_ints {K : PySem.W.Frag} {H : Hp} : ∀ ns : List Int, DpAll K H (ns.map V.int) (ns.map PyData.int)
  | [] => .nil
  | n :: ns => .cons (.int n) (dp_ints ns)
section
variable {K : PySem.W.Frag} {r : List Addr} {F H : Hp}
mutual
theorem Rep.dp (s : Same F H) : ∀ {v : V} {d : D}, d.pure = true → Rep K r F v d → Dp K H v d.toPy
  | _, _, _, .non => .non
  | _, _, _, .bl b => .bl b
  | _, _, _, .int i => .int i
  | _, _, _, .str x => .str x
  | _, _, p, .lst h t => .lst (SqL.of (s _ _ h)) (RepAll.dp s p t)
  | _, _, p, .tup h t => .tup (SqT.of (s _ _ h)) (RepAll.dp s p t)
  | _, _, p, .cell h => nomatch p
  | _, _, _, .scr h => .lst (s.seq h) (dp_ints _)
  | _, _, p, .exc h => nomatch p
theorem RepAll.dp (s : Same F H) : ∀ {vs : List V} {ds : List D}, D.pures ds = true → RepAll K r F vs ds → DpAll K H vs (D.toPys ds)
  | _, _, _, .nil => .nil
  | _, _, p, .cons h t =>
    have q : (D.pure _ && D.pures _) = true := p
    .cons (Rep.dp s (Bool.and_eq_true_iff.mp q).1 h) (RepAll.dp s (Bool.and_eq_true_iff.mp q).2 t)
end
end
def D.isNon : D → Bool
  | .non => true
  | _ => false

section
variable {K : PySem.W.Frag} {m : Store} {d e : D} {i j : Int}
/-- an answer that makes nothing -/
theorem post1 {r : List Addr} {F H : Hp} {v : V} {z : D} {Q : VK} (hr : HR K r F H m) (q : Post1 K r F H m z m Q) (p : Rep K r F v z) : Q v H := q v r F H hr (Ext.refl hr) p
theorem y_add : Y2 K (rI0 fun i j => .int (i + j)) (.int i) (.int j) m (.int (i + j)) m := fun r F H x y hr p1 p2 Q q => by
  cases p1; cases p2; exact ⟨i, j, rfl, rfl, post1 hr q (.int _)⟩
theorem y_sub : Y2 K (rI0 fun i j => .int (i - j)) (.int i) (.int j) m (.int (i - j)) m := fun r F H x y hr p1 p2 Q q => by
  cases p1; cases p2; exact ⟨i, j, rfl, rfl, post1 hr q (.int _)⟩
theorem y_mul (h : CMul i j) : Y2 K (rI CMul fun i j => .int (i * j)) (.int i) (.int j) m (.int (i * j)) m := fun r F H x y hr p1 p2 Q q => by
  cases p1; cases p2; exact ⟨i, j, rfl, rfl, h, post1 hr q (.int _)⟩
theorem y_fdiv (h : CDivW i j) : Y2 K (rI CDivW fun i j => .int (i / j)) (.int i) (.int j) m (.int (i / j)) m := fun r F H x y hr p1 p2 Q q => by
  cases p1; cases p2; exact ⟨i, j, rfl, rfl, h, post1 hr q (.int _)⟩
theorem y_mod (h : 0 < j) : Y2 K (rI (fun _ j => 0 < j) fun i j => .int (i % j)) (.int i) (.int j) m (.int (i % j)) m := fun r F H x y hr p1 p2 Q q => by
  cases p1; cases p2; exact ⟨i, j, rfl, rfl, h, post1 hr q (.int _)⟩
theorem y_pow {n : Nat} (h : CPow i (n : Int)) : Y2 K (rI CPow fun i j => .int (i ^ j.toNat)) (.int i) (.int (n : Int)) m (.int (i ^ n)) m := fun r F H x y hr p1 p2 Q q => by
  cases p1; cases p2; exact ⟨i, n, rfl, rfl, h, post1 hr q (.int _)⟩
theorem y_lt : Y2 K (rI0 fun i j => .bl (decide (i < j))) (.int i) (.int j) m (.bl (decide (i < j))) m := fun r F H x y hr p1 p2 Q q => by
  cases p1; cases p2; exact ⟨i, j, rfl, rfl, post1 hr q (.bl _)⟩
theorem y_le : Y2 K (rI0 fun i j => .bl (decide (i ≤ j))) (.int i) (.int j) m (.bl (decide (i ≤ j))) m := fun r F H x y hr p1 p2 Q q => by
  cases p1; cases p2; exact ⟨i, j, rfl, rfl, post1 hr q (.bl _)⟩
theorem y_gt : Y2 K (rI0 fun i j => .bl (decide (j < i))) (.int i) (.int j) m (.bl (decide (j < i))) m := fun r F H x y hr p1 p2 Q q => by
  cases p1; cases p2; exact ⟨i, j, rfl, rfl, post1 hr q (.bl _)⟩
theorem y_ge : Y2 K (rI0 fun i j => .bl (decide (j ≤ i))) (.int i) (.int j) m (.bl (decide (j ≤ i))) m := fun r F H x y hr p1 p2 Q q => by
  cases p1; cases p2; exact ⟨i, j, rfl, rfl, post1 hr q (.bl _)⟩
theorem dec_int (i j : Int) : decide (V.int i = V.int j) = decide (i = j) := by
  by_cases h : i = j
  · subst h; simp
  · rw [decide_eq_false h, decide_eq_false (fun q => h (V.int.inj q))]
theorem dec_bl (i j : Bool) : decide (V.bl i = V.bl j) = decide (i = j) := by
  by_cases h : i = j
  · subst h; simp
  · rw [decide_eq_false h, decide_eq_false (fun q => h (V.bl.inj q))]
theorem dec_str (i j : Str) : decide (V.str i = V.str j) = decide (i = j) := by
  by_cases h : i = j
  · subst h; simp
  · rw [decide_eq_false h, decide_eq_false (fun q => h (V.str.inj q))]
theorem y_eqI : Y2 K rEq (.int i) (.int j) m (.bl (decide (i = j))) m := fun r F H x y hr p1 p2 Q q => by
  cases p1; cases p2; refine ⟨rfl, ?_⟩; rw [dec_int]; exact post1 hr q (.bl _)
theorem y_neI : Y2 K rNe (.int i) (.int j) m (.bl (!decide (i = j))) m := fun r F H x y hr p1 p2 Q q => by
  cases p1; cases p2; refine ⟨rfl, ?_⟩; rw [dec_int]; exact post1 hr q (.bl _)
theorem y_eqB {a b : Bool} : Y2 K rEq (.bl a) (.bl b) m (.bl (decide (a = b))) m := fun r F H x y hr p1 p2 Q q => by
  cases p1; cases p2; refine ⟨rfl, ?_⟩; rw [dec_bl]; exact post1 hr q (.bl _)
theorem y_neB {a b : Bool} : Y2 K rNe (.bl a) (.bl b) m (.bl (!decide (a = b))) m := fun r F H x y hr p1 p2 Q q => by
  cases p1; cases p2; refine ⟨rfl, ?_⟩; rw [dec_bl]; exact post1 hr q (.bl _)
theorem y_eqS {a b : Str} : Y2 K rEq (.str a) (.str b) m (.bl (decide (a = b))) m := fun r F H x y hr p1 p2 Q q => by
  cases p1; cases p2; refine ⟨rfl, ?_⟩; rw [dec_str]; exact post1 hr q (.bl _)
theorem y_neS {a b : Str} : Y2 K rNe (.str a) (.str b) m (.bl (!decide (a = b))) m := fun r F H x y hr p1 p2 Q q => by
  cases p1; cases p2; refine ⟨rfl, ?_⟩; rw [dec_str]; exact post1 hr q (.bl _)
theorem y_isN : Y2 K (fun x y H Q => y = .non ∧ Q (.bl (decide (x = .non))) H) d .non m (.bl d.isNon) m := fun r F H x y hr p1 p2 Q q => by
  cases p2
  refine ⟨rfl, ?_⟩
  have : decide (x = V.non) = d.isNon := by cases p1 <;> rfl
  rw [this]; exact post1 hr q (.bl _)
theorem y_notN : Y2 K (fun x y H Q => y = .non ∧ Q (.bl (!decide (x = .non))) H) d .non m (.bl (!d.isNon)) m := fun r F H x y hr p1 p2 Q q => by
  cases p2
  refine ⟨rfl, ?_⟩
  have : decide (x = V.non) = d.isNon := by cases p1 <;> rfl
  rw [this]; exact post1 hr q (.bl _)
/-- == of data at any depth, of pure data or of what cells hold -/
inductive Pd (m : Store) : D → PyData → Prop
  | pure {d : D} : d.pure = true → Pd m d d.toPy
  | cell {k : Nat} {xs : List D} : m[k]? = some (.lst xs) → D.pures xs = true → Pd m (.cell k) (.list (D.toPys xs))
theorem Pd.dp {r : List Addr} {F H : Hp} {v : V} {p : PyData} (hr : HR K r F H m) (h : Pd m d p) (q : Rep K r F v d) : Dp K H v p := by
  cases h with
  | pure hp => exact q.dp hr.sub hp
  | cell hk hp =>
    cases q with
    | cell e =>
      obtain ⟨_, vs, h1, h2⟩ := hr.cell _ _ _ e hk rfl
      exact .lst (SqL.of h1) (h2.dp hr.sub hp)
theorem y_eqD {p q : PyData} (h1 : Pd m d p) (h2 : Pd m e q) (s1 : SeqAt.shaped p = true) (s2 : SeqAt.shaped q = true) : Y2 K (rEqD K) d e m (.bl (PyData.eqv p q)) m := fun r F H x y hr p1 p2 Q k =>
  ⟨_, _, h1.dp hr p1, h2.dp hr p2, s1, s2, post1 hr k (.bl _)⟩
theorem y_neD {p q : PyData} (h1 : Pd m d p) (h2 : Pd m e q) (s1 : SeqAt.shaped p = true) (s2 : SeqAt.shaped q = true) : Y2 K (rNeD K) d e m (.bl (!PyData.eqv p q)) m := fun r F H x y hr p1 p2 Q k =>
  ⟨_, _, h1.dp hr p1, h2.dp hr p2, s1, s2, post1 hr k (.bl _)⟩

/-! ### items -/
theorem atI_len {α β : Type} {xs : List α} {ys : List β} (h : xs.length = ys.length) {i : Int} {y : β} (e : atI ys i = some y) : ∃ j : Nat, ys[j]? = some y ∧ atI xs i = xs[j]? := by
  unfold atI at e ⊢
  rw [h]
  cases q : ixN ys.length i with
  | none => rw [q] at e; cases e
  | some j => rw [q] at e; exact ⟨j, e, rfl⟩
theorem RepAll.atI {r : List Addr} {F : Hp} {vs : List V} {ds : List D} {i : Int} (h : RepAll K r F vs ds) (e : L2.atI ds i = some d) : ∃ v, L2.atI vs i = some v ∧ Rep K r F v d := by
  obtain ⟨j, e1, e2⟩ := atI_len h.len e
  obtain ⟨v, e3, p⟩ := h.get e1
  exact ⟨v, by rw [e2, e3], p⟩
theorem y_ixT {ds : List D} (h : L2.atI ds i = some d) : Y2 K (rIxT K) (.tup ds) (.int i) m d m := fun r F H x y hr p1 p2 Q q => by
  cases p2
  cases p1 with
  | tup hs ha =>
    obtain ⟨v, e, p⟩ := ha.atI h
    exact ⟨_, _, i, v, rfl, rfl, SqT.of (hr.sub _ _ hs), e, post1 hr q p⟩
theorem y_ixL {ds : List D} (h : L2.atI ds i = some d) : Y2 K (rIxL K) (.lst ds) (.int i) m d m := fun r F H x y hr p1 p2 Q q => by
  cases p2
  cases p1 with
  | lst hs ha =>
    obtain ⟨v, e, p⟩ := ha.atI h
    exact ⟨_, _, i, v, rfl, rfl, SqL.of (hr.sub _ _ hs), e, post1 hr q p⟩
theorem y_ixC {k : Nat} {ds : List D} (hk : m[k]? = some (.lst ds)) (h : L2.atI ds i = some d) : Y2 K (rIxL K) (.cell k) (.int i) m d m := fun r F H x y hr p1 p2 Q q => by
  cases p2
  cases p1 with
  | cell ea =>
    obtain ⟨_, vs, h1, h2⟩ := hr.cell _ _ _ ea hk rfl
    obtain ⟨v, e, p⟩ := h2.atI h
    exact ⟨_, _, i, v, rfl, rfl, SqL.of h1, e, post1 hr q p⟩
theorem y_ixS {ns : List Int} {n : Int} (h : L2.atI ns i = some n) : Y2 K (rIxL K) (.scr ns) (.int i) m (.int n) m := fun r F H x y hr p1 p2 Q q => by
  cases p2
  cases p1 with
  | scr hs =>
    obtain ⟨j, e1, e2⟩ := atI_len (xs := ns.map V.int) (by simp) h
    refine ⟨_, _, i, .int n, rfl, rfl, hr.sub.seq hs, ?_, post1 hr q (.int n)⟩
    rw [e2, List.getElem?_map, e1]; rfl

/-! ### built-ins on values -/
theorem y_max2 : YC K (fun xs H Q => ∃ i j, xs = [.int i, .int j] ∧ Q (.int (if j > i then j else i)) H) [.int i, .int j] m (.int (max i j)) m := fun r F H vs hr p Q q => by
  cases p with
  | cons p1 p => cases p with
    | cons p2 p => cases p; cases p1; cases p2
                   have e : (if j > i then j else i) = max i j := by split <;> omega
                   refine ⟨i, j, rfl, ?_⟩; rw [e]; exact post1 hr q (.int _)
theorem y_min2 : YC K (fun xs H Q => ∃ i j, xs = [.int i, .int j] ∧ Q (.int (if j < i then j else i)) H) [.int i, .int j] m (.int (min i j)) m := fun r F H vs hr p Q q => by
  cases p with
  | cons p1 p => cases p with
    | cons p2 p => cases p; cases p1; cases p2
                   have e : (if j < i then j else i) = min i j := by split <;> omega
                   refine ⟨i, j, rfl, ?_⟩; rw [e]; exact post1 hr q (.int _)
theorem nu_max (i j : Int) : nuMax2 (.int i) (.int j) = some (.int (max i j)) := by
  unfold nuMax2
  show (nuLt (.int i) (.int j)).map _ = _
  have : nuLt (.int i) (.int j) = some (decide (i < j)) := rfl
  rw [this]
  show some (if decide (i < j) = true then V.int j else V.int i) = _
  by_cases h : i < j
  · rw [decide_eq_true h, if_pos rfl, show max i j = j by omega]
  · rw [decide_eq_false h, if_neg Bool.false_ne_true, show max i j = i by omega]
theorem nu_min (i j : Int) : nuMin2 (.int i) (.int j) = some (.int (min i j)) := by
  unfold nuMin2
  show (nuLt (.int j) (.int i)).map _ = _
  have : nuLt (.int j) (.int i) = some (decide (j < i)) := rfl
  rw [this]
  show some (if decide (j < i) = true then V.int j else V.int i) = _
  by_cases h : j < i
  · rw [decide_eq_true h, if_pos rfl, show min i j = j by omega]
  · rw [decide_eq_false h, if_neg Bool.false_ne_true, show min i j = i by omega]
theorem y_max3 {k : Int} : YC K (rNuC3 nuMax3) [.int i, .int j, .int k] m (.int (max (max i j) k)) m := fun r F H vs hr p Q q => by
  cases p with
  | cons p1 p => cases p with
    | cons p2 p => cases p with
      | cons p3 p => cases p; cases p1; cases p2; cases p3
                     refine ⟨_, _, _, .int (max (max i j) k), rfl, ?_, post1 hr q (.int _)⟩
                     unfold nuMax3
                     rw [nu_max]
                     show nuMax2 _ _ = _
                     rw [nu_max]
theorem y_min3 {k : Int} : YC K (rNuC3 nuMin3) [.int i, .int j, .int k] m (.int (min (min i j) k)) m := fun r F H vs hr p Q q => by
  cases p with
  | cons p1 p => cases p with
    | cons p2 p => cases p with
      | cons p3 p => cases p; cases p1; cases p2; cases p3
                     refine ⟨_, _, _, .int (min (min i j) k), rfl, ?_, post1 hr q (.int _)⟩
                     unfold nuMin3
                     rw [nu_min]
                     show nuMin2 _ _ = _
                     rw [nu_min]
theorem y_lenL {ds : List D} : YC K (Evl.rLenS K) [.lst ds] m (.int ds.length) m := fun r F H vs hr p Q q => by
  cases p with
  | cons p1 p => cases p; cases p1 with
    | lst hs ha =>
      refine ⟨_, _, rfl, .inl (SqL.of (hr.sub _ _ hs)), ?_⟩
      rw [ha.len]; exact post1 hr q (.int _)
theorem y_lenT {ds : List D} : YC K (Evl.rLenS K) [.tup ds] m (.int ds.length) m := fun r F H vs hr p Q q => by
  cases p with
  | cons p1 p => cases p; cases p1 with
    | tup hs ha =>
      refine ⟨_, _, rfl, .inr (SqT.of (hr.sub _ _ hs)), ?_⟩
      rw [ha.len]; exact post1 hr q (.int _)
theorem y_lenC {k : Nat} {ds : List D} (hk : m[k]? = some (.lst ds)) : YC K (Evl.rLenS K) [.cell k] m (.int ds.length) m := fun r F H vs hr p Q q => by
  cases p with
  | cons p1 p => cases p; cases p1 with
    | cell ea =>
      obtain ⟨_, vs, h1, h2⟩ := hr.cell _ _ _ ea hk rfl
      refine ⟨_, _, rfl, .inl (SqL.of h1), ?_⟩
      rw [h2.len]; exact post1 hr q (.int _)
theorem y_lenS {ns : List Int} : YC K (Evl.rLenS K) [.scr ns] m (.int ns.length) m := fun r F H vs hr p Q q => by
  cases p with
  | cons p1 p => cases p; cases p1 with
    | scr hs =>
      refine ⟨_, _, rfl, .inl (hr.sub.seq hs), ?_⟩
      rw [List.length_map]; exact post1 hr q (.int _)
theorem ye_bits {te : TE} {δ : En} {m1 : Store} (h : YE K te δ m (.int i) m1) : YE K (tBits te) δ m (.int (Builtin.Int.intBits i : Nat)) m1 := fun r F H σ hr er Q q =>
  h r F H σ hr er _ fun x r1 F1 H1 hr1 x1 p1 => by
    cases p1
    exact ⟨i, rfl, q _ r1 F1 H1 hr1 x1 (.int _)⟩
end

/-! ### the lists of two, joined; repeated; slices -/
section
variable {K : PySem.W.Frag} {m : Store} {d e : D} {i j : Int}
/-- what is read as a list of H: data, or a cell's -/
inductive IsL (m : Store) : D → List D → Prop
  | lst {ds : List D} : IsL m (.lst ds) ds
  | cell {k : Nat} {ds : List D} : m[k]? = some (.lst ds) → IsL m (.cell k) ds
theorem IsL.get {r : List Addr} {F H : Hp} {v : V} {ds : List D} (h : IsL m d ds) (hr : HR K r F H m) (p : Rep K r F v d) : ∃ a vs, v = .ref a ∧ H a = some (.lst vs) ∧ RepAll K r F vs ds := by
  cases h with
  | lst => cases p with
    | lst hs ha => exact ⟨_, _, rfl, hr.sub _ _ hs, ha⟩
  | cell hk => cases p with
    | cell ea =>
      obtain ⟨_, vs, h1, h2⟩ := hr.cell _ _ _ ea hk rfl
      exact ⟨_, _, rfl, h1, h2⟩
theorem postN {r : List Addr} {F H : Hp} {zs : List D} {vs : List V} {Q : VK} {p : Addr} (hr : HR K r F H m) (q : PostN K r F H m zs m Q) (hp : H p = none) (ra : RepAll K r F vs zs) : Q (.ref p) (upd H p (.lst vs)) :=
  q p vs r F _ (hr.side hp) (Ext.side hr hp) hp (hr.sub.free hp) (fun k l e => (hr.ne_new hp l e) rfl) upd_same ra
theorem y_cat {xs ys : List D} (h1 : IsL m d xs) (h2 : IsL m e ys) (hl : xs.length + ys.length ≤ 100000) : Y2N K rCat d e m (xs ++ ys) m := fun r F H x y hr p1 p2 Q q => by
  obtain ⟨a, vs, rfl, e1, r1⟩ := h1.get hr p1
  obtain ⟨b, ws, rfl, e2, r2⟩ := h2.get hr p2
  exact ⟨a, b, vs, ws, rfl, rfl, e1, e2, Evl.sz_of (by rw [r1.len, r2.len]; exact hl), fun p hp => postN hr q hp (r1.app r2)⟩
theorem lenD {xs : List D} (h1 : IsL m d xs) : YC K (Evl.rLenS K) [d] m (.int xs.length) m := by
  cases h1 with
  | lst => exact y_lenL
  | cell hk => exact y_lenC hk
end
end DL
namespace DL
open PySem PySem.Spec PyProof.Rows L2

/-! ### statements -/
inductive Out where
  | nx (δ : En) (m : Store)
  | rt (d : D) (m : Store)
  | bk (δ : En) (m : Store)
  | ct (δ : En) (m : Store)
  | ex (C : Value) (δ : En) (m : Store)
def OutOk (K : PySem.W.Frag) (W : WX) (r : List Addr) (F H : Hp) (m : Store) (D : Ends) : Out → Prop
  | .nx δ' m' => ∀ σ' r' F' H', HR K r' F' H' m' → ER K r' F' σ' δ' → Ext r F H m r' F' H' m' → D.nx σ' H'
  | .rt d m' => ∀ v r' F' H', HR K r' F' H' m' → Ext r F H m r' F' H' m' → Rep K r' F' v d → D.rt v H'
  | .bk δ' m' => ∀ σ' r' F' H', HR K r' F' H' m' → ER K r' F' σ' δ' → Ext r F H m r' F' H' m' → D.bk σ' H'
  | .ct δ' m' => ∀ σ' r' F' H', HR K r' F' H' m' → ER K r' F' σ' δ' → Ext r F H m r' F' H' m' → D.ct σ' H'
  | .ex C δ' m' => ∀ σ' r' F' H', HR K r' F' H' m' → ER K r' F' σ' δ' → Ext r F H m r' F' H' m' → W C none σ' H'
def YS (K : PySem.W.Frag) (W : WX) (t : TS) (δ : En) (m : Store) (o : Out) : Prop := ∀ r F H σ D, HR K r F H m → ER K r F σ δ → OutOk K W r F H m D o → t D σ H
/-- a target: the slots change, the heap does not -/
def YG (K : PySem.W.Frag) (g : TG) (d : D) (δ δ' : En) : Prop := ∀ r F H m σ v, HR K r F H m → ER K r F σ δ → Rep K r F v d → ∀ Q : L2.St → Hp → Prop, (∀ σ', ER K r F σ' δ' → Q σ' H) → g v σ H Q
def YGs (K : PySem.W.Frag) (g : TGs) (ds : List D) (δ δ' : En) : Prop := ∀ r F H m σ vs, HR K r F H m → ER K r F σ δ → RepAll K r F vs ds → ∀ Q : L2.St → Hp → Prop, (∀ σ', ER K r F σ' δ' → Q σ' H) → g vs σ H Q

section
variable {K : PySem.W.Frag} {W : WX} {te ta tb : TE} {tt : TT} {t u : TS} {g : TG} {gs : TGs} {δ δ1 δ2 : En} {m m1 m2 m3 : Store} {d e : D} {o : Out}
theorem OutOk.ext {r r1 : List Addr} {F H F1 H1 : Hp} {D : Ends} (hr : r.length = m.length) (hr1 : r1.length = m1.length) (x : Ext r F H m r1 F1 H1 m1) : ∀ {o : Out}, OutOk K W r F H m D o → OutOk K W r1 F1 H1 m1 D o
  | .nx _ _, q => fun σ' r' F' H' h e y => q σ' r' F' H' h e (x.trans hr1 hr y)
  | .rt _ _, q => fun v r' F' H' h y p => q v r' F' H' h (x.trans hr1 hr y) p
  | .bk _ _, q => fun σ' r' F' H' h e y => q σ' r' F' H' h e (x.trans hr1 hr y)
  | .ct _ _, q => fun σ' r' F' H' h e y => q σ' r' F' H' h e (x.trans hr1 hr y)
  | .ex _ _ _, q => fun σ' r' F' H' h e y => q σ' r' F' H' h e (x.trans hr1 hr y)
theorem YS.of_eq {o' : Out} (h : YS K W t δ m o) (e : o = o') : YS K W t δ m o' := e ▸ h
theorem ys_next : YS K W tNext δ m (.nx δ m) := fun r F H σ D hr er q => q σ r F H hr er (Ext.refl hr)
theorem ys_seq (h1 : YS K W t δ m (.nx δ1 m1)) (h2 : YS K W u δ1 m1 o) : YS K W (tSeq t u) δ m o := fun r F H σ D hr er q =>
  h1 r F H σ { D with nx := u D } hr er fun σ1 r1 F1 H1 hr1 er1 x1 => h2 r1 F1 H1 σ1 D hr1 er1 (q.ext hr.len hr1.len x1)
/-- the first statement leaves -/
def Out.leaves : Out → Bool
  | .nx _ _ => false
  | _ => true
theorem ys_seqX (h1 : YS K W t δ m o) (hl : o.leaves = true) : YS K W (tSeq t u) δ m o := fun r F H σ D hr er q =>
  h1 r F H σ { D with nx := u D } hr er (by cases o with
    | nx _ _ => cases hl
    | rt _ _ => exact q
    | bk _ _ => exact q
    | ct _ _ => exact q
    | ex _ _ _ => exact q)
theorem yg_name {i : Nat} : YG K (gName i) d δ (δ.set i (some d)) := fun r F H m σ v hr er p Q q => q _ (er.set i p)
theorem ygs_nil : YGs K gNil [] δ δ := fun r F H m σ vs hr er p Q q => by cases p; exact ⟨rfl, q σ er⟩
theorem ygs_cons {ds : List D} (h : YG K g d δ δ1) (hs : YGs K gs ds δ1 δ2) : YGs K (gCons g gs) (d :: ds) δ δ2 := fun r F H m σ vs hr er p Q q => by
  cases p with
  | cons p1 p2 => exact ⟨_, _, rfl, h r F H m σ _ hr er p1 _ fun σ1 er1 => hs r F H m σ1 _ hr er1 p2 Q q⟩
theorem yg_tup {ds : List D} {n : Nat} (hl : ds.length = n) (h : YGs K gs ds δ δ1) : YG K (gTup K n gs) (.tup ds) δ δ1 := fun r F H m σ v hr er p Q q => by
  cases p with
  | tup hs ha => exact ⟨_, _, rfl, SqT.of (hr.sub _ _ hs), ha.len.trans hl, h r F H m σ _ hr er ha Q q⟩
theorem ys_asg (he : YE K te δ m d m1) (hg : YG K g d δ δ1) : YS K W (tAsg te g) δ m (.nx δ1 m1) := fun r F H σ D hr er q =>
  he r F H σ hr er _ fun v r1 F1 H1 hr1 x1 p1 => hg r1 F1 H1 m1 σ v hr1 (er.ext x1) p1 _ fun σ1 er1 => q σ1 r1 F1 H1 hr1 er1 x1
theorem ys_set {i : Nat} (he : YE K te δ m d m1) : YS K W (tAsg te (gName i)) δ m (.nx (δ.set i (some d)) m1) := ys_asg he yg_name
theorem ys_expr (he : YE K te δ m d m1) : YS K W (tDrop te) δ m (.nx δ m1) := fun r F H σ D hr er q =>
  he r F H σ hr er _ fun v r1 F1 H1 hr1 x1 p1 => q σ r1 F1 H1 hr1 (er.ext x1) x1
theorem ys_ret (he : YE K te δ m d m1) : YS K W (tRet te) δ m (.rt d m1) := fun r F H σ D hr er q =>
  he r F H σ hr er _ fun v r1 F1 H1 hr1 x1 p1 => q v r1 F1 H1 hr1 x1 p1
theorem ys_retN : YS K W tRetN δ m (.rt .non m) := fun r F H σ D hr er q => q .non r F H hr (Ext.refl hr) .non
theorem ys_break : YS K W tBreak δ m (.bk δ m) := fun r F H σ D hr er q => q σ r F H hr er (Ext.refl hr)
theorem ys_cont : YS K W tCont δ m (.ct δ m) := fun r F H σ D hr er q => q σ r F H hr er (Ext.refl hr)
theorem ys_if {b : Bool} (h : YT K tt δ m b m1) (h1 : b = true → YS K W t δ m1 o) (h2 : b = false → YS K W u δ m1 o) : YS K W (tIfS tt t u) δ m o := fun r F H σ D hr er q =>
  h r F H σ hr er _ fun r1 F1 H1 hr1 x1 => by
    cases b with
    | true => exact h1 rfl r1 F1 H1 σ D hr1 (er.ext x1) (q.ext hr.len hr1.len x1)
    | false => exact h2 rfl r1 F1 H1 σ D hr1 (er.ext x1) (q.ext hr.len hr1.len x1)
theorem ys_ifT (h : YT K tt δ m true m1) (h1 : YS K W t δ m1 o) : YS K W (tIfS tt t u) δ m o := ys_if h (fun _ => h1) (fun z => nomatch z)
theorem ys_ifF (h : YT K tt δ m false m1) (h1 : YS K W u δ m1 o) : YS K W (tIfS tt t u) δ m o := ys_if h (fun z => nomatch z) (fun _ => h1)
/-- both ways, told by the test -/
theorem ys_ite {b : Bool} {o1 o2 : Out} (h : YT K tt δ m b m1) (h1 : b = true → YS K W t δ m1 o1) (h2 : b = false → YS K W u δ m1 o2) : YS K W (tIfS tt t u) δ m (if b = true then o1 else o2) := by
  cases b with
  | true => exact ys_ifT h (h1 rfl)
  | false => exact ys_ifF h (h2 rfl)
theorem YS.weak {δ' : En} (h : YS K W t δ m (.nx δ1 m1)) (w : Weak δ1 δ') : YS K W t δ m (.nx δ' m1) := fun r F H σ D hr er q =>
  h r F H σ D hr er fun σ' r' F' H' h1 e1 x => q σ' r' F' H' h1 (e1.weak w) x
theorem YS.pre {δ' : En} (w : Weak δ' δ) (h : YS K W t δ m o) : YS K W t δ' m o := fun r F H σ D hr er q => h r F H σ D hr (er.weak w) q
/-- xs[i] = e of a cell -/
theorem ixN_get {n : Nat} {i : Int} {j : Nat} (h : ixN n i = some j) : j < n := by
  unfold ixN at h
  split at h
  · split at h
    · cases h; omega
    · cases h
  · split at h
    · cases h; omega
    · cases h
theorem ys_setC {to ti : TE} {k : Nat} {i : Int} {j : Nat} {xs : List D} (he : YE K te δ m d m1) (ho : YE K to δ m1 (.cell k) m2) (hi : YE K ti δ m2 (.int i) m3) (hk : m3[k]? = some (.lst xs)) (hj : ixN xs.length i = some j) :
    YS K W (tAsg te (gSub to ti rSetL)) δ m (.nx δ (m3.set k (.lst (xs.set j d)))) := fun r F H σ D hr er q =>
  he r F H σ hr er _ fun v r1 F1 H1 hr1 x1 p1 => ho r1 F1 H1 σ hr1 (er.ext x1) _ fun ov r2 F2 H2 hr2 x2 p2 => hi r2 F2 H2 σ hr2 ((er.ext x1).ext x2) _ fun iv r3 F3 H3 hr3 x3 p3 => by
    cases p3
    have x13 := (x1.trans hr1.len hr.len x2).trans hr2.len hr.len x3
    have p2' := p2.mono x3.pre x3.sub
    have p1' := (p1.mono x2.pre x2.sub).mono x3.pre x3.sub
    cases p2' with
    | cell ea =>
      obtain ⟨_, vs, h1, h2⟩ := hr3.cell _ _ _ ea hk rfl
      have lv : live m3 k := ⟨_, hk, rfl⟩
      refine ⟨_, vs, i, j, rfl, rfl, h1, by rw [h2.len]; exact hj, ?_⟩
      refine q σ r3 F3 _ (hr3.put lv ea (fun b z => by rw [h1] at z; cases z) ⟨_, upd_same, h2.set p1' j⟩) (er.ext x13) (x13.trans hr3.len hr.len (Ext.put hr3 lv ea))
/-- xs.append(e) of a cell -/
theorem ye_append {to : TE} {k : Nat} {xs ys : List D} (ho : YE K to δ m (.cell k) m1) (hk0 : m1[k]? = some (.lst ys)) (he : YE K te δ m1 d m2) (hk : m2[k]? = some (.lst xs)) (hl : xs.length < 100000) :
    YE K (tBM K "list" rAppend to (tCons te tNil)) δ m .non (m2.set k (.lst (xs ++ [d]))) := fun r F H σ hr er Q q =>
  ho r F H σ hr er _ fun ov r1 F1 H1 hr1 x1 p1 => by
    have tyv : tyV K "list" ov H1 := by
      cases p1 with
      | cell ea =>
        obtain ⟨_, vs, h1, h2⟩ := hr1.cell _ _ _ ea hk0 rfl
        exact .inl ⟨rfl, vs, SqL.of h1⟩
    refine ⟨tyv, ?_⟩
    refine he r1 F1 H1 σ hr1 (er.ext x1) _ fun v r2 F2 H2 hr2 x2 p2 => ?_
    have p1' := p1.mono x2.pre x2.sub
    have x12 := x1.trans hr1.len hr.len x2
    cases p1' with
    | cell ea =>
      obtain ⟨_, vs, h1, h2⟩ := hr2.cell _ _ _ ea hk rfl
      have lv : live m2 k := ⟨_, hk, rfl⟩
      refine ⟨_, vs, v, rfl, rfl, h1, Evl.sz_lt (by rw [h2.len]; exact hl), ?_⟩
      exact q _ r2 F2 _ (hr2.put lv ea (fun b z => by rw [h1] at z; cases z) ⟨_, upd_same, h2.app (.one p2)⟩) (x12.trans hr2.len hr.len (Ext.put hr2 lv ea)) .non
end

/-! ### what is walked -/
/-- the iterator J yields xs, one by one, while C holds of the store -/
def ItOk (K : PySem.W.Frag) (C : Store → Prop) (J : It) (r : List Addr) (F : Hp) (xs : List D) : Prop := ∀ r' F' H' m', Pre r r' → Same F F' → HR K r' F' H' m' → C m' → ∀ i : Nat,
  (∀ d, xs[i]? = some d → J.go i H' ∧ ∀ x H'', J.yld i H' x H'' → ∃ F'', HR K r' F'' H'' m' ∧ Ext r' F' H' m' r' F'' H'' m' ∧ Rep K r' F'' x d) ∧ (xs.length ≤ i → J.stop i H')
def YI (K : PySem.W.Frag) (C : Store → Prop) (wi : TI) (δ : En) (m : Store) (xs : List D) (m' : Store) : Prop := ∀ r F H σ, HR K r F H m → ER K r F σ δ → ∀ R : It → Hp → Prop,
  (∀ J r' F' H', HR K r' F' H' m' → Ext r F H m r' F' H' m' → ItOk K C J r' F' xs → R J H') → wi σ H R
abbrev Any : Store → Prop := fun _ => True
section
variable {K : PySem.W.Frag} {W : WX} {te ta tb : TE} {tt : TT} {t u : TS} {g : TG} {gs : TGs} {δ δ1 δ2 : En} {m m1 m2 m3 : Store} {d e : D} {o : Out} {tas : TA}
theorem yi_list {xs : List D} (h : YE K te δ m (.lst xs) m1) : YI K Any (iList K te) δ m xs m1 := fun r F H σ hr er R q =>
  h r F H σ hr er _ fun v r1 F1 H1 hr1 x1 p1 => by
    cases p1 with
    | lst hs ha =>
      refine ⟨_, rfl, ⟨_, SqL.of (hr1.sub _ _ hs)⟩, q _ r1 F1 H1 hr1 x1 fun r' F' H' m' pr sm hr' _ i => ?_⟩
      have hH := hr'.sub _ _ (sm _ _ hs)
      refine ⟨fun d hd => ?_, fun hi => ⟨_, SqL.of hH, by rw [ha.len]; exact hi⟩⟩
      obtain ⟨v, e1, p⟩ := ha.get hd
      refine ⟨⟨_, v, SqL.of hH, e1⟩, fun x H'' y => ?_⟩
      obtain ⟨rfl, y⟩ := y
      have := y _ (SqL.of hH)
      rw [e1] at this; cases this
      exact ⟨F', hr', Ext.refl hr', p.mono pr sm⟩
theorem yi_cell {xs : List D} {k : Nat} (h : YE K te δ m (.cell k) m1) (hk : m1[k]? = some (.lst xs)) : YI K (fun m' => m'[k]? = some (.lst xs)) (iList K te) δ m xs m1 := fun r F H σ hr er R q =>
  h r F H σ hr er _ fun v r1 F1 H1 hr1 x1 p1 => by
    cases p1 with
    | cell ea =>
      obtain ⟨_, ws, h1, _⟩ := hr1.cell _ _ _ ea hk rfl
      refine ⟨_, rfl, ⟨_, SqL.of h1⟩, q _ r1 F1 H1 hr1 x1 fun r' F' H' m' pr sm hr' hC i => ?_⟩
      obtain ⟨_, vs, hH, ha⟩ := hr'.cell _ _ _ (pr _ _ ea) hC rfl
      refine ⟨fun d hd => ?_, fun hi => ⟨_, SqL.of hH, by rw [ha.len]; exact hi⟩⟩
      obtain ⟨v, e1, p⟩ := ha.get hd
      refine ⟨⟨_, v, SqL.of hH, e1⟩, fun x H'' y => ?_⟩
      obtain ⟨rfl, y⟩ := y
      have := y _ (SqL.of hH)
      rw [e1] at this; cases this
      exact ⟨F', hr', Ext.refl hr', p⟩
theorem yi_scr {ns : List Int} (h : YE K te δ m (.scr ns) m1) : YI K Any (iList K te) δ m (ns.map D.int) m1 := fun r F H σ hr er R q =>
  h r F H σ hr er _ fun v r1 F1 H1 hr1 x1 p1 => by
    cases p1 with
    | scr hs =>
      refine ⟨_, rfl, ⟨_, hr1.sub.seq hs⟩, q _ r1 F1 H1 hr1 x1 fun r' F' H' m' pr sm hr' _ i => ?_⟩
      have hH := hr'.sub.seq (sm.seq hs)
      refine ⟨fun d hd => ?_, fun hi => ⟨_, hH, by rw [List.length_map] at hi ⊢; exact hi⟩⟩
      rw [List.getElem?_map] at hd
      cases e1 : ns[i]? with
      | none => rw [e1] at hd; cases hd
      | some n =>
        rw [e1] at hd; cases hd
        have e2 : (ns.map V.int)[i]? = some (.int n) := by rw [List.getElem?_map, e1]; rfl
        refine ⟨⟨_, _, hH, e2⟩, fun x H'' y => ?_⟩
        obtain ⟨rfl, y⟩ := y
        have := y _ hH
        rw [e2] at this; cases this
        exact ⟨F', hr', Ext.refl hr', .int n⟩
theorem yi_tup {xs : List D} (h : YE K te δ m (.tup xs) m1) : YI K Any (iTup K te) δ m xs m1 := fun r F H σ hr er R q =>
  h r F H σ hr er _ fun v r1 F1 H1 hr1 x1 p1 => by
    cases p1 with
    | tup hs ha =>
      refine ⟨_, rfl, ⟨_, SqT.of (hr1.sub _ _ hs)⟩, q _ r1 F1 H1 hr1 x1 fun r' F' H' m' pr sm hr' _ i => ?_⟩
      have hH := SqT.of (K := K) (hr'.sub _ _ (sm _ _ hs))
      refine ⟨fun d hd => ?_, fun hi => ⟨_, hH, by rw [ha.len]; exact hi⟩⟩
      obtain ⟨v, e1, p⟩ := ha.get hd
      refine ⟨⟨_, v, hH, e1⟩, fun x H'' y => ?_⟩
      obtain ⟨rfl, y⟩ := y
      have := y _ hH
      rw [e1] at this; cases this
      exact ⟨F', hr', Ext.refl hr', p.mono pr sm⟩
/-- range(n) -/
def rng (lo : Int) (n : Nat) : List D := (List.range n).map fun i : Nat => D.int (lo + (i : Int))
theorem rng_get {lo : Int} {n i : Nat} {d : D} (h : (rng lo n)[i]? = some d) : i < n ∧ d = .int (lo + (i : Int)) := by
  unfold rng at h
  rw [List.getElem?_map] at h
  by_cases hi : i < n
  · rw [List.getElem?_range hi] at h; cases h; exact ⟨hi, rfl⟩
  · rw [List.getElem?_eq_none (by simpa using hi)] at h; cases h
theorem rng_len (lo : Int) (n : Nat) : (rng lo n).length = n := by simp [rng]
theorem itr_ok {C : Store → Prop} {lo : Int} {n : Nat} {r : List Addr} {F : Hp} : ItOk K C (Itr lo n) r F (rng lo n) := fun r' F' H' m' pr sm hr' _ i =>
  ⟨fun d hd => by
    obtain ⟨hi, rfl⟩ := rng_get hd
    refine ⟨hi, fun x H'' y => ?_⟩
    obtain ⟨rfl, rfl⟩ := y
    exact ⟨F', hr', Ext.refl hr', .int _⟩, fun hi => by rw [rng_len] at hi; exact hi⟩
theorem yi_range1 {n : Int} (h : YA K tas δ m [.int n] m1) (hn : -(2 ^ 62) ≤ n ∧ n < 2 ^ 62) : YI K Any (iRng1 tas) δ m (rng 0 n.toNat) m1 := fun r F H σ hr er R q =>
  h r F H σ hr er _ fun vs r1 F1 H1 hr1 x1 p1 => by
    cases p1 with
    | cons p p1 => cases p1; cases p; exact ⟨n, rfl, hn.1, hn.2, q _ r1 F1 H1 hr1 x1 itr_ok⟩
theorem yi_range2 {a b : Int} (h : YA K tas δ m [.int a, .int b] m1) (hn : -(2 ^ 62) ≤ a ∧ a < 2 ^ 62 ∧ -(2 ^ 62) ≤ b ∧ b < 2 ^ 62) : YI K Any (iRng2 tas) δ m (rng a (b - a).toNat) m1 := fun r F H σ hr er R q =>
  h r F H σ hr er _ fun vs r1 F1 H1 hr1 x1 p1 => by
    cases p1 with
    | cons p p1 => cases p1 with
      | cons p' p1 => cases p1; cases p; cases p'; exact ⟨a, b, rfl, hn, q _ r1 F1 H1 hr1 x1 itr_ok⟩

/-! ### for -/
/-- how a turn that leaves the loop ends it -/
inductive LoopX : Out → Out → Prop
  | rt {d : D} {m : Store} : LoopX (.rt d m) (.rt d m)
  | bk {δ : En} {m : Store} : LoopX (.bk δ m) (.nx δ m)
  | ex {C : Value} {δ : En} {m : Store} : LoopX (.ex C δ m) (.ex C δ m)
/-- a turn's end -/
inductive TurnX (δ : En) (m : Store) : Out → Prop
  | nx {δ' : En} : Weak δ' δ → TurnX δ m (.nx δ' m)
  | ct {δ' : En} : Weak δ' δ → TurnX δ m (.ct δ' m)
theorem ys_forG {C : Store → Prop} {wi : TI} {xs : List D} (hi : YI K C wi δ m xs m1) (n : Nat) (δs : Nat → En) (ms : Nat → Store) (h0 : Weak δ (δs 0)) (e0 : ms 0 = m1) (hC : ∀ i, i ≤ n → C (ms i)) (hn : n ≤ xs.length)
    (step : ∀ i d, i < n → xs[i]? = some d → ∃ δ' o', YG K g d (δs i) δ' ∧ YS K W t δ' (ms i) o' ∧ TurnX (δs (i + 1)) (ms (i + 1)) o')
    (last : (n = xs.length ∧ o = .nx (δs n) (ms n)) ∨ ∃ d δ' o', xs[n]? = some d ∧ YG K g d (δs n) δ' ∧ YS K W t δ' (ms n) o' ∧ LoopX o' o) : YS K W (tFor wi g t) δ m o := fun r F H σ D hr er q =>
  hi r F H σ hr er _ fun J r1 F1 H1 hr1 x1 ok => by
    subst e0
    let Pv : Nat → L2.St → Hp → Prop := fun i σ' H' => ∃ r' F', HR K r' F' H' (ms i) ∧ ER K r' F' σ' (δs i) ∧ Ext r F H m r' F' H' (ms i) ∧ Pre r1 r' ∧ Same F1 F'
    refine ⟨fun i mm σ' H' => mm = xs.length - i ∧ i ≤ n ∧ Pv i σ' H', ⟨xs.length, by simp, Nat.zero_le _, r1, F1, hr1, (er.ext x1).weak h0, x1, Pre.refl _, Same.refl _⟩, ?_⟩
    rintro i mm σ' H' ⟨rfl, hin, r', F', hr', er', x', pr', sm'⟩
    obtain ⟨go, stop⟩ := ok r' F' H' (ms i) pr' sm' hr' (hC i hin) i
    have body : ∀ (d : DL.D) (δ' : En) (o' : Out) (N : L2.St → Hp → Prop) x H'', YG K g d (δs i) δ' → YS K W t δ' (ms i) o' → (∃ F'', HR K r' F'' H'' (ms i) ∧ Ext r' F' H' (ms i) r' F'' H'' (ms i) ∧ Rep K r' F'' x d) →
        (∀ r2 F2 H2, Ext r F H m r2 F2 H2 (ms i) → r2.length = (ms i).length → Pre r1 r2 → Same F1 F2 → OutOk K W r2 F2 H2 (ms i) { D with nx := N, ct := N, bk := D.nx } o') → g x σ' H'' fun σ2 H2 => t { D with nx := N, ct := N, bk := D.nx } σ2 H2 := by
      rintro d δ' o' N x H'' hg hs ⟨F'', hr2, x2, p2⟩ hq
      refine hg r' F'' H'' (ms i) σ' x hr2 (er'.ext x2) p2 _ fun σ2 er2 => hs r' F'' H'' σ2 _ hr2 er2 (hq r' F'' H'' (x'.trans hr'.len hr.len x2) hr2.len pr' (sm'.trans x2.sub))
    by_cases hlt : i < n
    · have hx : i < xs.length := Nat.lt_of_lt_of_le hlt hn
      have ed : xs[i]? = some xs[i] := List.getElem?_eq_getElem hx
      obtain ⟨hgo, hy⟩ := go _ ed
      obtain ⟨δ', o', hg, hs, hT⟩ := step i _ hlt ed
      refine .inr ⟨hgo, Pv (i + 1), fun σ2 H2 p2 => ⟨xs.length - (i + 1), by omega, rfl, hlt, p2⟩, fun x H'' y => body _ δ' o' _ x H'' hg hs (hy x H'' y) fun r2 F2 H2 x2 l2 pr2 sm2 => ?_⟩
      cases hT with
      | nx w => exact fun σ3 r3 F3 H3 hr3 er3 x3 => ⟨r3, F3, hr3, er3.weak w, x2.trans l2 hr.len x3, pr2.trans x3.pre, sm2.trans x3.sub⟩
      | ct w => exact fun σ3 r3 F3 H3 hr3 er3 x3 => ⟨r3, F3, hr3, er3.weak w, x2.trans l2 hr.len x3, pr2.trans x3.pre, sm2.trans x3.sub⟩
    · have hi' : i = n := by omega
      subst hi'
      rcases last with ⟨e, rfl⟩ | ⟨d, δ', o', ed, hg, hs, hX⟩
      · exact .inl ⟨stop (by omega), q σ' r' F' H' hr' er' x'⟩
      · obtain ⟨hgo, hy⟩ := go _ ed
        refine .inr ⟨hgo, fun _ _ => False, fun σ2 H2 p2 => p2.elim, fun x H'' y => body _ δ' o' _ x H'' hg hs (hy x H'' y) fun r2 F2 H2 x2 l2 pr2 sm2 => ?_⟩
        cases hX with
        | rt => exact fun v r3 F3 H3 hr3 x3 p3 => q v r3 F3 H3 hr3 (x2.trans l2 hr.len x3) p3
        | bk => exact fun σ3 r3 F3 H3 hr3 er3 x3 => q σ3 r3 F3 H3 hr3 er3 (x2.trans l2 hr.len x3)
        | ex => exact fun σ3 r3 F3 H3 hr3 er3 x3 => q σ3 r3 F3 H3 hr3 er3 (x2.trans l2 hr.len x3)
/-- while: st by the turn's number -/
theorem ys_while (n : Nat) (δs : Nat → En) (ms : Nat → Store) (h0 : Weak δ (δs 0)) (e0 : ms 0 = m)
    (step : ∀ i, i < n → ∃ m1 o', YT K tt (δs i) (ms i) true m1 ∧ YS K W t (δs i) m1 o' ∧ TurnX (δs (i + 1)) (ms (i + 1)) o')
    (last : (∃ m1, YT K tt (δs n) (ms n) false m1 ∧ o = .nx (δs n) m1) ∨ ∃ m1 o', YT K tt (δs n) (ms n) true m1 ∧ YS K W t (δs n) m1 o' ∧ LoopX o' o) : YS K W (tWhile tt t) δ m o := fun r F H σ D hr er q => by
    subst e0
    let Pv : Nat → L2.St → Hp → Prop := fun i σ' H' => ∃ r' F', HR K r' F' H' (ms i) ∧ ER K r' F' σ' (δs i) ∧ Ext r F H (ms 0) r' F' H' (ms i)
    refine ⟨fun mm σ' H' => ∃ i, mm = n - i ∧ i ≤ n ∧ Pv i σ' H', ⟨n, 0, by simp, Nat.zero_le _, r, F, hr, er.weak h0, Ext.refl hr⟩, ?_⟩
    rintro mm σ' H' ⟨i, rfl, hin, r', F', hr', er', x'⟩
    by_cases hlt : i < n
    · obtain ⟨m1, o', ht, hs, hT⟩ := step i hlt
      refine ht r' F' H' σ' hr' er' _ fun r2 F2 H2 hr2 x2 => ?_
      rw [if_pos rfl]
      refine ⟨Pv (i + 1), fun σ3 H3 p3 => ⟨n - (i + 1), by omega, i + 1, rfl, hlt, p3⟩, hs r2 F2 H2 σ' _ hr2 (er'.ext x2) ?_⟩
      have x02 := x'.trans hr'.len hr.len x2
      cases hT with
      | nx w => exact fun σ3 r3 F3 H3 hr3 er3 x3 => ⟨r3, F3, hr3, er3.weak w, x02.trans hr2.len hr.len x3⟩
      | ct w => exact fun σ3 r3 F3 H3 hr3 er3 x3 => ⟨r3, F3, hr3, er3.weak w, x02.trans hr2.len hr.len x3⟩
    · have hi' : i = n := by omega
      subst hi'
      rcases last with ⟨m1, ht, rfl⟩ | ⟨m1, o', ht, hs, hX⟩
      · refine ht r' F' H' σ' hr' er' _ fun r2 F2 H2 hr2 x2 => ?_
        rw [if_neg Bool.false_ne_true]
        exact q σ' r2 F2 H2 hr2 (er'.ext x2) (x'.trans hr'.len hr.len x2)
      · refine ht r' F' H' σ' hr' er' _ fun r2 F2 H2 hr2 x2 => ?_
        rw [if_pos rfl]
        have x02 := x'.trans hr'.len hr.len x2
        refine ⟨fun _ _ => False, fun σ3 H3 p3 => p3.elim, hs r2 F2 H2 σ' _ hr2 (er'.ext x2) ?_⟩
        cases hX with
        | rt => exact fun v r3 F3 H3 hr3 x3 p3 => q v r3 F3 H3 hr3 (x02.trans hr2.len hr.len x3) p3
        | bk => exact fun σ3 r3 F3 H3 hr3 er3 x3 => q σ3 r3 F3 H3 hr3 er3 (x02.trans hr2.len hr.len x3)
        | ex => exact fun σ3 r3 F3 H3 hr3 er3 x3 => q σ3 r3 F3 H3 hr3 er3 (x02.trans hr2.len hr.len x3)
end
end DL
namespace DL
open PySem PySem.Spec PyProof.Rows L2

/-! ### comprehensions -/
theorem wipe_get {σ : L2.St} {i : Nat} : ∀ {vs : List Nat}, (wipe σ vs)[i]? = if i ∈ vs then (if i < σ.length then some none else none) else σ[i]?
  | [] => by simp [wipe]
  | v :: vs => by
    unfold wipe
    by_cases hv : v = i
    · subst hv
      by_cases hl : v < σ.length
      · rw [List.getElem?_set_self (by rw [wipe_length]; exact hl)]; simp [hl]
      · rw [List.getElem?_eq_none (by rw [List.length_set, wipe_length]; omega)]; simp [hl]
    · rw [List.getElem?_set_ne hv, wipe_get (vs := vs)]
      have : (i ∈ v :: vs) ↔ i ∈ vs := by simp [Ne.symm hv]
      simp [this]
theorem wipe_set {σ : L2.St} {j : Nat} {x : Option V} {vs : List Nat} (h : j ∈ vs) : wipe (σ.set j x) vs = wipe σ vs := by
  apply List.ext_getElem?
  intro i
  rw [wipe_get, wipe_get]
  by_cases hi : i ∈ vs
  · simp [hi]
  · have : j ≠ i := fun e => hi (e ▸ h)
    simp [hi, List.getElem?_set_ne this]
theorem wipe_wipe {σ : L2.St} {vs : List Nat} : wipe (wipe σ vs) vs = wipe σ vs := by
  apply List.ext_getElem?
  intro i
  rw [wipe_get, wipe_length, wipe_get]
  by_cases hi : i ∈ vs <;> simp [hi]
def wipeE (δ : En) : List Nat → En
  | [] => δ
  | v :: vs => (wipeE δ vs).set v none
theorem wipeE_len (δ : En) : ∀ vs : List Nat, (wipeE δ vs).length = δ.length
  | [] => rfl
  | v :: vs => by unfold wipeE; rw [List.length_set, wipeE_len δ vs]
theorem wipeE_some {δ : En} {i : Nat} {d : D} : ∀ {vs : List Nat}, (wipeE δ vs)[i]? = some (some d) → δ[i]? = some (some d) ∧ i ∉ vs
  | [], h => ⟨h, by simp⟩
  | v :: vs, h => by
    unfold wipeE at h
    by_cases hi : v = i
    · subst hi
      by_cases hv : v < (wipeE δ vs).length
      · rw [List.getElem?_set_self hv] at h; cases h
      · rw [List.getElem?_eq_none (by simpa using hv)] at h; cases h
    · rw [List.getElem?_set_ne hi] at h
      obtain ⟨h1, h2⟩ := wipeE_some h
      exact ⟨h1, by simp only [List.mem_cons, not_or]; exact ⟨fun e => hi e.symm, h2⟩⟩
theorem ER.wipe {K : PySem.W.Frag} {r : List Addr} {F : Hp} {σ : L2.St} {δ : En} (h : ER K r F σ δ) (vs : List Nat) : ER K r F (L2.wipe σ vs) (wipeE δ vs) := by
  refine ⟨by rw [wipe_length, wipeE_len]; exact h.1, fun i d e => ?_⟩
  obtain ⟨e1, e2⟩ := wipeE_some e
  obtain ⟨v, q, p⟩ := h.2 i d e1
  exact ⟨v, by rw [wipe_get]; simp [e2, q], p⟩
/-- a target whose slots are vs's -/
def YGw (K : PySem.W.Frag) (vs : List Nat) (g : TG) (d : D) (δ δ' : En) : Prop := ∀ r F H m σ v, HR K r F H m → ER K r F σ δ → Rep K r F v d → ∀ Q : L2.St → Hp → Prop, (∀ σ', ER K r F σ' δ' → wipe σ' vs = wipe σ vs → Q σ' H) → g v σ H Q
def YGws (K : PySem.W.Frag) (vs : List Nat) (g : TGs) (ds : List D) (δ δ' : En) : Prop := ∀ r F H m σ ws, HR K r F H m → ER K r F σ δ → RepAll K r F ws ds → ∀ Q : L2.St → Hp → Prop, (∀ σ', ER K r F σ' δ' → wipe σ' vs = wipe σ vs → Q σ' H) → g ws σ H Q
section
variable {K : PySem.W.Frag} {W : WX} {te ta tb : TE} {tt : TT} {t u : TS} {g : TG} {gs : TGs} {δ δ1 δ2 : En} {m m1 m2 m3 : Store} {d e : D} {o : Out} {tas : TA} {vs : List Nat}
theorem ygw_name {i : Nat} (h : i ∈ vs) : YGw K vs (gName i) d δ (δ.set i (some d)) := fun r F H m σ v hr er p Q q => q _ (er.set i p) (wipe_set h)
theorem ygws_nil : YGws K vs gNil [] δ δ := fun r F H m σ ws hr er p Q q => by cases p; exact ⟨rfl, q σ er rfl⟩
theorem ygws_cons {ds : List D} (h : YGw K vs g d δ δ1) (hs : YGws K vs gs ds δ1 δ2) : YGws K vs (gCons g gs) (d :: ds) δ δ2 := fun r F H m σ ws hr er p Q q => by
  cases p with
  | cons p1 p2 => exact ⟨_, _, rfl, h r F H m σ _ hr er p1 _ fun σ1 er1 w1 => hs r F H m σ1 _ hr er1 p2 Q fun σ2 er2 w2 => q σ2 er2 (w2.trans w1)⟩
theorem ygw_tup {ds : List D} {n : Nat} (hl : ds.length = n) (h : YGws K vs gs ds δ δ1) : YGw K vs (gTup K n gs) (.tup ds) δ δ1 := fun r F H m σ v hr er p Q q => by
  cases p with
  | tup hs ha => exact ⟨_, _, rfl, SqT.of (hr.sub _ _ hs), ha.len.trans hl, h r F H m σ _ hr er ha Q q⟩
/-- a side object through the work -/
theorem Ext.side_keep {r r' : List Addr} {F F' H H' : Hp} {m' : Store} (x : Ext r F H m r' F' H' m') (hl : r.length = m.length) {p : Addr} {o : HO} (hp : H p = some o) (fp : F p = none) (np : ∀ (k : Nat), live m k → r[k]? ≠ some p) :
    H' p = some o ∧ F' p = none ∧ ∀ (k : Nat), live m' k → r'[k]? ≠ some p := by
  refine ⟨x.keep p o hp np, ?_, fun k l e => ?_⟩
  · cases q : F' p with
    | none => rfl
    | some u =>
      rcases x.new p fp (by rw [q]; exact fun z => nomatch z) with z | ⟨k, l, z⟩
      · rw [hp] at z; cases z
      · exact absurd z (np k l)
  · by_cases hk : k < m.length
    · have hr : k < r.length := by rw [hl]; exact hk
      have e1 : r[k]? = some r[k] := List.getElem?_eq_getElem hr
      have e2 := x.pre k _ e1
      rw [e] at e2
      exact np k (x.dead k hk l) (by rw [e1, ← e2])
    · have := x.fresh k p (Nat.not_lt.mp hk) e
      rw [hp] at this; cases this
theorem Ext.sideSet {r r' : List Addr} {F F' H H' : Hp} {m' : Store} (x : Ext r F H m r' F' H' m') {p : Addr} {o : HO} (hp : H p = none) : Ext r F H m r' F' (upd H' p o) m' where
  pre := x.pre
  sub := x.sub
  keep := fun a u e n => by rw [upd_ne (ne_of_none e hp)]; exact x.keep a u e n
  new := x.new
  fresh := x.fresh
  dead := x.dead
  mlen := x.mlen
  trk := fun a u e => by rw [upd_ne (ne_of_none e hp)]; exact x.trk a u e
theorem yn_lcG {C : Store → Prop} {wi : TI} {xs : List D} (hi : YI K C wi δ m xs m1) (ms : Nat → Store) (outs : Nat → List D) (e0 : ms 0 = m1) (o0 : outs 0 = []) (hC : ∀ i, i ≤ xs.length → C (ms i)) (hl : ∀ i, i ≤ xs.length → (outs i).length < 100000)
    (step : ∀ i d, xs[i]? = some d → ∃ δ' b m', YGw K vs g d (wipeE δ vs) δ' ∧ YT K tt δ' (ms i) b m' ∧ (b = true → ∃ z, YE K te δ' m' z (ms (i + 1)) ∧ outs (i + 1) = outs i ++ [z]) ∧ (b = false → m' = ms (i + 1) ∧ outs (i + 1) = outs i)) :
    YN K (tLc wi g tt te vs) δ m (outs xs.length) (ms xs.length) := fun r F H σ hr er Q q =>
  hi r F H σ hr er _ fun J r1 F1 H1 hr1 x1 ok Dl hD => by
    subst e0
    have hD0 : H Dl = none := trk_back x1 hD
    let Pv : Nat → Hp → Prop := fun i H' => ∃ r' F' ws, HR K r' F' H' (ms i) ∧ Ext r F H m r' F' H' (ms i) ∧ Pre r1 r' ∧ Same F1 F' ∧ H' Dl = some (.lst ws) ∧ RepAll K r' F' ws (outs i) ∧ F' Dl = none ∧ ∀ (k : Nat), live (ms i) k → r'[k]? ≠ some Dl
    refine ⟨fun i mm H' => mm = xs.length - i ∧ i ≤ xs.length ∧ Pv i H', ⟨xs.length, by simp, Nat.zero_le _, r1, F1, [], hr1.side hD, x1.trans hr1.len hr.len (Ext.side hr1 hD), Pre.refl _, Same.refl _, upd_same, by rw [o0]; exact .nil, hr1.sub.free hD, fun k l e => (hr1.ne_new hD l e) rfl⟩, ?_⟩
    rintro i mm H' ⟨rfl, hin, r', F', ws, hr', x', pr', sm', hw, ra, fD, nD⟩
    obtain ⟨go, stop⟩ := ok r' F' H' (ms i) pr' sm' hr' (hC i hin) i
    by_cases hlt : i < xs.length
    · have ed : xs[i]? = some xs[i] := List.getElem?_eq_getElem hlt
      obtain ⟨hgo, hy⟩ := go _ ed
      obtain ⟨δ', b, m', hg, ht, hyes, hno⟩ := step i _ ed
      refine .inr ⟨hgo, Pv (i + 1), fun H2 p2 => ⟨xs.length - (i + 1), by omega, rfl, hlt, p2⟩, fun x H'' y => ?_⟩
      obtain ⟨F2, hr2, x2, p2⟩ := hy x H'' y
      have er2 : ER K r' F2 (wipe σ vs) (wipeE δ vs) := ((er.ext x').ext x2).wipe vs
      obtain ⟨hw2, fD2, nD2⟩ := x2.side_keep hr'.len hw fD nD
      refine hg r' F2 H'' (ms i) (wipe σ vs) x hr2 er2 p2 _ fun σ3 er3 w3 => ⟨w3.trans wipe_wipe, ?_⟩
      refine ht r' F2 H'' σ3 hr2 er3 _ fun r4 F4 H4 hr4 x4 => ?_
      have x24 := x2.trans hr2.len hr'.len x4
      obtain ⟨hw4, fD4, nD4⟩ := x24.side_keep hr'.len hw fD nD
      have x04 := x'.trans hr'.len hr.len x24
      cases b with
      | true =>
        rw [if_pos rfl]
        obtain ⟨z, he, eo⟩ := hyes rfl
        refine he r4 F4 H4 σ3 hr4 (er3.ext x4) _ fun v r5 F5 H5 hr5 x5 p5 => ?_
        obtain ⟨hw5, fD5, nD5⟩ := x5.side_keep hr4.len hw4 fD4 nD4
        have ra5 := (ra.mono x24.pre x24.sub).mono x5.pre x5.sub
        refine ⟨ws, hw5, Evl.sz_lt (by rw [ra.len]; exact hl i hin), r5, F5, ws ++ [v], hr5.sideSet fD5 nD5 (fun b z => by rw [hw5] at z; cases z), (x04.trans hr4.len hr.len x5).sideSet hD0, (pr'.trans x24.pre).trans x5.pre, (sm'.trans x24.sub).trans x5.sub, upd_same, ?_, fD5, nD5⟩
        rw [eo]; exact ra5.app (.one p5)
      | false =>
        rw [if_neg Bool.false_ne_true]
        obtain ⟨em, eo⟩ := hno rfl
        subst em
        exact ⟨r4, F4, ws, hr4, x04, pr'.trans x24.pre, sm'.trans x24.sub, hw4, by rw [eo]; exact ra.mono x24.pre x24.sub, fD4, nD4⟩
    · have hi' : i = xs.length := by omega
      subst hi'
      exact .inl ⟨stop (Nat.le_refl _), q Dl ws r' F' H' hr' x' hD0 fD nD hw ra⟩
theorem yt_yes : YT K tYes δ m true m := fun r F H σ hr er Q q => q r F H hr (Ext.refl hr)
/-- a comprehension that changes no cell, over typed items -/
theorem yn_lc {α : Type} {C : Store → Prop} {wi : TI} (ys : List α) (en : α → D) (p : α → Bool) (f : α → D) (hi : YI K C wi δ m (ys.map en) m1) (hC : C m1) (hl : ys.length < 100000)
    (step : ∀ y ∈ ys, ∃ δ', YGw K vs g (en y) (wipeE δ vs) δ' ∧ YT K tt δ' m1 (p y) m1 ∧ (p y = true → YE K te δ' m1 (f y) m1)) : YN K (tLc wi g tt te vs) δ m ((ys.filter p).map f) m1 := by
  have key := yn_lcG (K := K) (g := g) (tt := tt) (te := te) (vs := vs) hi (fun _ => m1) (fun i => ((ys.take i).filter p).map f) rfl (by simp) (fun _ _ => hC) (fun i _ => by
    rw [List.length_map]
    refine Nat.lt_of_le_of_lt (List.length_filter_le _ _) ?_
    rw [List.length_take]; omega) (fun i d hd => by
      rw [List.getElem?_map] at hd
      cases e : ys[i]? with
      | none => rw [e] at hd; cases hd
      | some y =>
        rw [e] at hd; cases hd
        obtain ⟨δ', h1, h2, h3⟩ := step y (List.mem_of_getElem? e)
        have et : ys.take (i + 1) = ys.take i ++ [y] := by rw [List.take_add_one, e]; rfl
        refine ⟨δ', p y, m1, h1, h2, fun hp => ⟨f y, h3 hp, ?_⟩, fun hp => ⟨rfl, ?_⟩⟩
        · show ((ys.take (i + 1)).filter p).map f = _
          rw [et, List.filter_append, List.map_append]; simp [hp]
        · show ((ys.take (i + 1)).filter p).map f = _
          rw [et, List.filter_append, List.map_append]; simp [hp])
  have e : ((ys.take (ys.map en).length).filter p).map f = (ys.filter p).map f := by rw [List.length_map, List.take_length]
  rw [← e]
  exact key
/-- .. without a test -/
theorem yn_lcM {α : Type} {C : Store → Prop} {wi : TI} (ys : List α) (en : α → D) (f : α → D) (hi : YI K C wi δ m (ys.map en) m1) (hC : C m1) (hl : ys.length < 100000)
    (step : ∀ y ∈ ys, ∃ δ', YGw K vs g (en y) (wipeE δ vs) δ' ∧ YE K te δ' m1 (f y) m1) : YN K (tLc wi g tYes te vs) δ m (ys.map f) m1 := by
  have := yn_lc (K := K) (g := g) (tt := tYes) (te := te) (vs := vs) ys en (fun _ => true) f hi hC hl fun y hy => by
    obtain ⟨δ', h1, h2⟩ := step y hy
    exact ⟨δ', h1, yt_yes, fun _ => h2⟩
  rwa [List.filter_eq_self.mpr (fun _ _ => rfl)] at this

/-! ### calls and defs -/
inductive Res where
  | ok (d : D)
  | ex (C : Value)
abbrev Spec := List D → Store → Res → Store → Prop
def ResOk (K : PySem.W.Frag) (r : List Addr) (F H : Hp) (m : Store) (Q : VK) (E : XK) (m' : Store) : Res → Prop
  | .ok d => Post1 K r F H m d m' Q
  | .ex C => ∀ r' F' H', HR K r' F' H' m' → Ext r F H m r' F' H' m' → E C none H'
def spD (K : PySem.W.Frag) (S : Spec) : Sp := fun vs H Q E => ∃ r F m ds res m', HR K r F H m ∧ RepAll K r F vs ds ∧ S ds m res m' ∧ ResOk K r F H m Q E m' res
theorem ye_call {S : Spec} {ds : List D} (ha : YA K tas δ m ds m1) (hs : S ds m1 (.ok d) m2) : YE K (tCall (spD K S) [] E0 tas) δ m d m2 := fun r F H σ hr er Q q =>
  ha r F H σ hr er _ fun ws r1 F1 H1 hr1 x1 p1 => by
    show spD K S (ws ++ []) H1 Q E0
    rw [List.append_nil]
    exact ⟨r1, F1, m1, ds, .ok d, m2, hr1, p1, hs, fun v r2 F2 H2 hr2 x2 p2 => q v r2 F2 H2 hr2 (x1.trans hr1.len hr.len x2) p2⟩
theorem ye_callS {S : Spec} {ds : List D} {E : L2.St → XK} (ha : YA K tas δ m ds m1) (hs : S ds m1 (.ok d) m2) : YE K (tCallS (spD K S) E tas) δ m d m2 := fun r F H σ hr er Q q =>
  ha r F H σ hr er _ fun ws r1 F1 H1 hr1 x1 p1 =>
    ⟨r1, F1, m1, ds, .ok d, m2, hr1, p1, hs, fun v r2 F2 H2 hr2 x2 p2 => q v r2 F2 H2 hr2 (x1.trans hr1.len hr.len x2) p2⟩

end
mutual
/-- its cells are below n -/
def D.und (n : Nat) : D → Bool
  | .lst xs => D.unds n xs
  | .tup xs => D.unds n xs
  | .cell k => decide (k < n)
  | _ => true
def D.unds (n : Nat) : List D → Bool
  | [] => true
  | d :: ds => D.und n d && D.unds n ds
end
mutual
theorem D.pure_und (n : Nat) : ∀ d : D, d.pure = true → d.und n = true
  | .non, _ => rfl
  | .bl _, _ => rfl
  | .int _, _ => rfl
  | .str _, _ => rfl
  | .scr _, _ => rfl
  | .cell _, h => nomatch h
  | .exc _, h => nomatch h
  | .lst xs, h => D.pures_und n xs h
  | .tup xs, h => D.pures_und n xs h
theorem D.pures_und (n : Nat) : ∀ ds : List D, D.pures ds = true → D.unds n ds = true
  | [], _ => rfl
  | d :: ds, h => by
    have q : (D.pure d && D.pures ds) = true := h
    show (D.und n d && D.unds n ds) = true
    rw [D.pure_und n d (Bool.and_eq_true_iff.mp q).1, D.pures_und n ds (Bool.and_eq_true_iff.mp q).2]; rfl
end
mutual
theorem D.und_mono {n n' : Nat} (h : n ≤ n') : ∀ d : D, d.und n = true → d.und n' = true
  | .non, _ => rfl
  | .bl _, _ => rfl
  | .int _, _ => rfl
  | .str _, _ => rfl
  | .scr _, _ => rfl
  | .exc _, _ => rfl
  | .cell k, q => by
    have : k < n := of_decide_eq_true q
    exact decide_eq_true (by omega)
  | .lst xs, q => D.unds_mono h xs q
  | .tup xs, q => D.unds_mono h xs q
theorem D.unds_mono {n n' : Nat} (h : n ≤ n') : ∀ ds : List D, D.unds n ds = true → D.unds n' ds = true
  | [], _ => rfl
  | d :: ds, q => by
    have q : (D.und n d && D.unds n ds) = true := q
    show (D.und n' d && D.unds n' ds) = true
    rw [D.und_mono h d (Bool.and_eq_true_iff.mp q).1, D.unds_mono h ds (Bool.and_eq_true_iff.mp q).2]; rfl
end
section
variable {K : PySem.W.Frag} {r : List Addr} {F : Hp} {n : Nat}
mutual
theorem Rep.und : ∀ {v : V} {d : D}, Rep K r F v d → d.und r.length = true
  | _, _, .non => rfl
  | _, _, .bl _ => rfl
  | _, _, .int _ => rfl
  | _, _, .str _ => rfl
  | _, _, .scr _ => rfl
  | _, _, .exc _ => rfl
  | _, _, .lst _ h => RepAll.und h
  | _, _, .tup _ h => RepAll.und h
  | _, _, .cell h => decide_eq_true (List.getElem?_eq_some_iff.mp h).1
theorem RepAll.und : ∀ {vs : List V} {ds : List D}, RepAll K r F vs ds → D.unds r.length ds = true
  | _, _, .nil => rfl
  | _, _, .cons h t => by
    show (D.und _ _ && D.unds _ _) = true
    rw [Rep.und h, RepAll.und t]; rfl
end
mutual
theorem Rep.cut : ∀ {v : V} {d : D}, d.und n = true → Rep K r F v d → Rep K (r.take n) F v d
  | _, _, _, .non => .non
  | _, _, _, .bl b => .bl b
  | _, _, _, .int i => .int i
  | _, _, _, .str x => .str x
  | _, _, _, .scr h => .scr h
  | _, _, _, .exc h => .exc h
  | _, _, p, .lst s h => .lst s (RepAll.cut p h)
  | _, _, p, .tup s h => .tup s (RepAll.cut p h)
  | _, _, p, .cell h => .cell (by rw [List.getElem?_take, if_pos (of_decide_eq_true p)]; exact h)
theorem RepAll.cut : ∀ {vs : List V} {ds : List D}, D.unds n ds = true → RepAll K r F vs ds → RepAll K (r.take n) F vs ds
  | _, _, _, .nil => .nil
  | _, _, p, .cons h t =>
    have q : (D.und n _ && D.unds n _) = true := p
    .cons (Rep.cut (Bool.and_eq_true_iff.mp q).1 h) (RepAll.cut (Bool.and_eq_true_iff.mp q).2 t)
end
end
def belowF (n : Nat) (fs : List (Str × D)) : Bool := fs.all fun p => p.2.und n
def belowK (n : Nat) (fs : List (Key × D)) : Bool := fs.all fun p => p.2.und n
def Cell.und (n : Nat) : Cell → Bool
  | .lst xs => D.unds n xs
  | .ins _ fs => belowF n fs
  | .dK kvs => belowK n kvs
  | .gone => true
  | .fz kvs => belowK n kvs
theorem belowF_mono {n n' : Nat} (h : n ≤ n') {fs : List (Str × D)} (q : belowF n fs = true) : belowF n' fs = true := List.all_eq_true.mpr fun p hp => D.und_mono h _ (List.all_eq_true.mp q p hp)
theorem belowK_mono {n n' : Nat} (h : n ≤ n') {fs : List (Key × D)} (q : belowK n fs = true) : belowK n' fs = true := List.all_eq_true.mpr fun p hp => D.und_mono h _ (List.all_eq_true.mp q p hp)
theorem Cell.und_mono {n n' : Nat} (h : n ≤ n') : ∀ {c : Cell}, c.und n = true → c.und n' = true
  | .lst xs, q => D.unds_mono h xs q
  | .ins _ fs, q => belowF_mono h q
  | .dK kvs, q => belowK_mono h q
  | .gone, _ => rfl
  | .fz kvs, q => belowK_mono h q
section
variable {K : PySem.W.Frag} {r : List Addr} {F H : Hp} {n : Nat} {m m' m0 loc : Store}
theorem RepF.und : ∀ {gs : List (Str × V)} {fs : List (Str × D)}, RepF K r F gs fs → belowF r.length fs = true
  | [], [], _ => rfl
  | (_, _) :: gs, (_, _) :: fs, h => by
    show ((D.und _ _) && belowF _ fs) = true
    rw [h.2.1.und, RepF.und h.2.2]; rfl
  | [], _ :: _, h => h.elim
  | _ :: _, [], h => h.elim
theorem RepK.und : ∀ {gs : List (Key × V)} {fs : List (Key × D)}, RepK K r F gs fs → belowK r.length fs = true
  | [], [], _ => rfl
  | (_, _) :: gs, (_, _) :: fs, h => by
    show ((D.und _ _) && belowK _ fs) = true
    rw [h.2.1.und, RepK.und h.2.2]; rfl
  | [], _ :: _, h => h.elim
  | _ :: _, [], h => h.elim
theorem RepF.cut : ∀ {gs : List (Str × V)} {fs : List (Str × D)}, belowF n fs = true → RepF K r F gs fs → RepF K (r.take n) F gs fs
  | [], [], _, _ => trivial
  | (_, _) :: gs, (_, _) :: fs, q, h => by
    have q : (D.und n _ && belowF n fs) = true := q
    exact ⟨h.1, h.2.1.cut (Bool.and_eq_true_iff.mp q).1, RepF.cut (Bool.and_eq_true_iff.mp q).2 h.2.2⟩
  | [], _ :: _, _, h => h.elim
  | _ :: _, [], _, h => h.elim
theorem RepK.cut : ∀ {gs : List (Key × V)} {fs : List (Key × D)}, belowK n fs = true → RepK K r F gs fs → RepK K (r.take n) F gs fs
  | [], [], _, _ => trivial
  | (_, _) :: gs, (_, _) :: fs, q, h => by
    have q : (D.und n _ && belowK n fs) = true := q
    exact ⟨h.1, h.2.1.cut (Bool.and_eq_true_iff.mp q).1, RepK.cut (Bool.and_eq_true_iff.mp q).2 h.2.2⟩
  | [], _ :: _, _, h => h.elim
  | _ :: _, [], _, h => h.elim
theorem CellOk.und {a : Addr} : ∀ {c : Cell}, CellOk K r F H a c → c.und r.length = true
  | .lst xs, ⟨vs, h, q⟩ => q.und
  | .ins C fs, ⟨dx, gs, h, h2, q⟩ => q.und
  | .dK kvs, ⟨gs, h, q⟩ => q.und
  | .gone, _ => rfl
  | .fz _, h => h.elim
theorem CellOk.cut {a : Addr} : ∀ {c : Cell}, c.und n = true → CellOk K r F H a c → CellOk K (r.take n) F H a c
  | .lst xs, b, ⟨vs, h, q⟩ => ⟨vs, h, q.cut b⟩
  | .ins C fs, b, ⟨dx, gs, h, h2, q⟩ => ⟨dx, gs, h, h2, q.cut b⟩
  | .dK kvs, b, ⟨gs, h, q⟩ => ⟨gs, h, q.cut b⟩
  | .gone, _, _ => trivial
  | .fz _, _, h => h.elim
theorem HR.und (h : HR K r F H m) {k : Nat} {c : Cell} (e : m[k]? = some c) : c.und m.length = true := by
  have hk : k < r.length := by rw [h.len]; exact (List.getElem?_eq_some_iff.mp e).1
  have on : c.on = true → c.und m.length = true := fun ng => by
    have := (h.cell k r[k] c (List.getElem?_eq_getElem hk) e ng).2.und
    rwa [h.len] at this
  cases c with
  | gone => rfl
  | fz kvs =>
    obtain ⟨od, gs, q1, q2⟩ := h.fz k r[k] kvs (List.getElem?_eq_getElem hk) e
    have := q2.und
    rwa [h.len] at this
  | lst xs => exact on rfl
  | ins C fs => exact on rfl
  | dK kvs => exact on rfl
/-- every cell of m' is m's, or its cells are below m''s length -/
def Tidy (m m' : Store) : Prop := m.length ≤ m'.length ∧ ∀ (k : Nat) c, m'[k]? = some c → m[k]? = some c ∨ c.und m'.length = true
theorem Tidy.refl (m : Store) : Tidy m m := ⟨Nat.le_refl _, fun _ _ e => .inl e⟩
theorem Tidy.set {c : Cell} {k : Nat} (h : Tidy m m') (hc : c.und m'.length = true) : Tidy m (m'.set k c) := ⟨by simpa using h.1, fun j c' e => by
  rw [List.length_set]
  by_cases hj : k = j
  · subst hj
    have : k < (m'.set k c).length := (List.getElem?_eq_some_iff.mp e).1
    rw [List.length_set] at this
    rw [List.getElem?_set_self this] at e; cases e; exact .inr hc
  · rw [List.getElem?_set_ne hj] at e; exact h.2 j c' e⟩
theorem Tidy.app {c : Cell} (h : Tidy m m') (hc : c.und (m'.length + 1) = true) : Tidy m (m' ++ [c]) := ⟨by simp; exact Nat.le_succ_of_le h.1, fun j c' e => by
  rw [List.length_append]
  by_cases hj : j < m'.length
  · rw [List.getElem?_append_left hj] at e
    rcases h.2 j c' e with z | z
    · exact .inl z
    · exact .inr (Cell.und_mono (Nat.le_add_right _ _) z)
  · rw [List.getElem?_append_right (by omega)] at e
    cases q : j - m'.length with
    | zero => rw [q] at e; simp at e; subst e; exact .inr hc
    | succ i => rw [q] at e; simp at e⟩
theorem HR.trunc {r0 : List Addr} {F0 H0 : Hp} (h0 : HR K r0 F0 H0 m0) (ti : Tidy m0 m) (h : HR K r F H (m ++ loc)) : HR K (r.take m.length) F H m := by
  have low : ∀ (k : Nat) a, (r.take m.length)[k]? = some a → r[k]? = some a ∧ k < m.length := fun k a e => by
    rw [List.getElem?_take] at e
    split at e
    · rename_i hk; exact ⟨e, hk⟩
    · cases e
  have lv : ∀ k, live m k → live (m ++ loc) k := fun k ⟨c, e, ng⟩ => ⟨c, by rw [List.getElem?_append_left (List.getElem?_eq_some_iff.mp e).1]; exact e, ng⟩
  refine ⟨?_, h.sub, fun k a c e1 e2 ng => ?_, fun k l a e1 e2 l1 l2 => h.inj k l a (low k a e1).1 (low l a e2).1 (lv k l1) (lv l l2), fun k a kvs e1 e2 => ?_, fun k l a x y e1 e2 z1 z2 => h.fzi k l a x y (low k a e1).1 (low l a e2).1 (by rw [List.getElem?_append_left (List.getElem?_eq_some_iff.mp z1).1]; exact z1) (by rw [List.getElem?_append_left (List.getElem?_eq_some_iff.mp z2).1]; exact z2)⟩
  · rw [List.length_take]
    have := h.len
    rw [List.length_append] at this
    omega
  · obtain ⟨e1', hk⟩ := low k a e1
    obtain ⟨q1, q2⟩ := h.cell k a c e1' (by rw [List.getElem?_append_left hk]; exact e2) ng
    refine ⟨q1, q2.cut ?_⟩
    rcases ti.2 k c e2 with z | z
    · exact Cell.und_mono ti.1 (h0.und z)
    · exact z
  · obtain ⟨e1', hk⟩ := low k a e1
    obtain ⟨od, gs, q1, q2⟩ := h.fz k a kvs e1' (by rw [List.getElem?_append_left hk]; exact e2)
    refine ⟨od, gs, q1, q2.cut ?_⟩
    rcases ti.2 k _ e2 with z | z
    · exact Cell.und_mono (c := .fz kvs) ti.1 (h0.und z)
    · exact z
theorem Ext.trunc {r0 : List Addr} {F0 H0 : Hp} (hl : r0.length = m0.length) (ti : m0.length ≤ m.length) (x : Ext r0 F0 H0 m0 r F H (m ++ loc)) : Ext r0 F0 H0 m0 (r.take m.length) F H m where
  pre := fun k a e => by
    have hk : k < r0.length := (List.getElem?_eq_some_iff.mp e).1
    rw [List.getElem?_take, if_pos (by omega)]; exact x.pre k a e
  sub := x.sub
  keep := x.keep
  new := x.new
  fresh := fun k a hk e => by
    rw [List.getElem?_take] at e
    split at e
    · exact x.fresh k a hk e
    · cases e
  dead := fun k hk l => x.dead k hk (by
    obtain ⟨c, e, ng⟩ := l
    exact ⟨c, by rw [List.getElem?_append_left (List.getElem?_eq_some_iff.mp e).1]; exact e, ng⟩)
  mlen := ti
  trk := x.trk
/-- how a body's end answers a call, from the store m0 -/
inductive Fits (m0 : Store) : Out → Res → Store → Prop
  | rt {d : D} {m : Store} : Fits m0 (.rt d m) (.ok d) m
  | nx {δ : En} {m : Store} : Fits m0 (.nx δ m) (.ok .non) m
  | ex {C : Value} {δ : En} {m : Store} : Fits m0 (.ex C δ m) (.ex C) m
  | rtd {d : D} {m : Store} (loc : Store) : Tidy m0 m → d.und m.length = true → Fits m0 (.rt d (m ++ loc)) (.ok d) m
  | nxd {δ : En} {m : Store} (loc : Store) : Tidy m0 m → Fits m0 (.nx δ (m ++ loc)) (.ok .non) m
  | exd {C : Value} {δ : En} {m : Store} (loc : Store) : Tidy m0 m → Fits m0 (.ex C δ (m ++ loc)) (.ex C) m
def st (n : Nat) (ds : List D) : En := ds.map some ++ List.replicate (n - ds.length) none
abbrev startD (N : List Str) (ds : List D) : En := st N.length ds
theorem er_start {N : List Str} {vs : List V} {ds : List D} (h : RepAll K r F vs ds) : ER K r F (L2.start N vs) (startD N ds) := by
  refine ⟨by simp [L2.start, startD, st, h.len], fun i d e => ?_⟩
  unfold startD st at e
  by_cases hi : i < ds.length
  · rw [List.getElem?_append_left (by simpa using hi), List.getElem?_map] at e
    cases q : ds[i]? with
    | none => rw [q] at e; cases e
    | some d' =>
      rw [q] at e; cases e
      obtain ⟨v, e1, p⟩ := h.get q
      refine ⟨v, ?_, p⟩
      unfold L2.start
      rw [List.getElem?_append_left (by rw [List.length_map, h.len]; exact hi), List.getElem?_map, e1]; rfl
  · rw [List.getElem?_append_right (by simpa using hi), List.getElem?_replicate] at e
    split at e <;> cases e
end
/-- THE RULE for a def -/
theorem fn_okC {CX : CXT} {P : Program} {w : World} {K : PySem.W.Frag} {mg : Str → Option Value} {base : Heap} {x qual : Str} {params : Arguments} {body : List Stmt} {scope : Scope} {f : Addr} {fd : FuncData} {N ps : List Str} {k : Nat} {S : Spec}
    (F : FunD K x qual params body scope [] [] f fd) (sc : FnScope N ps scope) (hlen : ∀ ds m res m', S ds m res m' → ds.length = ps.length) (t : WX → TS)
    (hP : ∀ (cdv : Value) (A : Around) (outer : List Env) (s : Shared) (H : Hp) (E : XK), Room k (A.deeper (envOfC qual scope s.heap.objs.size f cdv)) → PSs (cxOf CX P w K mg base N qual scope f cdv A outer s H E) body (t fun cls d _ H' => E cls d H'))
    (hY : ∀ W ds m res m', S ds m res m' → ∃ o, YS K W (t W) (startD N ds) m o ∧ Fits m o res m') : FnOk P w K mg base CX (k + 1) f fd ps (spD K S) := by
  refine F.ok sc (fun vs H Q E h => ?_) (fun cdv A outer s H vs Q E hr h => ?_)
  · obtain ⟨r, F, m, ds, res, m', _, p, hs, _⟩ := h
    rw [p.len]; exact hlen _ _ _ _ hs
  · obtain ⟨r, F, m, ds, res, m', hr0, p, hs, q⟩ := h
    obtain ⟨o, hy, hf⟩ := hY (fun cls d _ H' => E cls d H') ds m res m' hs
    refine ⟨_, hP cdv A outer s H E hr, hy r F H _ _ hr0 (er_start p) ?_⟩
    cases hf with
    | rt => exact fun v r' F' H' h1 x1 p1 => q v r' F' H' h1 x1 p1
    | nx => exact fun σ' r' F' H' h1 _ x1 => q .non r' F' H' h1 x1 .non
    | ex => exact fun σ' r' F' H' h1 _ x1 => q r' F' H' h1 x1
    | rtd loc ti hb => exact fun v r' F' H' h1 x1 p1 => q v _ F' H' (hr0.trunc ti h1) (x1.trunc hr0.len ti.1) (p1.cut hb)
    | nxd loc ti => exact fun σ' r' F' H' h1 _ x1 => q .non _ F' H' (hr0.trunc ti h1) (x1.trunc hr0.len ti.1) .non
    | exd loc ti => exact fun σ' r' F' H' h1 _ x1 => q _ F' H' (hr0.trunc ti h1) (x1.trunc hr0.len ti.1)
theorem fn_ok {P : Program} {w : World} {K : PySem.W.Frag} {mg : Str → Option Value} {base : Heap} {x qual : Str} {params : Arguments} {body : List Stmt} {scope : Scope} {f : Addr} {fd : FuncData} {N ps : List Str} {k : Nat} {S : Spec}
    (F : FunD K x qual params body scope [] [] f fd) (sc : FnScope N ps scope) (hlen : ∀ ds m res m', S ds m res m' → ds.length = ps.length) (t : WX → TS)
    (hP : ∀ (cdv : Value) (A : Around) (outer : List Env) (s : Shared) (H : Hp) (E : XK), Room k (A.deeper (envOfC qual scope s.heap.objs.size f cdv)) → PSs (cxOf (L2.CX P w) P w K mg base N qual scope f cdv A outer s H E) body (t fun cls d _ H' => E cls d H'))
    (hY : ∀ W ds m res m', S ds m res m' → ∃ o, YS K W (t W) (startD N ds) m o ∧ Fits m o res m') : FnOk P w K mg base (L2.CX P w) (k + 1) f fd ps (spD K S) := fn_okC F sc hlen t hP hY
end DL
namespace DL
open PySem PySem.Spec PyProof.Rows L2
/-! ### short names of readings -/
abbrev oAdd : R2 := rI0 fun i j => .int (i + j)
abbrev oSub : R2 := rI0 fun i j => .int (i - j)
abbrev oMul : R2 := rI CMul fun i j => .int (i * j)
abbrev oDiv : R2 := rI CDivW fun i j => .int (i / j)
abbrev oMod : R2 := rI (fun _ j => 0 < j) fun i j => .int (i % j)
abbrev oPow : R2 := rI CPow fun i j => .int (i ^ j.toNat)
abbrev oLt : R2 := rI0 fun i j => .bl (decide (i < j))
abbrev oLe : R2 := rI0 fun i j => .bl (decide (i ≤ j))
abbrev oGt : R2 := rI0 fun i j => .bl (decide (j < i))
abbrev oGe : R2 := rI0 fun i j => .bl (decide (j ≤ i))
abbrev oIsN : R2 := fun x y H Q => y = .non ∧ Q (.bl (decide (x = .non))) H
abbrev oNotN : R2 := fun x y H Q => y = .non ∧ Q (.bl (!decide (x = .non))) H
abbrev oNeg : V → Hp → VK → Prop := rU fun i => .int (-i)
abbrev rMin2 : List V → Hp → VK → Prop := fun xs H Q => ∃ i j, xs = [.int i, .int j] ∧ Q (.int (if j < i then j else i)) H
abbrev rAbs : List V → Hp → VK → Prop := fun xs H Q => ∃ i, xs = [.int i] ∧ Q (.int (if i < 0 then -i else i)) H
theorem y_neg {K : PySem.W.Frag} {m : Store} {i : Int} : Y1 K oNeg (.int i) m (.int (-i)) m := fun r F H x hr p Q q => by
  cases p; exact ⟨i, rfl, post1 hr q (.int _)⟩
/-! ### what a callee is known by -/
def Cal (P : Program) (w : World) (K : PySem.W.Frag) (mg : Str → Option Value) (base : Heap) (x : Str) (k : Nat) (ps : List Str) (S : Spec) : Prop :=
  ∃ fd, FnOk P w K mg base (L2.CX P w) k (He.ga K x) fd ps (spD K S) ∧ Binds K fd ps [] ∧ PySem.W.keepIn K (.ref (He.ga K x)) = true ∧ mg x = some (.ref (He.ga K x))
section
variable {X : Cx} {k : Nat} {ps : List Str} {S : Spec} {x : Str} {p pos : Pos} {e : Expr} {es : List Expr} {t : TA}
theorem pe_own {j : Nat} (C : Cal X.prog X.w X.K X.mg X.base x j ps S) (hr : Room j X.A) (hg : Gl X x) (ha : PA X (e :: es) t) (hdb : (x == ("__debug__" : Str)) = false := by decide)
    (he : starEach (e :: es) X.env = (false, eval e X.env) :: starEach es X.env := by rfl) (hpl : (backTo pos (starEach es X.env)).any (·.1) = false := by rfl) : PE X (.Call (.Name x p) (e :: es) [] pos) (tCall (spD X.K S) [] E0 t) := by
  obtain ⟨fd, F, b, kp, m⟩ := C
  exact pe_call F hr hg m kp b .nil passL ha hdb he hpl
theorem pe_own0 {j : Nat} (C : Cal X.prog X.w X.K X.mg X.base x j ps S) (hr : Room j X.A) (hg : Gl X x) (hdb : (x == ("__debug__" : Str)) = false := by decide) : PE X (.Call (.Name x p) [] [] pos) (tCall (spD X.K S) [] E0 tNil) := by
  obtain ⟨fd, F, b, kp, m⟩ := C
  exact pe_call0 F hr hg m kp b .nil passL hdb
/-- a constant of the top -/
theorem pe_const {i : Int} {pos : Pos} (h : ∃ t, X.mg x = some (.int i t)) (hg : Gl X x) (hd : (x == ("__debug__" : Str)) = false := by decide) : PE X (.Name x pos) (tC (.int i)) := by
  obtain ⟨t, h⟩ := h
  exact pe_glob hg h ⟨t, rfl⟩ hd
theorem pe_constS {i : Str} {pos : Pos} (h : ∃ t, X.mg x = some (.str i t)) (hg : Gl X x) (hd : (x == ("__debug__" : Str)) = false := by decide) : PE X (.Name x pos) (tC (.str i)) := by
  obtain ⟨t, h⟩ := h
  exact pe_glob hg h ⟨t, rfl⟩ hd
end
theorem bt_len : bootBuiltins "len" = some (.builtin "len") := by decide +kernel
theorem bt_max : bootBuiltins "max" = some (.builtin "max") := by decide +kernel
theorem bt_min : bootBuiltins "min" = some (.builtin "min") := by decide +kernel
theorem bt_sum : bootBuiltins "sum" = some (.builtin "sum") := by decide +kernel
theorem bt_all : bootBuiltins "all" = some (.builtin "all") := by decide +kernel
theorem bt_any : bootBuiltins "any" = some (.builtin "any") := by decide +kernel
theorem bt_abs : bootBuiltins "abs" = some (.builtin "abs") := by decide +kernel
theorem bt_sorted : bootBuiltins "sorted" = some (.builtin "sorted") := by decide +kernel
theorem bt_isinstance : bootBuiltins "isinstance" = some (.builtin "isinstance") := by decide +kernel
theorem bt_list : bootBuiltins "list" = some (.type "list") := by decide +kernel
theorem bt_tuple : bootBuiltins "tuple" = some (.type "tuple") := by decide +kernel
theorem bt_int : bootBuiltins "int" = some (.type "int") := by decide +kernel
theorem bt_bool : bootBuiltins "bool" = some (.type "bool") := by decide +kernel
theorem bt_str : bootBuiltins "str" = some (.type "str") := by decide +kernel
theorem bt_set : bootBuiltins "set" = some (.type "set") := by decide +kernel
end DL
namespace DL
open PySem PySem.Spec PyProof.Rows L2
/-! ### isinstance of built-in classes -/
/-- the name of a datum's type -/
inductive Tn (m : Store) : D → String → Prop
  | non : Tn m .non "NoneType"
  | bl {b : Bool} : Tn m (.bl b) "bool"
  | int {i : Int} : Tn m (.int i) "int"
  | str {x : Str} : Tn m (.str x) "str"
  | lst {xs : List D} : Tn m (.lst xs) "list"
  | tup {xs : List D} : Tn m (.tup xs) "tuple"
  | cell {k : Nat} {xs : List D} : m[k]? = some (.lst xs) → Tn m (.cell k) "list"
theorem y_isi {K : PySem.W.Frag} {m : Store} {d : D} {n c : String} {b : Bool} (h : Tn m d n) (hb : kitB n c = some b) : Y1 K (fun x H Q => rIsi K [x, .ty c] H Q) d m (.bl b) m := fun r F H x hr p Q q => by
  have ty : TyX K H x (.type n) := by
    cases h with
    | non => cases p; exact .base .non
    | bl => cases p; exact .base (.bl _)
    | int => cases p; exact .base (.int _)
    | str => cases p; exact .base (.str _)
    | lst => cases p with
      | lst hs _ => exact .base (.lst (hr.sub _ _ hs))
    | tup => cases p with
      | tup hs _ => exact .base (.tup (hr.sub _ _ hs))
    | cell hk => cases p with
      | cell ea =>
        obtain ⟨_, vs, h1, _⟩ := hr.cell _ _ _ ea hk rfl
        exact .base (.lst h1)
  exact ⟨x, .ty c, .type n, .type c, b, rfl, .ty c, ty, kit_ty hb, post1 hr q (.bl _)⟩
theorem ye_isi {K : PySem.W.Frag} {te : TE} {δ : En} {m m1 : Store} {d : D} {n c : String} {b : Bool} (he : YE K te δ m d m1) (h : Tn m1 d n) (hb : kitB n c = some b) : YE K (tCB (rIsi K) (tCons te (tCons (tC (.ty c)) tNil))) δ m (.bl b) m1 := fun r F H σ hr er Q q =>
  he r F H σ hr er _ fun v r1 F1 H1 hr1 x1 p1 => y_isi h hb r1 F1 H1 v hr1 p1 Q fun v2 r2 F2 H2 hr2 x2 p2 => q v2 r2 F2 H2 hr2 (x1.trans hr1.len hr.len x2) p2
theorem kb_bb : kitB "bool" "bool" = some true := by decide +kernel
theorem kb_bi : kitB "bool" "int" = some true := by decide +kernel
theorem kb_ib : kitB "int" "bool" = some false := by decide +kernel
theorem kb_ii : kitB "int" "int" = some true := by decide +kernel
theorem kb_ll : kitB "list" "list" = some true := by decide +kernel
theorem kb_tt : kitB "tuple" "tuple" = some true := by decide +kernel
theorem kb_lt : kitB "list" "tuple" = some false := by decide +kernel
theorem kb_tl : kitB "tuple" "list" = some false := by decide +kernel
theorem kb_ss : kitB "str" "str" = some true := by decide +kernel
theorem kb_ni : kitB "NoneType" "int" = some false := by decide +kernel
theorem kb_si : kitB "str" "int" = some false := by decide +kernel
end DL
namespace DL
open PySem PySem.Spec PyProof.Rows L2
section
variable {K : PySem.W.Frag} {W : WX} {te ta tb : TE} {tt : TT} {t u : TS} {g : TG} {δ δ1 δ2 : En} {m m1 m2 m3 : Store} {d e : D} {o : Out} {tas : TA} {i j : Int}
theorem y_ixI {ds : List D} (h : IsL m d ds) (h2 : L2.atI ds i = some e) : Y2 K (rIxL K) d (.int i) m e m := by
  cases h with
  | lst => exact y_ixL h2
  | cell hk => exact y_ixC hk h2
theorem atI_of {α : Type} {xs : List α} (h0 : 0 ≤ i) (h1 : i < xs.length) : L2.atI xs i = xs[i.toNat]? := by
  unfold L2.atI ixN
  rw [if_pos h0, if_pos h1]; rfl
theorem atI_map {α : Type} {xs : List α} {f : α → D} {x : α} (h : L2.atI xs i = some x) : L2.atI (xs.map f) i = some (f x) := by
  obtain ⟨j, e1, e2⟩ := atI_len (xs := xs.map f) (by simp) h
  rw [e2, List.getElem?_map, e1]; rfl
theorem atI_getD {α : Type} {xs : List α} (z : α) (h0 : 0 ≤ i) (h1 : i < xs.length) : L2.atI xs i = some (xs.getD i.toNat z) := by
  rw [atI_of h0 h1]
  have : i.toNat < xs.length := by omega
  rw [List.getElem?_eq_getElem this, List.getD_eq_getElem?_getD, List.getElem?_eq_getElem this]; rfl
theorem set_same {k : Nat} {c : Cell} (h : m[k]? = some c) : m.set k c = m := by
  apply List.ext_getElem?
  intro l
  by_cases hl : k = l
  · subst hl
    rw [List.getElem?_set_self (List.getElem?_eq_some_iff.mp h).1, h]
  · rw [List.getElem?_set_ne hl]
theorem set_get {k : Nat} {c c' : Cell} (h : m[k]? = some c) : (m.set k c')[k]? = some c' := List.getElem?_set_self (List.getElem?_eq_some_iff.mp h).1
theorem set_get_ne {k l : Nat} {c : Cell} (h : k ≠ l) : (m.set k c)[l]? = m[l]? := List.getElem?_set_ne h
theorem app_get {c : Cell} : (m ++ [c])[m.length]? = some c := by simp
theorem app_get_lt {k : Nat} {c c' : Cell} (h : m[k]? = some c) : (m ++ [c'])[k]? = some c := by
  rw [List.getElem?_append_left (List.getElem?_eq_some_iff.mp h).1]; exact h
theorem app_set {c c' : Cell} : (m ++ [c]).set m.length c' = m ++ [c'] := by simp
theorem app_set_lt {k : Nat} {c c' : Cell} (h : k < m.length) : (m ++ [c']).set k c = m.set k c ++ [c'] := by
  rw [List.set_append_left _ _ h]
theorem Weak.refl (δ : En) : Weak δ δ := ⟨rfl, fun _ _ h => h⟩
/-- slot by slot -/
theorem Weak.nil : Weak [] [] := Weak.refl _
theorem Weak.keep {x : Option D} {δ δ' : En} (h : Weak δ δ') : Weak (x :: δ) (x :: δ') := ⟨by simp [h.1], fun i d q => by
  cases i with
  | zero => exact q
  | succ i => exact h.2 i d (by simpa using q)⟩
theorem Weak.drop {x : Option D} {δ δ' : En} (h : Weak δ δ') : Weak (x :: δ) (none :: δ') := ⟨by simp [h.1], fun i d q => by
  cases i with
  | zero => cases q
  | succ i => exact h.2 i d (by simpa using q)⟩
end
/-- data of depth at most n -/
def Sh : Nat → D → Prop
  | _, .non => True
  | _, .bl _ => True
  | _, .int _ => True
  | _, .str x => PyData.strOk x = true
  | _, .cell _ => False
  | _, .exc _ => False
  | 0, .lst _ => False
  | 0, .tup _ => False
  | 0, .scr _ => False
  | n + 1, .lst xs => ∀ x ∈ xs, Sh n x
  | n + 1, .tup xs => ∀ x ∈ xs, Sh n x
  | _ + 1, .scr _ => True
theorem lay_ints : ∀ ns : List Int, PyData.canLayAll0 (ns.map PyData.int) = true ∧ PyData.depthAll (ns.map PyData.int) ≤ 0
  | [] => ⟨rfl, by simp [PyData.depthAll]⟩
  | n :: ns => by
    obtain ⟨a, b⟩ := lay_ints ns
    refine ⟨?_, ?_⟩
    · show (PyData.canLay0 (.int n) && PyData.canLayAll0 (ns.map PyData.int)) = true
      rw [a]; rfl
    · show PyData.depthAll (PyData.int n :: ns.map PyData.int) ≤ 0
      simp only [PyData.depthAll, PyData.depth]; omega
theorem Sh.all : ∀ (n : Nat) (d : D), Sh n d → d.pure = true ∧ d.toPy.canLay0 = true ∧ d.toPy.depth ≤ n := by
  intro n
  induction n with
  | zero =>
    intro d h
    cases d with
    | non => exact ⟨rfl, rfl, by simp [D.toPy, PyData.depth]⟩
    | bl b => exact ⟨rfl, rfl, by simp [D.toPy, PyData.depth]⟩
    | int i => exact ⟨rfl, rfl, by simp [D.toPy, PyData.depth]⟩
    | str x => exact ⟨rfl, by simpa [D.toPy, PyData.canLay0, Sh] using h, by simp [D.toPy, PyData.depth]⟩
    | lst xs => exact absurd h (by simp [Sh])
    | tup xs => exact absurd h (by simp [Sh])
    | cell k => exact absurd h (by simp [Sh])
    | exc C => exact absurd h (by simp [Sh])
    | scr ns => exact absurd h (by simp [Sh])
  | succ n ih =>
    have all : ∀ xs : List D, (∀ x ∈ xs, Sh n x) → D.pures xs = true ∧ PyData.canLayAll0 (D.toPys xs) = true ∧ PyData.depthAll (D.toPys xs) ≤ n := by
      intro xs
      induction xs with
      | nil => intro _; exact ⟨rfl, rfl, by simp [D.toPys, PyData.depthAll]⟩
      | cons x xs ihx =>
        intro h
        obtain ⟨a1, a2, a3⟩ := ih x (h x List.mem_cons_self)
        obtain ⟨b1, b2, b3⟩ := ihx fun y hy => h y (List.mem_cons_of_mem _ hy)
        refine ⟨by show (x.pure && D.pures xs) = true; rw [a1, b1]; rfl, by show (x.toPy.canLay0 && PyData.canLayAll0 (D.toPys xs)) = true; rw [a2, b2]; rfl, ?_⟩
        show PyData.depthAll (x.toPy :: D.toPys xs) ≤ n
        simp only [PyData.depthAll]; omega
    intro d h
    cases d with
    | non => exact ⟨rfl, rfl, by simp [D.toPy, PyData.depth]⟩
    | bl b => exact ⟨rfl, rfl, by simp [D.toPy, PyData.depth]⟩
    | int i => exact ⟨rfl, rfl, by simp [D.toPy, PyData.depth]⟩
    | str x => exact ⟨rfl, by simpa [D.toPy, PyData.canLay0, Sh] using h, by simp [D.toPy, PyData.depth]⟩
    | lst xs =>
      obtain ⟨a, b, c⟩ := all xs h
      refine ⟨a, by simpa [D.toPy, PyData.canLay0] using b, ?_⟩
      simp only [D.toPy, PyData.depth]; omega
    | tup xs =>
      obtain ⟨a, b, c⟩ := all xs h
      refine ⟨a, by simpa [D.toPy, PyData.canLay0] using b, ?_⟩
      simp only [D.toPy, PyData.depth]; omega
    | cell k => exact absurd h (by simp [Sh])
    | exc C => exact absurd h (by simp [Sh])
    | scr ns =>
      obtain ⟨a, b⟩ := lay_ints ns
      refine ⟨rfl, by simpa [D.toPy, PyData.canLay0] using a, ?_⟩
      simp only [D.toPy, PyData.depth]; omega
theorem Sh.pure {n : Nat} {d : D} (h : Sh n d) : d.pure = true := (Sh.all n d h).1
theorem Sh.shaped {n : Nat} {d : D} (h : Sh n d) (hn : n ≤ 64) : SeqAt.shaped d.toPy = true := by
  obtain ⟨_, a, b⟩ := Sh.all n d h
  unfold SeqAt.shaped
  rw [a, decide_eq_true (show d.toPy.depth ≤ 64 by omega)]; rfl
theorem Sh.canLay {n : Nat} {d : D} (h : Sh n d) : d.toPy.canLay0 = true := (Sh.all n d h).2.1
theorem Sh.map {α : Type} {n : Nat} {f : α → D} {xs : List α} (h : ∀ x, Sh n (f x)) : Sh (n + 1) (.lst (xs.map f)) := fun y hy => by
  obtain ⟨x, _, rfl⟩ := List.mem_map.mp hy
  exact h x
/-- what reads as plain data: pure data, or what a cell holds -/
inductive Sd (m : Store) : D → D → Prop
  | data {d : D} : Sh 60 d → Sd m d d
  | cell {k : Nat} {xs : List D} : m[k]? = some (.lst xs) → Sh 60 (.lst xs) → Sd m (.cell k) (.lst xs)
theorem Sd.pd {m : Store} {d d' : D} (h : Sd m d d') : Pd m d d'.toPy ∧ SeqAt.shaped d'.toPy = true ∧ d'.toPy.canLay0 = true := by
  cases h with
  | data h => exact ⟨.pure h.pure, h.shaped (by omega), h.canLay⟩
  | cell hk h => exact ⟨.cell hk h.pure, h.shaped (by omega), h.canLay⟩
section
variable {K : PySem.W.Frag} {W : WX} {te ta tb : TE} {tt : TT} {t u : TS} {g : TG} {δ δ1 δ2 : En} {m m1 m2 m3 : Store} {d e d' e' : D} {o : Out} {tas : TA} {i j : Int}
theorem y_eqT (h1 : Sd m d d') (h2 : Sd m e e') : Y2 K (rEqD K) d e m (.bl (PyData.eqv d'.toPy e'.toPy)) m := y_eqD h1.pd.1 h2.pd.1 h1.pd.2.1 h2.pd.2.1
theorem y_neT (h1 : Sd m d d') (h2 : Sd m e e') : Y2 K (rNeD K) d e m (.bl (!PyData.eqv d'.toPy e'.toPy)) m := y_neD h1.pd.1 h2.pd.1 h1.pd.2.1 h2.pd.2.1
theorem y_eqSame (h1 : Sd m d d') (h2 : Sd m e d') : Y2 K (rEqD K) d e m (.bl true) m := by
  have q := y_eqT (K := K) h1 h2
  rwa [SeqAt.eqv_refl _ h1.pd.2.2] at q
theorem y_neSame (h1 : Sd m d d') (h2 : Sd m e d') : Y2 K (rNeD K) d e m (.bl false) m := by
  have q := y_neT (K := K) h1 h2
  rwa [SeqAt.eqv_refl _ h1.pd.2.2] at q
/-- a list's emptiness -/
theorem eqv_nil (xs : List PyData) : PyData.eqv (.list xs) (.list []) = xs.isEmpty := by cases xs <;> rfl
theorem nil_eqv (xs : List PyData) : PyData.eqv (.list []) (.list xs) = xs.isEmpty := by cases xs <;> rfl
theorem toPys_empty (xs : List D) : (D.toPys xs).isEmpty = xs.isEmpty := by cases xs <;> rfl
theorem toPys_len : ∀ xs : List D, (D.toPys xs).length = xs.length
  | [] => rfl
  | x :: xs => congrArg Nat.succ (toPys_len xs)
theorem y_neNil {xs : List D} (h : Sd m d (.lst xs)) : Y2 K (rNeD K) d (.lst []) m (.bl (!xs.isEmpty)) m := by
  have q := y_neT (K := K) h (.data (d := .lst []) (fun x hx => nomatch hx))
  rw [show (D.lst xs).toPy = .list (D.toPys xs) from rfl] at q
  rw [show (D.lst []).toPy = .list [] from rfl, eqv_nil, toPys_empty] at q
  exact q
theorem y_eqNil {xs : List D} (h : Sd m d (.lst xs)) : Y2 K (rEqD K) d (.lst []) m (.bl xs.isEmpty) m := by
  have q := y_eqT (K := K) h (.data (d := .lst []) (fun x hx => nomatch hx))
  rw [show (D.lst xs).toPy = .list (D.toPys xs) from rfl] at q
  rw [show (D.lst []).toPy = .list [] from rfl, eqv_nil, toPys_empty] at q
  exact q
theorem y_powK {z : Int} {n : Nat} (h : CPow i (n : Int)) (e : i ^ n = z) : Y2 K oPow (.int i) (.int (n : Int)) m (.int z) m := by
  rw [← e]; exact y_pow h
theorem y_subK {z : Int} (e : i - j = z) : Y2 K oSub (.int i) (.int j) m (.int z) m := by
  rw [← e]; exact y_sub
theorem y_addK {z : Int} (e : i + j = z) : Y2 K oAdd (.int i) (.int j) m (.int z) m := by
  rw [← e]; exact y_add
/-- a loop that leaves the state as it is -/
theorem ys_forC {α : Type} {C : Store → Prop} {wi : TI} (ys : List α) (en : α → D) (hi : YI K C wi δ m (ys.map en) m1) (hC : C m1) (δ0 : En) (w : Weak δ δ0)
    (step : ∀ y ∈ ys, ∃ δ' δ'', YG K g (en y) δ0 δ' ∧ YS K W t δ' m1 (.nx δ'' m1) ∧ Weak δ'' δ0) : YS K W (tFor wi g t) δ m (.nx δ0 m1) :=
  ys_forG hi ys.length (fun _ => δ0) (fun _ => m1) w rfl (fun _ _ => hC) (by simp) (fun i d hi hd => by
    rw [List.getElem?_map] at hd
    cases e : ys[i]? with
    | none => rw [e] at hd; cases hd
    | some y =>
      rw [e] at hd; cases hd
      obtain ⟨δ', δ'', h1, h2, h3⟩ := step y (List.mem_of_getElem? e)
      exact ⟨δ', _, h1, h2, .nx h3⟩) (.inl ⟨by simp, rfl⟩)
/-- a loop that folds a state s, over typed items -/
theorem ys_forF {α S : Type} {C : Store → Prop} {wi : TI} (ys : List α) (en : α → D) (hi : YI K C wi δ m (ys.map en) m1) (f : S → α → S) (s0 : S) (δf : S → En) (mf : S → Store) (w : Weak δ (δf s0)) (e0 : mf s0 = m1)
    (hC : ∀ i, i ≤ ys.length → C (mf ((ys.take i).foldl f s0)))
    (step : ∀ i y, ys[i]? = some y → ∃ δ' δ'', YG K g (en y) (δf ((ys.take i).foldl f s0)) δ' ∧ YS K W t δ' (mf ((ys.take i).foldl f s0)) (.nx δ'' (mf (f ((ys.take i).foldl f s0) y))) ∧ Weak δ'' (δf (f ((ys.take i).foldl f s0) y))) :
    YS K W (tFor wi g t) δ m (.nx (δf (ys.foldl f s0)) (mf (ys.foldl f s0))) := by
  have key := ys_forG (K := K) (W := W) (t := t) (g := g) (o := .nx (δf ((ys.take ys.length).foldl f s0)) (mf ((ys.take ys.length).foldl f s0))) hi ys.length (fun i => δf ((ys.take i).foldl f s0)) (fun i => mf ((ys.take i).foldl f s0)) w e0 hC (by simp) (fun i d hi hd => by
    rw [List.getElem?_map] at hd
    cases e : ys[i]? with
    | none => rw [e] at hd; cases hd
    | some y =>
      rw [e] at hd; cases hd
      obtain ⟨δ', δ'', h1, h2, h3⟩ := step i y e
      have et : (ys.take (i + 1)).foldl f s0 = f ((ys.take i).foldl f s0) y := by rw [List.take_add_one, e]; simp
      refine ⟨δ', _, h1, h2, ?_⟩
      show TurnX (δf ((ys.take (i + 1)).foldl f s0)) (mf ((ys.take (i + 1)).foldl f s0)) _
      rw [et]; exact .nx h3) (.inl ⟨by simp, rfl⟩)
  rw [List.take_length] at key
  exact key
/-- the law's own call -/
theorem law_start {S : Spec} {H : Hp} {a : Addr} {ns : List Int} (hS : SqL K H a (ns.map V.int)) (h : S [.scr ns] [] (.ok (.bl true)) []) : spD K S [.ref a] H (fun v _ => v = .bl true) (fun _ _ _ => False) :=
  ⟨[], H, [], [.scr ns], .ok (.bl true), [], ⟨rfl, Same.refl _, fun k a c e => by simp at e, fun k l a e => by simp at e, fun k a kvs e => by simp at e, fun k l a x y e => by simp at e⟩, .cons (.scr hS) .nil, h, fun v r F H _ _ p => by cases p; rfl⟩
end
end DL
namespace DL
open PySem PySem.Spec PyProof.Rows L2

/-! ### isinstance of errors, of None -/
def rIsX (K : PySem.W.Frag) : List V → Hp → VK → Prop := fun xs H Q => ∃ (a E : Addr) (c : V) (cv : Value) (b : Bool), xs = [.ref a, c] ∧ (H a = some (ExV (.ref E) a) ∨ H a = some (ExO (.ref E) a)) ∧ ExcC K E ∧ ClsV c cv ∧ PySem.W.kitOne K (.ref E) cv = some b ∧ Q (.bl b) H
def rIsA (K : PySem.W.Frag) : List V → Hp → VK → Prop := fun xs H Q => rIsX K xs H Q ∨ rIsi K xs H Q
theorem exc_at {X : Cx} {pins : List (Addr × Obj)} {σ : L2.St} {H : Hp} {s : Shared} {a E : Addr} (I : Inv X pins σ H s) (h : H a = some (ExV (.ref E) a) ∨ H a = some (ExO (.ref E) a)) : ∃ oe, PySem.W.InstAt s.heap a oe E none := by
  have key : ∃ (oe : Obj) (vs : Array Value), s.heap.get? a = some oe ∧ Zc (.ref E) none oe ∧ oe.data = .fields vs := by
    rcases h with h | h
    · obtain ⟨⟨oe, vs, e, z, d⟩, _⟩ := I.hok a _ h
      exact ⟨oe, vs, e, z, d⟩
    · obtain ⟨⟨oe, vs, e, z, d, _⟩, _⟩ := I.hok a _ h
      exact ⟨oe, vs, e, z, d⟩
  obtain ⟨⟨oc, od, oda, osl⟩, vs, e, ⟨z1, z2⟩, d⟩ := key
  dsimp only at z1 z2 d
  subst z1 z2 d
  exact ⟨_, e, rfl, rfl, trivial⟩
theorem call_isA {X : Cx} : CallR X (.builtin "isinstance") (rIsA X.K) := by
  intro pins s σ H xs us Q I r h
  rcases h with ⟨a, E, c, cv, b, rfl, ha, C, k, e, q⟩ | h
  · cases r with
    | cons rx rr => cases rr with
      | cons rt rr =>
        cases rr
        cases rx
        have ec := k.eq rt
        subst ec
        obtain ⟨oe, J⟩ := exc_at I ha
        exact PySem.W.kia_one (PySem.W.handS_kitx_exc C.hg C.hk C.hs C.hd C.ha C.hn C.ht C.hm) I.kIn J e (fun z => nomatch z) fun tk => ⟨.bl b, H, I.kept (t' := tk) fun _ _ z => z, rfl, q⟩
  · exact call_isi pins s σ H xs us Q I r h

/-! ### the classes of refusals -/
def kinds : List Str := ["NoSpan", "NoPlace", "NoCover", "NoWeight", "NoCount", "NoName", "Twice", "Full", "Bare", "NoDeed", "NoText", "NoLine"]
def ga (K : PySem.W.Frag) (x : Str) : Addr := He.ga K x
def excB (K : PySem.W.Frag) (E : Addr) : Bool :=
  decide (PySem.W.findIn K (.ref E) "__getattribute__" = some (some (.builtin "BaseException.__getattribute__"))) && (decide (PySem.W.findIn K (.ref E) "__getattr__" = some none) &&
  (decide (PySem.W.subIn K (.ref E) (.type "BaseException") = some true) && (PySem.W.hasDictIn K E && (decide (PySem.W.findIn K (.ref E) "__class__" = some (some (.builtin "object.__class__"))) &&
  (decide (PySem.W.specialIn K (.builtin "object.__class__") "__get__" = some (some (.builtin "getset_descriptor.__get__"))) && (decide (PySem.W.takesIn K (.builtin "object.__class__") = some true) && decide (PySem.W.mroIn K E (.type "object") = some true)))))))
theorem excB_ok {K : PySem.W.Frag} {E : Addr} (h : excB K E = true) : ExcC K E := by
  unfold excB at h
  simp only [Bool.and_eq_true, decide_eq_true_eq] at h
  obtain ⟨h1, h2, h3, h4, h5, h6, h7, h8⟩ := h
  exact ⟨h1, h2, h3, h4, h5, h6, h7, h8⟩
def isK (K : PySem.W.Frag) (t c : Value) (b : Bool) : Bool := decide (PySem.W.kitOne K t c = some b)
/-- what is asked of the classes ns, which stand under ShelfError -/
def xsB (ns : List Str) (K : PySem.W.Frag) : Bool :=
  (ns.all fun x => (He.Fa.exc x).ok K && (excB K (ga K x) && (isK K (.ref (ga K x)) (.ref (ga K "ShelfError")) true && (isK K (.ref (ga K x)) (.type "ValueError") true && (isK K (.type "NoneType") (.ref (ga K x)) false && (isK K (.ref (ga K "ShelfError")) (.ref (ga K x)) false &&
    (decide (PySem.W.exmOne K (.ref (ga K x)) (.ref (ga K "ShelfError")) = some true) && (eqO1 K x && ns.all fun y => isK K (.ref (ga K x)) (.ref (ga K y)) (decide (x = y))))))))))
  && ((He.Fa.exc "ShelfError").ok K && (excB K (ga K "ShelfError") && (isK K (.ref (ga K "ShelfError")) (.ref (ga K "ShelfError")) true && (isK K (.ref (ga K "ShelfError")) (.type "ValueError") true && (isK K (.type "NoneType") (.ref (ga K "ShelfError")) false && (isK K (.type "NoneType") (.type "ValueError") false && eqO1 K "ShelfError"))))))
where eqO1 (K : PySem.W.Frag) (x : Str) : Bool := decide (PySem.W.nsIn K mainGlobals x = some (some (.ref (ga K x))))
structure XCls (K : PySem.W.Frag) (ns : List Str) (x : Str) : Prop where
  ex : PySem.W.excIn K (ga K x) He.veBase "ValueError.__new__" = true
  kp : PySem.W.keepIn K (.ref (ga K x)) = true
  sb : PySem.W.subIn K (.ref (ga K x)) (.type "BaseException") = some true
  ty : PySem.W.typeIn K (.ref (ga K x)) = some (.type "type")
  c : ExcC K (ga K x)
  s : PySem.W.kitOne K (.ref (ga K x)) (.ref (ga K "ShelfError")) = some true
  v : PySem.W.kitOne K (.ref (ga K x)) (.type "ValueError") = some true
  n : PySem.W.kitOne K (.type "NoneType") (.ref (ga K x)) = some false
  g : PySem.W.nsIn K mainGlobals x = some (some (.ref (ga K x)))
structure Xs (K : PySem.W.Frag) (ns : List Str) : Prop where
  one : ∀ x ∈ ns, XCls K ns x
  up : XCls K ns "ShelfError"
  kit : ∀ x ∈ ns, ∀ y ∈ ns, PySem.W.kitOne K (.ref (ga K x)) (.ref (ga K y)) = some (decide (x = y))
  down : ∀ x ∈ ns, PySem.W.kitOne K (.ref (ga K "ShelfError")) (.ref (ga K x)) = some false
  exm : ∀ x ∈ ns, PySem.W.exmOne K (.ref (ga K x)) (.ref (ga K "ShelfError")) = some true
  nv : PySem.W.kitOne K (.type "NoneType") (.type "ValueError") = some false
theorem xsB_ok {K : PySem.W.Frag} {ns : List Str} (h : xsB ns K = true) : Xs K ns := by
  unfold xsB at h
  obtain ⟨h1, h2⟩ := Bool.and_eq_true_iff.mp h
  have d := fun {p : Prop} [Decidable p] (q : decide p = true) => of_decide_eq_true q
  have one : ∀ x ∈ ns, XCls K ns x ∧ (∀ y ∈ ns, PySem.W.kitOne K (.ref (ga K x)) (.ref (ga K y)) = some (decide (x = y))) ∧ PySem.W.kitOne K (.ref (ga K "ShelfError")) (.ref (ga K x)) = some false ∧ PySem.W.exmOne K (.ref (ga K x)) (.ref (ga K "ShelfError")) = some true := by
    intro x hx
    have q := List.all_eq_true.mp h1 x hx
    simp only [Bool.and_eq_true] at q
    obtain ⟨q1, q2, q3, q4, q5, q6, q7, q8, q9⟩ := q
    obtain ⟨e1, e2, e3, e4⟩ := He.exc_ok q1
    exact ⟨⟨e1, e2, e3, e4, excB_ok q2, of_decide_eq_true q3, of_decide_eq_true q4, of_decide_eq_true q5, of_decide_eq_true q8⟩, fun y hy => of_decide_eq_true (List.all_eq_true.mp q9 y hy), of_decide_eq_true q6, of_decide_eq_true q7⟩
  simp only [Bool.and_eq_true] at h2
  obtain ⟨q1, q2, q3, q4, q5, q6, q7⟩ := h2
  obtain ⟨e1, e2, e3, e4⟩ := He.exc_ok q1
  exact ⟨fun x hx => (one x hx).1, ⟨e1, e2, e3, e4, excB_ok q2, of_decide_eq_true q3, of_decide_eq_true q4, of_decide_eq_true q5, of_decide_eq_true q7⟩, fun x hx => (one x hx).2.1, fun x hx => (one x hx).2.2.1, fun x hx => (one x hx).2.2.2, of_decide_eq_true q6⟩
theorem XCls.mg {K : PySem.W.Frag} {ns : List Str} {x : Str} {h : Heap} {mg : Str → Option Value} (c : XCls K ns x) (X : K.In h) (G : h.Ns mainGlobals mg) : mg x = some (.ref (ga K x)) := PySem.W.mg_of X G c.g

/-! ### the head's hook with one truth more -/
def obsB (n : Nat) (fa : List He.Fa) (fn : List He.DefD) (ex : PySem.W.Frag → Bool) (g : Addr → Option Obj) : He.AlD × Bool := (He.obsD fa fn (He.frG g (He.asD g n)), ex (He.frG g (He.asD g n)))
def hookB (n : Nat) (fa : List He.Fa) (fn : List He.DefD) (ex : PySem.W.Frag → Bool) : PySem.W.Hook where
  α := He.AlD × Bool
  obs := fun s => obsB n fa fn ex s.heap.get?
  val := fun _ => (He.valD fn, true)
  says := fun _ h => ∃ K : PySem.W.Frag, K.In h ∧ He.SaysD fa fn K ∧ ex K = true
  of := fun _ _ e => ⟨_, He.frG_in, congrArg Prod.fst e, congrArg Prod.snd e⟩
  keeps := fun _ _ _ ⟨K, hK, c⟩ k => ⟨K, PySem.W.Frag.In.keeps hK k, c⟩
theorem obsB_eq {n : Nat} {fa : List He.Fa} {fn : List He.DefD} {ex : PySem.W.Frag → Bool} {g : Addr → Option Obj} {s : Shared} (h : ∀ a, g a = s.heap.get? a) : obsB n fa fn ex g = (hookB n fa fn ex).obs s := by
  have e : g = s.heap.get? := funext h
  rw [e]; rfl

/-! ### raising -/
def tRaise (W : WX) (C : Value) : TS := fun _ σ H => W C none σ H
theorem ps_raiseK {X : Cx} {ns : List Str} {W : WX} {x msg : Str} {k : Nat} {p p2 pos pos2 : Pos} (c : XCls X.K ns x) (m : X.mg x = some (.ref (ga X.K x))) (hc : X.calm = true) (tk : Takes X W) (hg : Gl X x) (hdb : (x == ("__debug__" : Str)) = false := by decide) :
    PS X (.Raise (some (.Call (.Name x p) [.Constant (.str msg) k p2] [] pos)) none pos2) (tRaise W (.ref (ga X.K x))) := ps_raise hc tk (pmk_own PySem.F.excBase_ValueError c.ex m c.kp (raises_own c.sb c.ty) hg hdb)
/-- an expression that raises -/
def YX (K : PySem.W.Frag) (W : WX) (t : TE) (δ : En) (m : Store) (C : Value) (m' : Store) : Prop := ∀ r F H σ, HR K r F H m → ER K r F σ δ → (∀ r' F' H', HR K r' F' H' m' → Ext r F H m r' F' H' m' → W C none σ H') → ∀ Q : VK, t σ H Q
section
variable {K : PySem.W.Frag} {W : WX} {te ta tb : TE} {tt : TT} {t u : TS} {g : TG} {δ δ1 δ2 : En} {m m1 m2 m3 : Store} {d e : D} {o : Out} {tas : TA} {i j : Nat} {C : Value}
theorem ys_raise : YS K W (tRaise W C) δ m (.ex C δ m) := fun r F H σ D hr er q => q σ r F H hr er (Ext.refl hr)
theorem yx_call {S : Spec} {ds : List D} (ha : YA K tas δ m ds m1) (hs : S ds m1 (.ex C) m2) : YX K W (tCallS (spD K S) (WE W) tas) δ m C m2 := fun r F H σ hr er q Q =>
  ha r F H σ hr er _ fun ws r1 F1 H1 hr1 x1 p1 => ⟨r1, F1, m1, ds, .ex C, m2, hr1, p1, hs, fun r2 F2 H2 hr2 x2 => q r2 F2 H2 hr2 (x1.trans hr1.len hr.len x2)⟩
theorem ys_exprX (h : YX K W te δ m C m1) : YS K W (tDrop te) δ m (.ex C δ m1) := fun r F H σ D hr er q => h r F H σ hr er (fun r' F' H' h1 x1 => q σ r' F' H' h1 (er.ext x1) x1) _
theorem ys_retX (h : YX K W te δ m C m1) : YS K W (tRet te) δ m (.ex C δ m1) := fun r F H σ D hr er q => h r F H σ hr er (fun r' F' H' h1 x1 => q σ r' F' H' h1 (er.ext x1) x1) _
theorem ys_asgX (h : YX K W te δ m C m1) : YS K W (tAsg te g) δ m (.ex C δ m1) := fun r F H σ D hr er q => h r F H σ hr er (fun r' F' H' h1 x1 => q σ r' F' H' h1 (er.ext x1) x1) _
/-- try: .. except c as i: j = i -/
def tTry (K : PySem.W.Frag) (c : Value) (i j : Nat) (tb : WX → TS) : TS := fun D σ H => tb (wKeep K c i j D) D σ H
theorem ys_tryN {c : Value} {tb : WX → TS} (h : ∀ W', YS K W' (tb W') δ m (.nx δ1 m1)) : YS K W (tTry K c i j tb) δ m (.nx δ1 m1) := fun r F H σ D hr er q => h _ r F H σ D hr er q
theorem er_none {r : List Addr} {F : Hp} {σ : L2.St} (h : ER K r F σ δ) : ER K r F (σ.set i none) (δ.set i none) := by
  refine ⟨by simp [h.1], fun l e he => ?_⟩
  by_cases hl : i = l
  · subst hl
    have q : i < (δ.set i none).length := (List.getElem?_eq_some_iff.mp he).1
    rw [List.length_set] at q
    rw [List.getElem?_set_self q] at he; cases he
  · rw [List.getElem?_set_ne hl] at he ⊢
    exact h.2 l e he
theorem ys_tryX {c : Value} {x : Str} {tb : WX → TS} (h : ∀ W', YS K W' (tb W') δ m (.ex (.ref (ga K x)) δ1 m1)) (he : PySem.W.exmOne K (.ref (ga K x)) c = some true) : YS K W (tTry K c i j tb) δ m (.nx (((δ1.set i (some (.exc x))).set j (some (.exc x))).set i none) m1) := fun r F H σ D hr er q =>
  h _ r F H σ D hr er fun σ1 r1 F1 H1 hr1 er1 x1 => ⟨he, rfl, fun a na => by
    have x2 : Ext r1 F1 H1 m1 r1 (upd F1 a (ExV (.ref (ga K x)) a)) (upd H1 a (ExV (.ref (ga K x)) a)) m1 := Ext.laid hr1 na
    have rp : Rep K r1 (upd F1 a (ExV (.ref (ga K x)) a)) (.ref a) (.exc x) := .exc (.inl upd_same)
    exact q _ r1 _ _ (hr1.laid na) (er_none (((er1.ext x2).set i rp).set j rp)) (x1.trans hr1.len hr.len x2)⟩
/-- X(..) as a value -/
def tExc (C : Addr) (ta : TA) : TE := fun σ H Q => ta σ H fun _ H1 => ∀ a, H1 a = none → Q (.ref a) (upd H1 a (ExO (.ref C) a))
theorem ye_exc {x : Str} {ds : List D} (ha : YA K tas δ m ds m1) : YE K (tExc (ga K x) tas) δ m (.exc x) m1 := fun r F H σ hr er Q q =>
  ha r F H σ hr er _ fun vs r1 F1 H1 hr1 x1 p1 a na => q _ r1 _ _ (hr1.laid na) (x1.trans hr1.len hr.len (Ext.laid hr1 na)) (.exc (.inr upd_same))
/-- isinstance(e, c) of an error, of None -/
theorem ye_isX {x : Str} {c : V} {cv : Value} {b : Bool} (he : YE K te δ m (.exc x) m1) (hE : ExcC K (ga K x)) (hc : ClsV c cv) (hb : PySem.W.kitOne K (.ref (ga K x)) cv = some b) : YE K (tCB (rIsA K) (tCons te (tCons (tC c) tNil))) δ m (.bl b) m1 := fun r F H σ hr er Q q =>
  he r F H σ hr er _ fun v r1 F1 H1 hr1 x1 p1 => by
    cases p1 with
    | exc h => exact .inl ⟨_, ga K x, c, cv, b, rfl, h.imp (hr1.sub _ _) (hr1.sub _ _), hE, hc, hb, q _ r1 F1 H1 hr1 x1 (.bl _)⟩
theorem ye_isNon {c : V} {cv : Value} {b : Bool} (he : YE K te δ m .non m1) (hc : ClsV c cv) (hb : PySem.W.kitOne K (.type "NoneType") cv = some b) : YE K (tCB (rIsA K) (tCons te (tCons (tC c) tNil))) δ m (.bl b) m1 := fun r F H σ hr er Q q =>
  he r F H σ hr er _ fun v r1 F1 H1 hr1 x1 p1 => by
    cases p1
    exact .inr ⟨.non, c, .type "NoneType", cv, b, rfl, hc, .base .non, hb, q _ r1 F1 H1 hr1 x1 (.bl _)⟩
end
section
variable {X : Cx} {ns : List Str} {x : Str} {p pos : Pos} {e : Expr}
theorem pe_excK1 {te : TE} (c : XCls X.K ns x) (m : X.mg x = some (.ref (ga X.K x))) (hg : Gl X x) (he : PE X e te) (hs : starEach [e] X.env = (false, eval e X.env) :: starEach [] X.env := by rfl) (hdb : (x == ("__debug__" : Str)) = false := by decide) :
    PE X (.Call (.Name x p) [e] [] pos) (tExc (ga X.K x) (tCons te tNil)) := pe_exc1 PySem.F.excBase_ValueError c.ex m c.kp hg he hs hdb
theorem pe_excK0 (c : XCls X.K ns x) (m : X.mg x = some (.ref (ga X.K x))) (hg : Gl X x) (hdb : (x == ("__debug__" : Str)) = false := by decide) : PE X (.Call (.Name x p) [] [] pos) (tExc (ga X.K x) tNil) := by
  refine ⟨fun pins s σ H Q I h => ?_⟩
  refine wpAny_Call_Name_kw (ld_glob I hg m ?_ hdb)
  refine PySem.W.callWith_K0 I.kIn c.kp ?_
  obtain ⟨bm, N, nm, qn, bs, hdct, sn, sub, ab, col, dd, k0, k1, k2, k3, k5, mN, hC, hN, hni, T⟩ := exc_obj I.kIn c.ex
  refine wpAny_call_exc_subT PySem.F.excBase_ValueError T hC hN hni (fun h' a hm => ?_) (by show 0 ≤ sizeLine; exact Nat.zero_le _)
  have hn : H a = none := I.hok.gone hm.new
  obtain ⟨t, ht, _, _⟩ := hm.there
  exact ⟨.ref a, upd H a (ExO (.ref (ga X.K x)) a), I.laidN hm.keeps hm.new hn (exO_ok ht ⟨rfl, rfl⟩ rfl rfl rfl (show 4 < 6 by decide)), rfl, h a hn⟩
theorem pe_ownS {j : Nat} {S : Spec} {ps : List Str} {W : WX} {es : List Expr} {t : TA} (C : Cal X.prog X.w X.K X.mg X.base x j ps S) (tk : Takes X W) (hr : Room j X.A) (hg : Gl X x) (ha : PA X (e :: es) t) (hdb : (x == ("__debug__" : Str)) = false := by decide)
    (he : starEach (e :: es) X.env = (false, eval e X.env) :: starEach es X.env := by rfl) (hpl : (backTo pos (starEach es X.env)).any (·.1) = false := by rfl) : PE X (.Call (.Name x p) (e :: es) [] pos) (tCallS (spD X.K S) (WE W) t) := by
  obtain ⟨fd, F, b, kp, m⟩ := C
  exact pe_callS F hr hg m kp b (fun σ => passAt tk σ) ha hdb he hpl
end
theorem bt_ValueError : bootBuiltins "ValueError" = some (.type "ValueError") := by decide +kernel
end DL
namespace LW
open PySem PySem.Spec PyProof.Rows L2 DL
def top (i : Nat) : Stmt := PySem.Challenge.pw_spanshelf_k75_spans_and_covers_as_texts.main.body.getD i (.Pass ⟨0, 0, 0, 0⟩)
abbrev FnP (K : PySem.W.Frag) (x : Str) (st : Stmt) (f : Addr) (fd : FuncData) : Prop := FunD K x x (defArgs st) (defBody st) (defScope st) [] [] f fd
abbrev s_law_at : Stmt := top 34
abbrev N_law_at : List Str := ["_law_script", "_law_k"]
theorem sc_law_at : FnScope N_law_at ["_law_script", "_law_k"] (defScope s_law_at) := ⟨rfl, rfl, rfl, by decide +kernel, rfl, by decide +kernel, by decide +kernel⟩
abbrev s_law_purse : Stmt := top 36
abbrev N_law_purse : List Str := ["_law_script", "_law_at_here", "_law_cell"]
theorem sc_law_purse : FnScope N_law_purse ["_law_script", "_law_at_here"] (defScope s_law_purse) := ⟨rfl, rfl, rfl, by decide +kernel, rfl, by decide +kernel, by decide +kernel⟩
abbrev s_law_mixed : Stmt := top 35
abbrev N_law_mixed : List Str := ["_law_cell", "_law_k", "_law_number_here"]
theorem sc_law_mixed : FnScope N_law_mixed ["_law_cell", "_law_k"] (defScope s_law_mixed) := ⟨rfl, rfl, rfl, by decide +kernel, rfl, by decide +kernel, by decide +kernel⟩
abbrev s_law_draw : Stmt := top 37
abbrev N_law_draw : List Str := ["_law_purse_here", "_law_out_of", "_law_drawn", "_law_number_here", "_law_k"]
theorem sc_law_draw : FnScope N_law_draw ["_law_purse_here", "_law_out_of"] (defScope s_law_draw) := ⟨rfl, rfl, rfl, by decide +kernel, rfl, by decide +kernel, by decide +kernel⟩
abbrev s_law_number : Stmt := top 38
abbrev N_law_number : List Str := ["_law_purse_here", "_law_most", "_law_far"]
theorem sc_law_number : FnScope N_law_number ["_law_purse_here", "_law_most"] (defScope s_law_number) := ⟨rfl, rfl, rfl, by decide +kernel, rfl, by decide +kernel, by decide +kernel⟩
abbrev s_law_end : Stmt := top 39
abbrev N_law_end : List Str := ["_law_purse_here", "_law_ends", "_law_most", "_law_near"]
theorem sc_law_end : FnScope N_law_end ["_law_purse_here", "_law_ends", "_law_most"] (defScope s_law_end) := ⟨rfl, rfl, rfl, by decide +kernel, rfl, by decide +kernel, by decide +kernel⟩
abbrev s_law_span : Stmt := top 40
abbrev N_law_span : List Str := ["_law_purse_here", "_law_ends", "_law_most", "_law_one", "_law_other", "_law_low", "_law_high"]
theorem sc_law_span : FnScope N_law_span ["_law_purse_here", "_law_ends", "_law_most"] (defScope s_law_span) := ⟨rfl, rfl, rfl, by decide +kernel, rfl, by decide +kernel, by decide +kernel⟩
abbrev s_law_span_text : Stmt := top 44
abbrev N_law_span_text : List Str := ["_law_span_here"]
theorem sc_law_span_text : FnScope N_law_span_text ["_law_span_here"] (defScope s_law_span_text) := ⟨rfl, rfl, rfl, by decide +kernel, rfl, by decide +kernel, by decide +kernel⟩
abbrev s_law_cover : Stmt := top 42
abbrev N_law_cover : List Str := ["_law_purse_here", "_law_many", "_law_ends", "_law_k"]
theorem sc_law_cover : FnScope N_law_cover ["_law_purse_here", "_law_many"] (defScope s_law_cover) := ⟨rfl, rfl, rfl, by decide +kernel, rfl, by decide +kernel, by decide +kernel⟩
abbrev s_law_is_span : Stmt := top 45
abbrev N_law_is_span : List Str := ["_law_span_here"]
theorem sc_law_is_span : FnScope N_law_is_span ["_law_span_here"] (defScope s_law_is_span) := ⟨rfl, rfl, rfl, by decide +kernel, rfl, by decide +kernel, by decide +kernel⟩
abbrev s_law_due : Stmt := top 48
abbrev N_law_due : List Str := ["_law_cover_here", "_law_span_here", "_law_one", "_law_other", "_law_touching"]
theorem sc_law_due : FnScope N_law_due ["_law_cover_here"] (defScope s_law_due) := ⟨rfl, rfl, rfl, by decide +kernel, rfl, by decide +kernel, by decide +kernel⟩
abbrev s_must : Stmt := top 29
abbrev N_must : List Str := ["fine"]
theorem sc_must : FnScope N_must ["fine"] (defScope s_must) := ⟨rfl, rfl, rfl, by decide +kernel, rfl, by decide +kernel, by decide +kernel⟩
abbrev s_is_number : Stmt := top 28
abbrev N_is_number : List Str := ["text", "figures", "sign"]
theorem sc_is_number : FnScope N_is_number ["text"] (defScope s_is_number) := ⟨rfl, rfl, rfl, by decide +kernel, rfl, by decide +kernel, by decide +kernel⟩
abbrev s_read_number : Stmt := top 30
abbrev N_read_number : List Str := ["text"]
theorem sc_read_number : FnScope N_read_number ["text"] (defScope s_read_number) := ⟨rfl, rfl, rfl, by decide +kernel, rfl, by decide +kernel, by decide +kernel⟩
abbrev s_is_place : Stmt := top 16
abbrev N_is_place : List Str := ["number"]
theorem sc_is_place : FnScope N_is_place ["number"] (defScope s_is_place) := ⟨rfl, rfl, rfl, by decide +kernel, rfl, by decide +kernel, by decide +kernel⟩
abbrev s_is_span : Stmt := top 17
abbrev N_is_span : List Str := ["span"]
theorem sc_is_span : FnScope N_is_span ["span"] (defScope s_is_span) := ⟨rfl, rfl, rfl, by decide +kernel, rfl, by decide +kernel, by decide +kernel⟩
abbrev s_read_span : Stmt := top 31
abbrev N_read_span : List Str := ["text", "low", "dots", "high", "span"]
theorem sc_read_span : FnScope N_read_span ["text"] (defScope s_read_span) := ⟨rfl, rfl, rfl, by decide +kernel, rfl, by decide +kernel, by decide +kernel⟩
abbrev s_must_span : Stmt := top 18
abbrev N_must_span : List Str := ["span"]
theorem sc_must_span : FnScope N_must_span ["span"] (defScope s_must_span) := ⟨rfl, rfl, rfl, by decide +kernel, rfl, by decide +kernel, by decide +kernel⟩
abbrev s_must_spans : Stmt := top 19
abbrev N_must_spans : List Str := ["spans", "span"]
theorem sc_must_spans : FnScope N_must_spans ["spans"] (defScope s_must_spans) := ⟨rfl, rfl, rfl, by decide +kernel, rfl, by decide +kernel, by decide +kernel⟩
abbrev s_must_cover : Stmt := top 22
abbrev N_must_cover : List Str := ["cover", "one", "other"]
theorem sc_must_cover : FnScope N_must_cover ["cover"] (defScope s_must_cover) := ⟨rfl, rfl, rfl, by decide +kernel, rfl, by decide +kernel, by decide +kernel⟩
abbrev s_read_cover : Stmt := top 32
abbrev N_read_cover : List Str := ["text", "word", "found"]
theorem sc_read_cover : FnScope N_read_cover ["text"] (defScope s_read_cover) := ⟨rfl, rfl, rfl, by decide +kernel, rfl, by decide +kernel, by decide +kernel⟩
abbrev s_show_span : Stmt := top 26
abbrev N_show_span : List Str := ["span"]
theorem sc_show_span : FnScope N_show_span ["span"] (defScope s_show_span) := ⟨rfl, rfl, rfl, by decide +kernel, rfl, by decide +kernel, by decide +kernel⟩
abbrev s_show_cover : Stmt := top 27
abbrev N_show_cover : List Str := ["cover", "span"]
theorem sc_show_cover : FnScope N_show_cover ["cover"] (defScope s_show_cover) := ⟨rfl, rfl, rfl, by decide +kernel, rfl, by decide +kernel, by decide +kernel⟩
abbrev s_law_class : Stmt := top 43
abbrev N_law_class : List Str := ["_law_caught", "_law_some", "_law_words", "_law_word", "_law_truth", "_law_found"]
theorem sc_law_class : FnScope N_law_class ["_law_caught"] (defScope s_law_class) := ⟨rfl, rfl, rfl, by decide +kernel, rfl, by decide +kernel, by decide +kernel⟩
abbrev s_law_shown : Stmt := top 47
abbrev N_law_shown : List Str := ["_law_thing", "_law_cover_here", "_law_caught", "_law_found", "e"]
theorem sc_law_shown : FnScope N_law_shown ["_law_thing", "_law_cover_here"] (defScope s_law_shown) := ⟨rfl, rfl, rfl, by decide +kernel, rfl, by decide +kernel, by decide +kernel⟩
abbrev s_law_whole : Stmt := top 41
abbrev N_law_whole : List Str := ["_law_found"]
theorem sc_law_whole : FnScope N_law_whole ["_law_found"] (defScope s_law_whole) := ⟨rfl, rfl, rfl, by decide +kernel, rfl, by decide +kernel, by decide +kernel⟩
abbrev s_law_fine : Stmt := top 46
abbrev N_law_fine : List Str := ["_law_found", "_law_span_here"]
theorem sc_law_fine : FnScope N_law_fine ["_law_found", "_law_span_here"] (defScope s_law_fine) := ⟨rfl, rfl, rfl, by decide +kernel, rfl, by decide +kernel, by decide +kernel⟩
abbrev s_law_bent : Stmt := top 49
abbrev N_law_bent : List Str := ["_law_purse_here", "_law_cover_here", "_law_way", "_law_at_here", "_law_one", "_law_k"]
theorem sc_law_bent : FnScope N_law_bent ["_law_purse_here", "_law_cover_here"] (defScope s_law_bent) := ⟨rfl, rfl, rfl, by decide +kernel, rfl, by decide +kernel, by decide +kernel⟩
abbrev s_law : Stmt := top 50
abbrev N_law : List Str := ["_law_script", "_law_k", "_law_purse_here", "_law_span_here", "_law_text", "_law_bad", "_law_many", "_law_cover_here", "_law_turn", "_law_some", "_law_handed", "_law_found", "_law_one"]
theorem sc_law : FnScope N_law ["_law_script"] (defScope s_law) := ⟨rfl, rfl, rfl, by decide +kernel, rfl, by decide +kernel, by decide +kernel⟩
abbrev xnames : List Str := kinds
def d_law_at : He.DefD := ⟨("_law_at", none), "_law_at", "_law_at", defArgs s_law_at, defBody s_law_at, defScope s_law_at, [], []⟩
def d_law_purse : He.DefD := ⟨("_law_purse", none), "_law_purse", "_law_purse", defArgs s_law_purse, defBody s_law_purse, defScope s_law_purse, [], []⟩
def d_law_mixed : He.DefD := ⟨("_law_mixed", none), "_law_mixed", "_law_mixed", defArgs s_law_mixed, defBody s_law_mixed, defScope s_law_mixed, [], []⟩
def d_law_draw : He.DefD := ⟨("_law_draw", none), "_law_draw", "_law_draw", defArgs s_law_draw, defBody s_law_draw, defScope s_law_draw, [], []⟩
def d_law_number : He.DefD := ⟨("_law_number", none), "_law_number", "_law_number", defArgs s_law_number, defBody s_law_number, defScope s_law_number, [], []⟩
def d_law_end : He.DefD := ⟨("_law_end", none), "_law_end", "_law_end", defArgs s_law_end, defBody s_law_end, defScope s_law_end, [], []⟩
def d_law_span : He.DefD := ⟨("_law_span", none), "_law_span", "_law_span", defArgs s_law_span, defBody s_law_span, defScope s_law_span, [], []⟩
def d_law_span_text : He.DefD := ⟨("_law_span_text", none), "_law_span_text", "_law_span_text", defArgs s_law_span_text, defBody s_law_span_text, defScope s_law_span_text, [], []⟩
def d_law_cover : He.DefD := ⟨("_law_cover", none), "_law_cover", "_law_cover", defArgs s_law_cover, defBody s_law_cover, defScope s_law_cover, [], []⟩
def d_law_is_span : He.DefD := ⟨("_law_is_span", none), "_law_is_span", "_law_is_span", defArgs s_law_is_span, defBody s_law_is_span, defScope s_law_is_span, [], []⟩
def d_law_due : He.DefD := ⟨("_law_due", none), "_law_due", "_law_due", defArgs s_law_due, defBody s_law_due, defScope s_law_due, [], []⟩
def d_must : He.DefD := ⟨("must", none), "must", "must", defArgs s_must, defBody s_must, defScope s_must, [], []⟩
def d_is_number : He.DefD := ⟨("is_number", none), "is_number", "is_number", defArgs s_is_number, defBody s_is_number, defScope s_is_number, [], []⟩
def d_read_number : He.DefD := ⟨("read_number", none), "read_number", "read_number", defArgs s_read_number, defBody s_read_number, defScope s_read_number, [], []⟩
def d_is_place : He.DefD := ⟨("is_place", none), "is_place", "is_place", defArgs s_is_place, defBody s_is_place, defScope s_is_place, [], []⟩
def d_is_span : He.DefD := ⟨("is_span", none), "is_span", "is_span", defArgs s_is_span, defBody s_is_span, defScope s_is_span, [], []⟩
def d_read_span : He.DefD := ⟨("read_span", none), "read_span", "read_span", defArgs s_read_span, defBody s_read_span, defScope s_read_span, [], []⟩
def d_must_span : He.DefD := ⟨("must_span", none), "must_span", "must_span", defArgs s_must_span, defBody s_must_span, defScope s_must_span, [], []⟩
def d_must_spans : He.DefD := ⟨("must_spans", none), "must_spans", "must_spans", defArgs s_must_spans, defBody s_must_spans, defScope s_must_spans, [], []⟩
def d_must_cover : He.DefD := ⟨("must_cover", none), "must_cover", "must_cover", defArgs s_must_cover, defBody s_must_cover, defScope s_must_cover, [], []⟩
def d_read_cover : He.DefD := ⟨("read_cover", none), "read_cover", "read_cover", defArgs s_read_cover, defBody s_read_cover, defScope s_read_cover, [], []⟩
def d_show_span : He.DefD := ⟨("show_span", none), "show_span", "show_span", defArgs s_show_span, defBody s_show_span, defScope s_show_span, [], []⟩
def d_show_cover : He.DefD := ⟨("show_cover", none), "show_cover", "show_cover", defArgs s_show_cover, defBody s_show_cover, defScope s_show_cover, [], []⟩
def d_law_class : He.DefD := ⟨("_law_class", none), "_law_class", "_law_class", defArgs s_law_class, defBody s_law_class, defScope s_law_class, [], []⟩
def d_law_shown : He.DefD := ⟨("_law_shown", none), "_law_shown", "_law_shown", defArgs s_law_shown, defBody s_law_shown, defScope s_law_shown, [], []⟩
def d_law_whole : He.DefD := ⟨("_law_whole", none), "_law_whole", "_law_whole", defArgs s_law_whole, defBody s_law_whole, defScope s_law_whole, [], []⟩
def d_law_fine : He.DefD := ⟨("_law_fine", none), "_law_fine", "_law_fine", defArgs s_law_fine, defBody s_law_fine, defScope s_law_fine, [], []⟩
def d_law_bent : He.DefD := ⟨("_law_bent", none), "_law_bent", "_law_bent", defArgs s_law_bent, defBody s_law_bent, defScope s_law_bent, [], []⟩
def d_law : He.DefD := ⟨("law", none), "law", "law", defArgs s_law, defBody s_law, defScope s_law, [], []⟩
def fn : List He.DefD := [d_law_at, d_law_purse, d_law_mixed, d_law_draw, d_law_number, d_law_end, d_law_span, d_law_span_text, d_law_cover, d_law_is_span, d_law_due, d_must, d_is_number, d_read_number, d_is_place, d_is_span, d_read_span, d_must_span, d_must_spans, d_must_cover, d_read_cover, d_show_span, d_show_cover, d_law_class, d_law_shown, d_law_whole, d_law_fine, d_law_bent, d_law]
def fa : List He.Fa := [.glo "_law_at", .glo "_law_purse", .glo "_law_mixed", .glo "_law_draw", .glo "_law_number", .glo "_law_end", .glo "_law_span", .glo "_law_span_text", .glo "_law_cover", .glo "_law_is_span", .glo "_law_due", .glo "must", .glo "is_number", .glo "read_number", .glo "is_place", .glo "is_span", .glo "read_span", .glo "must_span", .glo "must_spans", .glo "must_cover", .glo "read_cover", .glo "show_span", .glo "show_cover", .glo "_law_class", .glo "_law_shown", .glo "_law_whole", .glo "_law_fine", .glo "_law_bent", .glo "law", .free "len", .free "max", .free "range", .free "min", .free "str", .free "sorted", .free "set", .free "abs", .free "zip", .free "int", .free "all", .free "isinstance", .free "ValueError", .free "bool", .free "tuple", .free "list", .int "MOST_FIGURES" 12, .str "FIGURES" "0123456789", .int "BEYOND" 1000000000000, .int "MOST_SPANS" 200]
abbrev R : PySem.W.OpenRow := PySem.W.OpenLaw.row PySem.Challenge.rw_spanshelf_k75_spans_and_covers_as_texts
abbrev hk : PySem.W.Hook := hookB 4 fa fn (xsB xnames)
def ob (s : PySem.W.SharedT) : He.AlD × Bool := obsB 4 fa fn (xsB xnames) (HandSHeadRun.getT s)
theorem ob_eq (s : PySem.W.SharedT) : ob s = hk.obs s.abs := obsB_eq (HandSHeadRun.getT_eq s)
def loose0 : List Str := ["__name__", "ShelfError", "NoSpan", "NoPlace", "NoCover", "NoWeight", "NoCount", "NoName", "Twice", "Full", "Bare", "NoDeed", "NoText", "NoLine", "BEYOND", "is_place", "is_span", "must_span", "must_spans", "MOST_SPANS", "must_cover", "FIGURES", "MOST_FIGURES", "show_span", "show_cover", "is_number", "must", "read_number", "read_span", "read_cover"]
def loose1 : List Str := ["_law_at", "_law_mixed", "_law_purse", "_law_draw", "_law_number", "_law_end", "_law_span", "_law_whole", "_law_cover", "_law_class", "_law_span_text", "_law_is_span", "_law_fine", "_law_shown", "_law_due", "_law_bent"]
abbrev loose : List Str := loose0 ++ loose1
theorem run (w : World) : HandSHeadRun.RunEq R (PySem.W.view R.prog [50]) hk ob 40000 loose w := by
  intro os
  kernel_rfl
end LW
/-! The evaluator over plain data: what a reading computes, as a Lean function; each construct's function is sound for its reading, once for all. -/
namespace DL
open PySem PySem.Spec PyProof.Rows L2

inductive RX (α : Type) where
  | ok (a : α)
  | ex (x : Str)
abbrev MX (α : Type) := Option (RX α × Store)
def MX.bind {α β : Type} (x : MX α) (k : α → Store → MX β) : MX β :=
  match x with
  | some (.ok a, m) => k a m
  | some (.ex x, m) => some (.ex x, m)
  | none => none
abbrev ret {α : Type} (a : α) (m : Store) : MX α := some (.ok a, m)
section
variable {α β : Type} {a : α} {m : Store} {x : Str} {k : α → Store → MX β}
theorem bind_ok : MX.bind (some (.ok a, m)) k = k a m := rfl
theorem bind_ex : MX.bind (some (.ex x, m)) k = some (.ex x, m) := rfl
theorem bind_none : MX.bind none k = none := rfl
theorem bind_some {x : MX α} {res : RX β} {m' : Store} (h : x.bind k = some (res, m')) : (∃ a m1, x = some (.ok a, m1) ∧ k a m1 = some (res, m')) ∨ ∃ y, x = some (.ex y, m') ∧ res = .ex y := by
  cases x with
  | none => cases h
  | some p =>
    obtain ⟨r, m1⟩ := p
    cases r with
    | ok a => exact .inl ⟨a, m1, rfl, h⟩
    | ex y => cases h; exact .inr ⟨y, rfl, rfl⟩
end
abbrev ME := En → Store → MX D
abbrev MT := En → Store → MX Bool
abbrev MA := En → Store → MX (List D)
/-! ### the judgement -/
abbrev Rel (α β : Type) := Hp → Store → List Addr → Hp → Hp → α → β → Prop
section
variable {α β γ κ : Type}
def JAt (K : PySem.W.Frag) (W : WX) (R : Rel α β) (r : List Addr) (F H : Hp) (σ : L2.St) (m : Store) (t : Hp → (α → Hp → Prop) → Prop) : RX β → Store → Prop
  | .ok b, m' => ∀ Q : α → Hp → Prop, (∀ a r' F' H', HR K r' F' H' m' → Ext r F H m r' F' H' m' → R H m' r' F' H' a b → Q a H') → t H Q
  | .ex x, m' => (∀ r' F' H', HR K r' F' H' m' → Ext r F H m r' F' H' m' → W (.ref (ga K x)) none σ H') → ∀ Q : α → Hp → Prop, t H Q
def JX (K : PySem.W.Frag) (W : WX) (R : Rel α β) (t : L2.St → Hp → (α → Hp → Prop) → Prop) (δ : En) (m : Store) (res : RX β) (m' : Store) : Prop := ∀ r F H σ, HR K r F H m → ER K r F σ δ → JAt K W R r F H σ m (t σ) res m'
def So (K : PySem.W.Frag) (W : WX) (R : Rel α β) (t : L2.St → Hp → (α → Hp → Prop) → Prop) (e : En → Store → MX β) : Prop := ∀ δ m res m', e δ m = some (res, m') → JX K W R t δ m res m'
def RMon (R : Rel α β) : Prop := ∀ H H1 m r F G a b, (∀ p, H1 p = none → H p = none) → R H1 m r F G a b → R H m r F G a b
variable {K : PySem.W.Frag} {W : WX} {R : Rel α β} {R' : Rel γ κ} {r : List Addr} {F H : Hp} {σ : L2.St} {m m1 m2 : Store} {t : Hp → (α → Hp → Prop) → Prop} {u : α → Hp → (γ → Hp → Prop) → Prop} {b : β} {res : RX κ}
theorem JAt.bind (mon : RMon R') (hr : HR K r F H m) (h : JAt K W R r F H σ m t (.ok b) m1)
    (k : ∀ a r1 F1 H1, HR K r1 F1 H1 m1 → Ext r F H m r1 F1 H1 m1 → R H m1 r1 F1 H1 a b → JAt K W R' r1 F1 H1 σ m1 (u a) res m2) : JAt K W R' r F H σ m (fun H Q => t H fun a H1 => u a H1 Q) res m2 := by
  cases res with
  | ok c => exact fun Q q => h _ fun a r1 F1 H1 hr1 x1 ra => k a r1 F1 H1 hr1 x1 ra Q fun c' r2 F2 H2 hr2 x2 rc => q c' r2 F2 H2 hr2 (x1.trans hr1.len hr.len x2) (mon _ _ _ _ _ _ _ _ (fun p => trk_back x1) rc)
  | ex x => exact fun q Q => h _ fun a r1 F1 H1 hr1 x1 ra => k a r1 F1 H1 hr1 x1 ra (fun r2 F2 H2 hr2 x2 => q r2 F2 H2 hr2 (x1.trans hr1.len hr.len x2)) Q
theorem JAt.thrown {x : Str} (h : JAt K W R r F H σ m t (.ex x) m1) : JAt K W R' r F H σ m (fun H Q => t H fun a H1 => u a H1 Q) (.ex x) m1 := fun q Q => h q _
theorem JAt.ret {a : α} (hr : HR K r F H m) (h : R H m r F H a b) : JAt K W R r F H σ m (fun H Q => Q a H) (.ok b) m := fun Q q => q a r F H hr (Ext.refl hr) h
/-- the bind of readings and of functions -/
theorem So.bind {ta : L2.St → Hp → (α → Hp → Prop) → Prop} {a : En → Store → MX β} {u : α → L2.St → Hp → (γ → Hp → Prop) → Prop} {k : β → En → Store → MX κ} (mon : RMon R') (ha : So K W R ta a)
    (hk : ∀ b δ m res m', k b δ m = some (res, m') → ∀ v r F H σ H0, HR K r F H m → ER K r F σ δ → R H0 m r F H v b → JAt K W R' r F H σ m (u v σ) res m') :
    So K W R' (fun σ H Q => ta σ H fun v H1 => u v σ H1 Q) (fun δ m => (a δ m).bind fun x m => k x δ m) := fun δ m res m' e r F H σ hr er => by
  rcases bind_some e with ⟨x, m1, e1, e2⟩ | ⟨y, e1, rfl⟩
  · exact (ha δ m _ _ e1 r F H σ hr er).bind mon hr fun v r1 F1 H1 hr1 x1 rv => hk x δ m1 res m' e2 v r1 F1 H1 σ H hr1 (er.ext x1) rv
  · exact (ha δ m _ _ e1 r F H σ hr er).thrown
end
abbrev RE (K : PySem.W.Frag) : Rel V D := fun _ _ r F _ v d => Rep K r F v d
abbrev RB : Rel Bool Bool := fun _ _ _ _ _ a b => a = b
abbrev RA (K : PySem.W.Frag) : Rel (List V) (List D) := fun _ _ r F _ v d => RepAll K r F v d
abbrev RO : Rel (Option Int) (Option Int) := fun _ _ _ _ _ a b => a = b
theorem re_mon {K : PySem.W.Frag} : RMon (RE K) := fun _ _ _ _ _ _ _ _ _ h => h
theorem rb_mon : RMon RB := fun _ _ _ _ _ _ _ _ _ h => h
theorem ra_mon {K : PySem.W.Frag} : RMon (RA K) := fun _ _ _ _ _ _ _ _ _ h => h
theorem ro_mon : RMon RO := fun _ _ _ _ _ _ _ _ _ h => h

/-! ### expressions -/
def eC (d : D) : ME := fun _ m => ret d m
def eVar (i : Nat) : ME := fun δ m => match δ[i]? with
  | some (some d) => ret d m
  | _ => none
def eOp (o : D → D → Store → MX D) (a b : ME) : ME := fun δ m => (a δ m).bind fun x m => (b δ m).bind fun y m => o x y m
def eUn (o : D → Store → MX D) (a : ME) : ME := fun δ m => (a δ m).bind fun x m => o x m
def eAnd (a b : ME) : ME := fun δ m => (a δ m).bind fun x m => match x with
  | .bl c => cond c (b δ m) (ret (.bl false) m)
  | _ => none
def eOr (a b : ME) : ME := fun δ m => (a δ m).bind fun x m => match x with
  | .bl c => cond c (ret (.bl true) m) (b δ m)
  | _ => none
def eNot (a : ME) : ME := fun δ m => (a δ m).bind fun x m => match x with
  | .bl c => ret (.bl (!c)) m
  | _ => none
def tst (a : ME) : MT := fun δ m => (a δ m).bind fun x m => match x with
  | .bl c => ret c m
  | _ => none
def mAnd (a b : MT) : MT := fun δ m => (a δ m).bind fun c m => cond c (b δ m) (ret false m)
def mOr (a b : MT) : MT := fun δ m => (a δ m).bind fun c m => cond c (ret true m) (b δ m)
def mNot (a : MT) : MT := fun δ m => (a δ m).bind fun c m => ret (!c) m
def mYes : MT := fun _ m => ret true m
def eIf (t : MT) (a b : ME) : ME := fun δ m => (t δ m).bind fun c m => cond c (a δ m) (b δ m)
def eChain (o1 o2 : D → D → Store → MX D) (a b c : ME) : ME := fun δ m => (a δ m).bind fun x m => (b δ m).bind fun y m => (o1 x y m).bind fun z m => match z with
  | .bl k => cond k ((c δ m).bind fun w m => o2 y w m) (ret (.bl false) m)
  | _ => none
def aNil : MA := fun _ m => ret [] m
def aCons (a : ME) (as : MA) : MA := fun δ m => (a δ m).bind fun x m => (as δ m).bind fun xs m => ret (x :: xs) m
def eTup (as : MA) : ME := fun δ m => (as δ m).bind fun xs m => if xs.length ≤ 100000 then ret (.tup xs) m else none
def eCB (p : List D → Store → MX D) (as : MA) : ME := fun δ m => (as δ m).bind fun xs m => p xs m
section
variable {K : PySem.W.Frag} {W : WX} {ta tb tc : TE} {tt tu : TT} {tas : TA} {a b c : ME} {t u : MT} {as : MA}
/-- values -/
def S2 (K : PySem.W.Frag) (W : WX) (rr : R2) (o : D → D → Store → MX D) : Prop := ∀ x y m res m', o x y m = some (res, m') → ∀ r F H σ vx vy, HR K r F H m → Rep K r F vx x → Rep K r F vy y → JAt K W (RE K) r F H σ m (rr vx vy) res m'
def S1 (K : PySem.W.Frag) (W : WX) (rr : V → Hp → VK → Prop) (o : D → Store → MX D) : Prop := ∀ x m res m', o x m = some (res, m') → ∀ r F H σ vx, HR K r F H m → Rep K r F vx x → JAt K W (RE K) r F H σ m (rr vx) res m'
def SC {γ κ : Type} (K : PySem.W.Frag) (W : WX) (R : Rel γ κ) (rr : List V → Hp → (γ → Hp → Prop) → Prop) (o : List D → Store → MX κ) : Prop := ∀ xs m res m', o xs m = some (res, m') → ∀ r F H σ vs, HR K r F H m → RepAll K r F vs xs → JAt K W R r F H σ m (rr vs) res m'
theorem so_cint {i : Int} : So K W (RE K) (tC (.int i)) (eC (.int i)) := fun δ m res m' e r F H σ hr er => by cases e; exact JAt.ret hr (.int i)
theorem so_cbl {i : Bool} : So K W (RE K) (tC (.bl i)) (eC (.bl i)) := fun δ m res m' e r F H σ hr er => by cases e; exact JAt.ret hr (.bl i)
theorem so_cstr {i : Str} : So K W (RE K) (tC (.str i)) (eC (.str i)) := fun δ m res m' e r F H σ hr er => by cases e; exact JAt.ret hr (.str i)
theorem so_cnon : So K W (RE K) (tC .non) (eC .non) := fun δ m res m' e r F H σ hr er => by cases e; exact JAt.ret hr .non
theorem so_var {i : Nat} : So K W (RE K) (tVar i) (eVar i) := fun δ m res m' e r F H σ hr er => by
  unfold eVar at e
  split at e
  · rename_i d h
    cases e
    obtain ⟨v, e1, p⟩ := er.2 i d h
    exact fun Q q => ⟨v, e1, q v r F H hr (Ext.refl hr) p⟩
  · cases e
theorem so_op {rr : R2} {o : D → D → Store → MX D} (ho : S2 K W rr o) (ha : So K W (RE K) ta a) (hb : So K W (RE K) tb b) : So K W (RE K) (tOp rr ta tb) (eOp o a b) := fun δ m res m' e r F H σ hr er => by
  show JAt K W (RE K) r F H σ m (fun H Q => ta σ H fun x H1 => tb σ H1 fun y H2 => rr x y H2 Q) res m'
  rcases bind_some e with ⟨x, m1, e1, e2⟩ | ⟨y, e1, rfl⟩
  · refine (ha δ m _ _ e1 r F H σ hr er).bind re_mon hr fun v r1 F1 H1 hr1 x1 rv => ?_
    rcases bind_some e2 with ⟨y, m2, e3, e4⟩ | ⟨y, e3, rfl⟩
    · refine (hb δ m1 _ _ e3 r1 F1 H1 σ hr1 (er.ext x1)).bind re_mon hr1 fun w r2 F2 H2 hr2 x2 rw => ?_
      exact ho x y m2 res m' e4 r2 F2 H2 σ v w hr2 (rv.mono x2.pre x2.sub) rw
    · exact (hb δ m1 _ _ e3 r1 F1 H1 σ hr1 (er.ext x1)).thrown
  · exact (ha δ m _ _ e1 r F H σ hr er).thrown
theorem so_un {rr : V → Hp → VK → Prop} {o : D → Store → MX D} (ho : S1 K W rr o) (ha : So K W (RE K) ta a) : So K W (RE K) (tUn rr ta) (eUn o a) :=
  So.bind re_mon ha (k := fun x δ m => o x m) (u := fun x σ H Q => rr x H Q) fun x δ m res m' e v r F H σ _ hr er rv => ho x m res m' e r F H σ v hr rv
theorem so_and (ha : So K W (RE K) ta a) (hb : So K W (RE K) tb b) : So K W (RE K) (tAndV ta tb) (eAnd a b) :=
  So.bind re_mon ha (k := fun x δ m => match x with
    | .bl c => cond c (b δ m) (ret (.bl false) m)
    | _ => none) (u := fun x σ H Q => ∃ c, x = .bl c ∧ if c = true then tb σ H Q else Q (.bl false) H) fun x δ m res m' e v r F H σ _ hr er rv => by
    cases x with
    | bl c =>
      cases rv
      cases c with
      | true =>
        have h := hb δ m res m' e r F H σ hr er
        cases res with
        | ok z => exact fun Q q => ⟨true, rfl, h Q q⟩
        | ex z => exact fun q Q => ⟨true, rfl, h q Q⟩
      | false => cases e; exact fun Q q => ⟨false, rfl, q _ r F H hr (Ext.refl hr) (.bl false)⟩
    | _ => cases e
theorem so_or (ha : So K W (RE K) ta a) (hb : So K W (RE K) tb b) : So K W (RE K) (tOrV ta tb) (eOr a b) :=
  So.bind re_mon ha (k := fun x δ m => match x with
    | .bl c => cond c (ret (.bl true) m) (b δ m)
    | _ => none) (u := fun x σ H Q => ∃ c, x = .bl c ∧ if c = true then Q (.bl true) H else tb σ H Q) fun x δ m res m' e v r F H σ _ hr er rv => by
    cases x with
    | bl c =>
      cases rv
      cases c with
      | false =>
        have h := hb δ m res m' e r F H σ hr er
        cases res with
        | ok z => exact fun Q q => ⟨false, rfl, h Q q⟩
        | ex z => exact fun q Q => ⟨false, rfl, h q Q⟩
      | true => cases e; exact fun Q q => ⟨true, rfl, q _ r F H hr (Ext.refl hr) (.bl true)⟩
    | _ => cases e
theorem so_not (ha : So K W (RE K) ta a) : So K W (RE K) (tNotV ta) (eNot a) :=
  So.bind re_mon ha (k := fun x δ m => match x with
    | .bl c => ret (.bl (!c)) m
    | _ => none) (u := fun x σ H Q => ∃ c, x = .bl c ∧ Q (.bl (!c)) H) fun x δ m res m' e v r F H σ _ hr er rv => by
    cases x with
    | bl c => cases rv; cases e; exact fun Q q => ⟨c, rfl, q _ r F H hr (Ext.refl hr) (.bl _)⟩
    | _ => cases e
theorem so_test (ha : So K W (RE K) ta a) : So K W RB (tTest ta) (tst a) :=
  So.bind rb_mon ha (k := fun (x : D) δ m => match x with
    | .bl c => ret c m
    | _ => none) (u := fun (x : V) σ H Q => ∃ c : Bool, x = V.bl c ∧ Q c H) fun x δ m res m' e v r F H σ _ hr er rv => by
    cases x with
    | bl c => cases rv; cases e; exact fun Q q => ⟨c, rfl, q _ r F H hr (Ext.refl hr) rfl⟩
    | _ => cases e
theorem so_B (ha : So K W (RE K) ta a) : So K W RB (tB ta) (tst a) := so_test ha
theorem so_mAnd (ha : So K W RB tt t) (hb : So K W RB tu u) : So K W RB (tAnd tt tu) (mAnd t u) :=
  So.bind rb_mon ha (k := fun (c : Bool) δ m => cond c (u δ m) (ret false m)) (u := fun (c : Bool) σ H Q => if c = true then tu σ H Q else Q false H) fun x δ m res m' e v r F H σ _ hr er rv => by
    cases rv
    cases x with
    | true => exact hb δ m res m' e r F H σ hr er
    | false => cases e; exact fun Q q => q _ r F H hr (Ext.refl hr) rfl
theorem so_mOr (ha : So K W RB tt t) (hb : So K W RB tu u) : So K W RB (tOr tt tu) (mOr t u) :=
  So.bind rb_mon ha (k := fun (c : Bool) δ m => cond c (ret true m) (u δ m)) (u := fun (c : Bool) σ H Q => if c = true then Q true H else tu σ H Q) fun x δ m res m' e v r F H σ _ hr er rv => by
    cases rv
    cases x with
    | false => exact hb δ m res m' e r F H σ hr er
    | true => cases e; exact fun Q q => q _ r F H hr (Ext.refl hr) rfl
theorem so_mNot (ha : So K W RB tt t) : So K W RB (tNot tt) (mNot t) :=
  So.bind rb_mon ha (k := fun c δ m => ret (!c) m) (u := fun c σ H Q => Q (!c) H) fun x δ m res m' e v r F H σ _ hr er rv => by
    cases rv; cases e; exact fun Q q => q _ r F H hr (Ext.refl hr) rfl
theorem so_yes : So K W RB tYes mYes := fun δ m res m' e r F H σ hr er => by cases e; exact fun Q q => q _ r F H hr (Ext.refl hr) rfl
theorem so_if (ht : So K W RB tt t) (ha : So K W (RE K) ta a) (hb : So K W (RE K) tb b) : So K W (RE K) (tIf tt ta tb) (eIf t a b) :=
  So.bind re_mon ht (k := fun (c : Bool) δ m => cond c (a δ m) (b δ m)) (u := fun (c : Bool) σ H Q => if c = true then ta σ H Q else tb σ H Q) fun x δ m res m' e v r F H σ _ hr er rv => by
    cases rv
    cases x with
    | true => exact ha δ m res m' e r F H σ hr er
    | false => exact hb δ m res m' e r F H σ hr er
theorem so_chain {q1 q2 : R2} {o1 o2 : D → D → Store → MX D} (h1 : S2 K W q1 o1) (h2 : S2 K W q2 o2) (ha : So K W (RE K) ta a) (hb : So K W (RE K) tb b) (hc : So K W (RE K) tc c) : So K W (RE K) (tChain q1 q2 ta tb tc) (eChain o1 o2 a b c) := fun δ m res m' e r F H σ hr er => by
  show JAt K W (RE K) r F H σ m (fun H Q => ta σ H fun x H1 => tb σ H1 fun y H2 => q1 x y H2 fun z H3 => ∃ k, z = .bl k ∧ if k = true then tc σ H3 (fun w H4 => q2 y w H4 Q) else Q (.bl false) H3) res m'
  rcases bind_some e with ⟨x, m1, e1, e2⟩ | ⟨y, e1, rfl⟩
  · refine (ha δ m _ _ e1 r F H σ hr er).bind re_mon hr fun v r1 F1 H1 hr1 x1 rv => ?_
    rcases bind_some e2 with ⟨y, m2, e3, e4⟩ | ⟨y, e3, rfl⟩
    · refine (hb δ m1 _ _ e3 r1 F1 H1 σ hr1 (er.ext x1)).bind re_mon hr1 fun w r2 F2 H2 hr2 x2 rw => ?_
      rcases bind_some e4 with ⟨z, m3, e5, e6⟩ | ⟨z, e5, rfl⟩
      · refine (h1 x y m2 _ m3 e5 r2 F2 H2 σ v w hr2 (rv.mono x2.pre x2.sub) rw).bind re_mon hr2 fun z' r3 F3 H3 hr3 x3 rz => ?_
        cases z with
        | bl k =>
          cases rz
          cases k with
          | false => cases e6; exact fun Q q => ⟨false, rfl, q _ r3 F3 H3 hr3 (Ext.refl hr3) (.bl false)⟩
          | true =>
            have er3 := ((er.ext x1).ext x2).ext x3
            have key : JAt K W (RE K) r3 F3 H3 σ m3 (fun H Q => tc σ H fun w' H4 => q2 w w' H4 Q) res m' := by
              rcases bind_some e6 with ⟨u, m4, e7, e8⟩ | ⟨u, e7, rfl⟩
              · exact (hc δ m3 _ _ e7 r3 F3 H3 σ hr3 er3).bind re_mon hr3 fun w' r4 F4 H4 hr4 x4 rw' => h2 y u m4 res m' e8 r4 F4 H4 σ w w' hr4 (rw.mono (x3.pre.trans x4.pre) (x3.sub.trans x4.sub)) rw'
              · exact (hc δ m3 _ _ e7 r3 F3 H3 σ hr3 er3).thrown
            cases res with
            | ok z => exact fun Q q => ⟨true, rfl, key Q q⟩
            | ex z => exact fun q Q => ⟨true, rfl, key q Q⟩
        | _ => cases e6
      · exact (h1 x y m2 _ _ e5 r2 F2 H2 σ v w hr2 (rv.mono x2.pre x2.sub) rw).thrown
    · exact (hb δ m1 _ _ e3 r1 F1 H1 σ hr1 (er.ext x1)).thrown
  · exact (ha δ m _ _ e1 r F H σ hr er).thrown
theorem so_anil : So K W (RA K) tNil aNil := fun δ m res m' e r F H σ hr er => by cases e; exact JAt.ret hr .nil
theorem so_acons (ha : So K W (RE K) ta a) (hs : So K W (RA K) tas as) : So K W (RA K) (tCons ta tas) (aCons a as) := fun δ m res m' e r F H σ hr er => by
  show JAt K W (RA K) r F H σ m (fun H Q => ta σ H fun x H1 => tas σ H1 fun xs H2 => Q (x :: xs) H2) res m'
  rcases bind_some e with ⟨x, m1, e1, e2⟩ | ⟨y, e1, rfl⟩
  · refine (ha δ m _ _ e1 r F H σ hr er).bind ra_mon hr fun v r1 F1 H1 hr1 x1 rv => ?_
    rcases bind_some e2 with ⟨y, m2, e3, e4⟩ | ⟨y, e3, rfl⟩
    · refine (hs δ m1 _ _ e3 r1 F1 H1 σ hr1 (er.ext x1)).bind ra_mon hr1 fun ws r2 F2 H2 hr2 x2 rw => ?_
      cases e4
      exact JAt.ret hr2 (.cons (rv.mono x2.pre x2.sub) rw)
    · exact (hs δ m1 _ _ e3 r1 F1 H1 σ hr1 (er.ext x1)).thrown
  · exact (ha δ m _ _ e1 r F H σ hr er).thrown
theorem so_tup (hs : So K W (RA K) tas as) : So K W (RE K) (tTup tas) (eTup as) :=
  So.bind re_mon hs (k := fun xs δ m => if xs.length ≤ 100000 then ret (.tup xs) m else none) (u := fun xs σ H Q => xs.length ≤ sizeLine ∧ ∀ p, H p = none → Q (.ref p) (upd H p (.tup xs))) fun x δ m res m' e v r F H σ _ hr er rv => by
    split at e
    · rename_i hl
      cases e
      exact fun Q q => ⟨Evl.sz_of (by rw [rv.len]; exact hl), fun p hp => q _ r _ _ (hr.laid hp) (Ext.laid hr hp) (.tup upd_same (rv.mono (Pre.refl _) (Ext.laid hr hp).sub))⟩
    · cases e
theorem so_cb {γ κ : Type} {R : Rel γ κ} {rr : List V → Hp → (γ → Hp → Prop) → Prop} {o : List D → Store → MX κ} (mon : RMon R) (ho : SC K W R rr o) (hs : So K W (RA K) tas as) : So K W R (fun σ H Q => tas σ H fun vs H1 => rr vs H1 Q) (fun δ m => (as δ m).bind fun xs m => o xs m) :=
  So.bind mon hs (k := fun x δ m => o x m) (u := fun x σ H Q => rr x H Q) fun x δ m res m' e v r F H σ _ hr er rv => ho x m res m' e r F H σ v hr rv
theorem so_eCB {rr : List V → Hp → VK → Prop} {o : List D → Store → MX D} (ho : SC K W (RE K) rr o) (hs : So K W (RA K) tas as) : So K W (RE K) (tCB rr tas) (eCB o as) := so_cb re_mon ho hs
end
end DL
namespace DL
open PySem PySem.Spec PyProof.Rows L2

/-! ### what is new: lists that nothing else holds -/
inductive F1 where
  | pl (d : D)
  | own (xs : List D)
inductive FT where
  | pl (d : D)
  | own (xs : List D)
  | tup (fs : List F1)
abbrev MF := En → Store → MX FT
def F1.dat : F1 → D
  | .pl d => d
  | .own xs => .lst xs
def FT.dat : FT → D
  | .pl d => d
  | .own xs => .lst xs
  | .tup fs => .tup (fs.map F1.dat)
def celL : List F1 → Store → List D × Store
  | [], m => ([], m)
  | .pl d :: fs, m => (d :: (celL fs m).1, (celL fs m).2)
  | .own xs :: fs, m => (.cell m.length :: (celL fs (m ++ [.lst xs])).1, (celL fs (m ++ [.lst xs])).2)
def FT.cel : FT → Store → D × Store
  | .pl d, m => (d, m)
  | .own xs, m => (.cell m.length, m ++ [.lst xs])
  | .tup fs, m => (.tup (celL fs m).1, (celL fs m).2)
inductive OwnL (K : PySem.W.Frag) (r : List Addr) (F H : Hp) : List V → List F1 → List Addr → Prop
  | nil : OwnL K r F H [] [] []
  | pl {v : V} {d : D} {vs : List V} {fs : List F1} {as : List Addr} : Rep K r F v d → OwnL K r F H vs fs as → OwnL K r F H (v :: vs) (.pl d :: fs) as
  | own {p : Addr} {ws : List V} {xs : List D} {vs : List V} {fs : List F1} {as : List Addr} : H p = some (.lst ws) → RepAll K r F ws xs → OwnL K r F H vs fs as → OwnL K r F H (.ref p :: vs) (.own xs :: fs) (p :: as)
def OwnT (K : PySem.W.Frag) (r : List Addr) (F H : Hp) (v : V) : FT → List Addr → Prop
  | .pl d, as => Rep K r F v d ∧ as = []
  | .own xs, as => OwnL K r F H [v] [.own xs] as
  | .tup fs, as => ∃ p vs, v = .ref p ∧ F p = some (.tup vs) ∧ OwnL K r F H vs fs as
/-- the new ones' places -/
def New (H0 : Hp) (m : Store) (r : List Addr) (F : Hp) (as : List Addr) : Prop := as.Nodup ∧ ∀ p ∈ as, H0 p = none ∧ F p = none ∧ ∀ k : Nat, live m k → r[k]? ≠ some p
def RF (K : PySem.W.Frag) : Rel V FT := fun H0 m r F H v ft => ∃ as, OwnT K r F H v ft as ∧ New H0 m r F as
theorem rf_mon {K : PySem.W.Frag} : RMon (RF K) := fun H H1 m r F G a b k ⟨as, h1, h2, h3⟩ => ⟨as, h1, h2, fun p hp => ⟨k p (h3 p hp).1, (h3 p hp).2⟩⟩
section
variable {K : PySem.W.Frag} {r r0 : List Addr} {F H F0 H0 : Hp} {m m0 : Store}
theorem OwnL.mono {r' : List Addr} {F' : Hp} (p : Pre r r') (e : Same F F') : ∀ {vs : List V} {fs : List F1} {as : List Addr}, OwnL K r F H vs fs as → OwnL K r' F' H vs fs as
  | _, _, _, .nil => .nil
  | _, _, _, .pl h t => .pl (h.mono p e) (t.mono p e)
  | _, _, _, .own h q t => .own h (q.mono p e) (t.mono p e)
theorem OwnL.at_some : ∀ {vs : List V} {fs : List F1} {as : List Addr}, OwnL K r F H vs fs as → ∀ p ∈ as, ∃ o, H p = some o
  | _, _, _, .nil, p, hp => nomatch hp
  | _, _, _, .pl _ t, p, hp => t.at_some p hp
  | _, _, _, .own h _ t, p, hp => by
    rcases List.mem_cons.mp hp with rfl | hp
    · exact ⟨_, h⟩
    · exact t.at_some p hp
/-- all are frozen -/
theorem freezeAll : ∀ {as : List Addr} {F : Hp}, New H0 m r F as → (∀ p ∈ as, ∃ o, H p = some o) → HR K r F H m → Ext r0 F0 H0 m0 r F H m → ∃ F', HR K r F' H m ∧ Ext r0 F0 H0 m0 r F' H m ∧ Same F F' ∧ ∀ p ∈ as, F' p = H p
  | [], F, _, _, hr, x => ⟨F, hr, x, Same.refl F, fun p hp => nomatch hp⟩
  | a :: as, F, ⟨nd, hn⟩, ho, hr, x => by
    obtain ⟨o, eo⟩ := ho a List.mem_cons_self
    obtain ⟨h1, h2, h3⟩ := hn a List.mem_cons_self
    have nd' := List.nodup_cons.mp nd
    have s1 : Same F (upd F a o) := fun b u e => by rw [upd_ne (ne_of_none e h2)]; exact e
    obtain ⟨F', hr', x', s', e'⟩ := freezeAll (as := as) (F := upd F a o) ⟨nd'.2, fun p hp => by
      obtain ⟨q1, q2, q3⟩ := hn p (List.mem_cons_of_mem _ hp)
      have ne : p ≠ a := fun z => nd'.1 (z ▸ hp)
      exact ⟨q1, by rw [upd_ne ne]; exact q2, q3⟩⟩ (fun p hp => ho p (List.mem_cons_of_mem _ hp)) (hr.freeze h2 h3 eo) (x.freeze h2 h1)
    refine ⟨F', hr', x', s1.trans s', fun p hp => ?_⟩
    rcases List.mem_cons.mp hp with rfl | hp
    · rw [s' p o upd_same, eo]
    · exact e' p hp
theorem OwnL.dat {F' : Hp} (s : Same F F') : ∀ {vs : List V} {fs : List F1} {as : List Addr}, OwnL K r F H vs fs as → (∀ p ∈ as, F' p = H p) → RepAll K r F' vs (fs.map F1.dat)
  | _, _, _, .nil, _ => .nil
  | _, _, _, .pl h t, e => .cons (h.mono (Pre.refl _) s) (t.dat s e)
  | _, _, _, .own h q t, e => .cons (.lst ((e _ List.mem_cons_self).trans h) (q.mono (Pre.refl _) s)) (t.dat s fun p hp => e p (List.mem_cons_of_mem _ hp))
theorem rf_dat {v : V} {ft : FT} (hr : HR K r F H m) (x : Ext r0 F0 H0 m0 r F H m) (h : RF K H0 m r F H v ft) : ∃ F', HR K r F' H m ∧ Ext r0 F0 H0 m0 r F' H m ∧ Rep K r F' v ft.dat := by
  obtain ⟨as, h1, h2⟩ := h
  cases ft with
  | pl d => exact ⟨F, hr, x, h1.1⟩
  | own xs =>
    obtain ⟨F', hr', x', s, e⟩ := freezeAll h2 (OwnL.at_some h1) hr x
    have := OwnL.dat s h1 e
    cases this with
    | cons q _ => exact ⟨F', hr', x', q⟩
  | tup fs =>
    obtain ⟨p, vs, rfl, hp, h1⟩ := h1
    obtain ⟨F', hr', x', s, e⟩ := freezeAll h2 (OwnL.at_some h1) hr x
    exact ⟨F', hr', x', .tup (s _ _ hp) (OwnL.dat s h1 e)⟩
theorem celAll : ∀ {vs : List V} {fs : List F1} {as : List Addr} {r : List Addr} {m : Store}, OwnL K r F H vs fs as → New H0 m r F as → HR K r F H m → Ext r0 F0 H0 m0 r F H m → ∃ r', HR K r' F H (celL fs m).2 ∧ Ext r0 F0 H0 m0 r' F H (celL fs m).2 ∧ Pre r r' ∧ RepAll K r' F vs (celL fs m).1
  | _, _, _, r, m, .nil, _, hr, x => ⟨r, hr, x, Pre.refl _, .nil⟩
  | _, _, _, r, m, .pl h t, n, hr, x => by
    obtain ⟨r', hr', x', p, q⟩ := celAll t n hr x
    exact ⟨r', hr', x', p, .cons (h.mono p (Same.refl _)) q⟩
  | _, _, _, r, m, .own (p := p) (ws := ws) (xs := xs) h q t, ⟨nd, hn⟩, hr, x => by
    obtain ⟨h1, h2, h3⟩ := hn p List.mem_cons_self
    have nd' := List.nodup_cons.mp nd
    have hc := hr.toCell (c := .lst xs) h2 h3 ⟨ws, h, q⟩
    have pr : Pre r (r ++ [p]) := Pre.app r [p]
    obtain ⟨r', hr', x', p', q'⟩ := celAll (t.mono pr (Same.refl _)) ⟨nd'.2, fun a ha => by
      obtain ⟨q1, q2, q3⟩ := hn a (List.mem_cons_of_mem _ ha)
      refine ⟨q1, q2, fun k l e => ?_⟩
      rcases live_app l with z | rfl
      · rw [List.getElem?_append_left (by rw [hr.len]; exact live_lt z)] at e
        exact q3 k z e
      · have last : (r ++ [p])[m.length]? = some p := by rw [← hr.len]; simp
        rw [last] at e
        cases e
        exact nd'.1 ha⟩ hc (x.toCell hr.len h1)
    refine ⟨r', hr', x', pr.trans p', .cons (.cell (p' _ _ ?_)) q'⟩
    rw [← hr.len]; simp
theorem rf_cel {v : V} {ft : FT} (hr : HR K r F H m) (x : Ext r0 F0 H0 m0 r F H m) (h : RF K H0 m r F H v ft) : ∃ r', HR K r' F H (ft.cel m).2 ∧ Ext r0 F0 H0 m0 r' F H (ft.cel m).2 ∧ Rep K r' F v (ft.cel m).1 := by
  obtain ⟨as, h1, h2⟩ := h
  cases ft with
  | pl d => exact ⟨r, hr, x, h1.1⟩
  | own xs =>
    obtain ⟨r', hr', x', _, q⟩ := celAll h1 h2 hr x
    cases q with
    | cons q _ => exact ⟨r', hr', x', q⟩
  | tup fs =>
    obtain ⟨p, vs, rfl, hp, h1⟩ := h1
    obtain ⟨r', hr', x', _, q⟩ := celAll h1 h2 hr x
    exact ⟨r', hr', x', .tup hp q⟩
end
section
variable {α β κ : Type} {K : PySem.W.Frag} {W : WX} {R : Rel α β} {R' : Rel α κ} {r : List Addr} {F H : Hp} {σ : L2.St} {m m1 m2 : Store} {t : Hp → (α → Hp → Prop) → Prop} {b : β} {c : κ}
theorem JAt.re (h : JAt K W R r F H σ m t (.ok b) m1) (k : ∀ a r' F' H', HR K r' F' H' m1 → Ext r F H m r' F' H' m1 → R H m1 r' F' H' a b → ∃ r'' F'', HR K r'' F'' H' m2 ∧ Ext r F H m r'' F'' H' m2 ∧ R' H m2 r'' F'' H' a c) : JAt K W R' r F H σ m t (.ok c) m2 := fun Q q =>
  h Q fun a r' F' H' h1 h2 h3 => let ⟨r'', F'', q1, q2, q3⟩ := k a r' F' H' h1 h2 h3; q a r'' F'' H' q1 q2 q3
end
/-- taken as data; as a cell; plain -/
def dat (e : MF) : ME := fun δ m => (e δ m).bind fun ft m => ret ft.dat m
def cel (e : MF) : ME := fun δ m => (e δ m).bind fun ft m => ret (ft.cel m).1 (ft.cel m).2
def pla (e : MF) : ME := fun δ m => (e δ m).bind fun ft m => match ft with
  | .pl d => ret d m
  | _ => none
section
variable {K : PySem.W.Frag} {W : WX} {t : TE} {e : MF} {tas : TA} {as : MA}
theorem so_dat (h : So K W (RF K) t e) : So K W (RE K) t (dat e) := fun δ m res m' q r F H σ hr er => by
  rcases bind_some q with ⟨ft, m1, e1, e2⟩ | ⟨y, e1, rfl⟩
  · cases e2
    exact (h δ m _ _ e1 r F H σ hr er).re fun a r' F' H' h1 h2 h3 => let ⟨F'', q1, q2, q3⟩ := rf_dat h1 h2 h3; ⟨r', F'', q1, q2, q3⟩
  · exact h δ m _ _ e1 r F H σ hr er
theorem so_cel (h : So K W (RF K) t e) : So K W (RE K) t (cel e) := fun δ m res m' q r F H σ hr er => by
  rcases bind_some q with ⟨ft, m1, e1, e2⟩ | ⟨y, e1, rfl⟩
  · cases e2
    exact (h δ m _ _ e1 r F H σ hr er).re fun a r' F' H' h1 h2 h3 => let ⟨r'', q1, q2, q3⟩ := rf_cel h1 h2 h3; ⟨r'', F', q1, q2, q3⟩
  · exact h δ m _ _ e1 r F H σ hr er
theorem so_pla (h : So K W (RF K) t e) : So K W (RE K) t (pla e) := fun δ m res m' q r F H σ hr er => by
  rcases bind_some q with ⟨ft, m1, e1, e2⟩ | ⟨y, e1, rfl⟩
  · cases ft with
    | pl d =>
      cases e2
      exact (h δ m _ _ e1 r F H σ hr er).re fun a r' F' H' h1 h2 ⟨as, h3, _⟩ => ⟨r', F', h1, h2, h3.1⟩
    | own xs => cases e2
    | tup fs => cases e2
  · exact h δ m _ _ e1 r F H σ hr er
/-- one new list -/
theorem rf_new {r : List Addr} {F H : Hp} {m : Store} {p : Addr} {vs : List V} {xs : List D} (hr : HR K r F H m) (hp : H p = none) (ra : RepAll K r F vs xs) : HR K r F (upd H p (.lst vs)) m ∧ Ext r F H m r F (upd H p (.lst vs)) m ∧ RF K H m r F (upd H p (.lst vs)) (.ref p) (.own xs) :=
  ⟨hr.side hp, Ext.side hr hp, [p], .own upd_same ra .nil, by simp, fun q hq => by
    cases List.mem_singleton.mp hq
    exact ⟨hp, hr.sub.free hp, fun k l e => (hr.ne_new hp l e) rfl⟩⟩
def fLst (as : MA) : MF := fun δ m => (as δ m).bind fun xs m => if xs.length ≤ 100000 then ret (.own xs) m else none
theorem so_lst (hs : So K W (RA K) tas as) : So K W (RF K) (tLst tas) (fLst as) :=
  So.bind rf_mon hs (k := fun xs δ m => if xs.length ≤ 100000 then ret (FT.own xs) m else none) (u := fun xs σ H Q => xs.length ≤ sizeLine ∧ ∀ p, H p = none → Q (.ref p) (upd H p (.lst xs))) fun x δ m res m' e v r F H σ _ hr er rv => by
    split at e
    · rename_i hl
      cases e
      exact fun Q q => ⟨Evl.sz_of (by rw [rv.len]; exact hl), fun p hp => let ⟨q1, q2, q3⟩ := rf_new hr hp rv; q _ r F _ q1 q2 q3⟩
    · cases e
end

/-! ### statements -/
inductive OT where
  | nx (δ : En) (m : Store)
  | rt (d : D) (m : Store)
  | bk (δ : En) (m : Store)
  | ct (δ : En) (m : Store)
  | ex (x : Str) (δ : En) (m : Store)
def OT.out (K : PySem.W.Frag) : OT → Out
  | .nx δ m => .nx δ m
  | .rt d m => .rt d m
  | .bk δ m => .bk δ m
  | .ct δ m => .ct δ m
  | .ex x δ m => .ex (.ref (ga K x)) δ m
abbrev MS := En → Store → Option OT
def SS (K : PySem.W.Frag) (t : WX → TS) (e : MS) : Prop := ∀ W δ m o, e δ m = some o → YS K W (t W) δ m (o.out K)
def MX.run {α : Type} (x : MX α) (δ : En) (k : α → Store → Option OT) : Option OT :=
  match x with
  | some (.ok a, m) => k a m
  | some (.ex y, m) => some (.ex y δ m)
  | none => none
section
variable {α β : Type} {a : α} {δ : En} {m : Store} {y : Str} {k : α → Store → Option OT}
theorem run_ok : MX.run (some (.ok a, m)) δ k = k a m := rfl
theorem run_ex : MX.run (some (.ex y, m)) δ k = some (.ex y δ m) := rfl
theorem run_none : MX.run none δ k = none := rfl
theorem run_some {x : MX α} {o : OT} (h : x.run δ k = some o) : (∃ a m1, x = some (.ok a, m1) ∧ k a m1 = some o) ∨ ∃ y m1, x = some (.ex y, m1) ∧ o = .ex y δ m1 := by
  cases x with
  | none => cases h
  | some p =>
    obtain ⟨r, m1⟩ := p
    cases r with
    | ok a => exact .inl ⟨a, m1, rfl, h⟩
    | ex y => cases h; exact .inr ⟨y, m1, rfl, rfl⟩
end
theorem SS.run {α β : Type} {K : PySem.W.Frag} {R : Rel α β} {te : WX → L2.St → Hp → (α → Hp → Prop) → Prop} {e : En → Store → MX β} {u : WX → α → TS} {k : β → En → Store → Option OT} (he : ∀ W, So K W R (te W) e)
    (hk : ∀ W b δ m o, k b δ m = some o → ∀ v r F H σ H0 D, HR K r F H m → ER K r F σ δ → R H0 m r F H v b → OutOk K W r F H m D (o.out K) → u W v D σ H) :
    SS K (fun W D σ H => te W σ H fun v H1 => u W v D σ H1) (fun δ m => (e δ m).run δ fun b m => k b δ m) := fun W δ m o q r F H σ D hr er h => by
  rcases run_some q with ⟨b, m1, e1, e2⟩ | ⟨y, m1, e1, rfl⟩
  · exact he W δ m _ _ e1 r F H σ hr er _ fun v r1 F1 H1 hr1 x1 rv => hk W b δ m1 o e2 v r1 F1 H1 σ H D hr1 (er.ext x1) rv (h.ext hr.len hr1.len x1)
  · exact he W δ m _ _ e1 r F H σ hr er (fun r' F' H' hr' x' => h σ r' F' H' hr' (er.ext x') x') _
abbrev MG := D → En → Option En
def SG (K : PySem.W.Frag) (g : TG) (mg : MG) : Prop := ∀ d δ δ', mg d δ = some δ' → YG K g d δ δ'
def SGw (K : PySem.W.Frag) (vs : List Nat) (g : TG) (mg : MG) : Prop := ∀ d δ δ', mg d δ = some δ' → YGw K vs g d δ δ'
abbrev MGs := List D → En → Option En
def SGs (K : PySem.W.Frag) (g : TGs) (mg : MGs) : Prop := ∀ d δ δ', mg d δ = some δ' → YGs K g d δ δ'
def SGws (K : PySem.W.Frag) (vs : List Nat) (g : TGs) (mg : MGs) : Prop := ∀ d δ δ', mg d δ = some δ' → YGws K vs g d δ δ'
def mName (i : Nat) : MG := fun d δ => some (δ.set i (some d))
def msNil : MGs := fun ds δ => match ds with
  | [] => some δ
  | _ => none
def msCons (g : MG) (gs : MGs) : MGs := fun ds δ => match ds with
  | d :: ds => (g d δ).bind fun δ => gs ds δ
  | _ => none
def mTup (gs : MGs) : MG := fun d δ => match d with
  | .tup ds => gs ds δ
  | _ => none
section
variable {K : PySem.W.Frag} {g : TG} {gs : TGs} {mg : MG} {mgs : MGs} {vs : List Nat}
theorem sg_name {i : Nat} : SG K (gName i) (mName i) := fun d δ δ' e => by cases e; exact yg_name
theorem sgs_nil : SGs K gNil msNil := fun d δ δ' e => by
  cases d with
  | nil => cases e; exact ygs_nil
  | cons _ _ => cases e
theorem sgs_cons (h : SG K g mg) (hs : SGs K gs mgs) : SGs K (gCons g gs) (msCons mg mgs) := fun d δ δ' e => by
  cases d with
  | nil => cases e
  | cons d ds =>
    cases q : mg d δ with
    | none => simp [msCons, q] at e
    | some δ1 => simp [msCons, q] at e; exact ygs_cons (h d δ δ1 q) (hs ds δ1 δ' e)
/-- so many targets -/
inductive Many : MGs → Nat → Prop
  | nil : Many msNil 0
  | cons {g : MG} {gs : MGs} {n : Nat} : Many gs n → Many (msCons g gs) (n + 1)
theorem Many.len {gs : MGs} {n : Nat} (h : Many gs n) : ∀ {ds : List D} {δ δ' : En}, gs ds δ = some δ' → ds.length = n := by
  induction h with
  | nil =>
    intro ds δ δ' e
    cases ds with
    | nil => rfl
    | cons _ _ => cases e
  | cons _ ih =>
    intro ds δ δ' e
    cases ds with
    | nil => cases e
    | cons d ds =>
      rename_i g gs' n' _
      cases q : g d δ with
      | none => simp [msCons, q] at e
      | some δ1 =>
        simp [msCons, q] at e
        show ds.length + 1 = n' + 1
        rw [ih e]
theorem sg_tup {n : Nat} (hm : Many mgs n) (hs : SGs K gs mgs) : SG K (gTup K n gs) (mTup mgs) := fun d δ δ' e => by
  cases d with
  | tup ds => exact yg_tup (hm.len e) (hs ds δ δ' e)
  | _ => cases e
theorem sgw_name {i : Nat} (h : i ∈ vs) : SGw K vs (gName i) (mName i) := fun d δ δ' e => by cases e; exact ygw_name h
theorem sgws_nil : SGws K vs gNil msNil := fun d δ δ' e => by
  cases d with
  | nil => cases e; exact ygws_nil
  | cons _ _ => cases e
theorem sgws_cons (h : SGw K vs g mg) (hs : SGws K vs gs mgs) : SGws K vs (gCons g gs) (msCons mg mgs) := fun d δ δ' e => by
  cases d with
  | nil => cases e
  | cons d ds =>
    cases q : mg d δ with
    | none => simp [msCons, q] at e
    | some δ1 => simp [msCons, q] at e; exact ygws_cons (h d δ δ1 q) (hs ds δ1 δ' e)
theorem sgw_tup {n : Nat} (hm : Many mgs n) (hs : SGws K vs gs mgs) : SGw K vs (gTup K n gs) (mTup mgs) := fun d δ δ' e => by
  cases d with
  | tup ds => exact ygw_tup (hm.len e) (hs ds δ δ' e)
  | _ => cases e
end
def sNext : MS := fun δ m => some (.nx δ m)
def sBreak : MS := fun δ m => some (.bk δ m)
def sCont : MS := fun δ m => some (.ct δ m)
def sRetN : MS := fun _ m => some (.rt .non m)
def sSeq (a b : MS) : MS := fun δ m => match a δ m with
  | some (.nx δ m) => b δ m
  | o => o
def sAsg (e : ME) (g : MG) : MS := fun δ m => (e δ m).run δ fun d m => (g d δ).map fun δ => .nx δ m
def sSet (i : Nat) (e : ME) : MS := fun δ m => (e δ m).run δ fun d m => some (.nx (δ.set i (some d)) m)
def sExpr (e : ME) : MS := fun δ m => (e δ m).run δ fun _ m => some (.nx δ m)
def sRet (e : ME) : MS := fun δ m => (e δ m).run δ fun d m => some (.rt d m)
def sIf (t : MT) (a b : MS) : MS := fun δ m => (t δ m).run δ fun c m => cond c (a δ m) (b δ m)
def sRaise (x : Str) : MS := fun δ m => some (.ex x δ m)
section
variable {K : PySem.W.Frag} {te : WX → TE} {tt : WX → TT} {ts tu : WX → TS} {e : ME} {t : MT} {a b : MS} {g : TG} {mg : MG}
theorem ss_next : SS K (fun _ => tNext) sNext := fun W δ m o q => by cases q; exact ys_next
theorem ss_break : SS K (fun _ => tBreak) sBreak := fun W δ m o q => by cases q; exact ys_break
theorem ss_cont : SS K (fun _ => tCont) sCont := fun W δ m o q => by cases q; exact ys_cont
theorem ss_retN : SS K (fun _ => tRetN) sRetN := fun W δ m o q => by cases q; exact ys_retN
theorem ss_seq (ha : SS K ts a) (hb : SS K tu b) : SS K (fun W => tSeq (ts W) (tu W)) (sSeq a b) := fun W δ m o q => by
  unfold sSeq at q
  cases h : a δ m with
  | none => rw [h] at q; cases q
  | some o1 =>
    rw [h] at q
    cases o1 with
    | nx δ1 m1 => exact ys_seq (ha W δ m _ h) (hb W δ1 m1 o q)
    | rt d m1 => cases q; exact ys_seqX (ha W δ m _ h) rfl
    | bk d m1 => cases q; exact ys_seqX (ha W δ m _ h) rfl
    | ct d m1 => cases q; exact ys_seqX (ha W δ m _ h) rfl
    | ex x d m1 => cases q; exact ys_seqX (ha W δ m _ h) rfl
theorem ss_asg (he : ∀ W, So K W (RE K) (te W) e) (hg : SG K g mg) : SS K (fun W => tAsg (te W) g) (sAsg e mg) :=
  SS.run he (u := fun W v D σ H => g v σ H D.nx) (k := fun d δ m => (mg d δ).map fun δ => OT.nx δ m) fun W d δ m o q v r F H σ H0 D hr er rv h => by
    cases z : mg d δ with
    | none => rw [z] at q; cases q
    | some δ1 =>
      rw [z] at q; cases q
      exact hg d δ δ1 z r F H m σ v hr er rv _ fun σ1 er1 => h σ1 r F H hr er1 (Ext.refl hr)
theorem ss_set {i : Nat} (he : ∀ W, So K W (RE K) (te W) e) : SS K (fun W => tAsg (te W) (gName i)) (sSet i e) := ss_asg he sg_name
theorem ss_expr (he : ∀ W, So K W (RE K) (te W) e) : SS K (fun W => tDrop (te W)) (sExpr e) :=
  SS.run he (u := fun W v D σ H => D.nx σ H) (k := fun d δ m => some (OT.nx δ m)) fun W d δ m o q v r F H σ H0 D hr er rv h => by
    cases q; exact h σ r F H hr er (Ext.refl hr)
theorem ss_ret (he : ∀ W, So K W (RE K) (te W) e) : SS K (fun W => tRet (te W)) (sRet e) :=
  SS.run he (u := fun W v D σ H => D.rt v H) (k := fun d δ m => some (OT.rt d m)) fun W d δ m o q v r F H σ H0 D hr er rv h => by
    cases q; exact h v r F H hr (Ext.refl hr) rv
theorem ss_if (ht : ∀ W, So K W RB (tt W) t) (ha : SS K ts a) (hb : SS K tu b) : SS K (fun W => tIfS (tt W) (ts W) (tu W)) (sIf t a b) :=
  SS.run ht (u := fun W (c : Bool) D σ H => if c = true then ts W D σ H else tu W D σ H) (k := fun (c : Bool) δ m => cond c (a δ m) (b δ m)) fun W c δ m o q v r F H σ H0 D hr er rv h => by
    cases rv
    cases c with
    | true => exact ha W δ m o q r F H σ D hr er h
    | false => exact hb W δ m o q r F H σ D hr er h
theorem ss_raise {x : Str} : SS K (fun W => tRaise W (.ref (ga K x))) (sRaise x) := fun W δ m o q => by cases q; exact ys_raise
/-- a statement that is never come to -/
def sNever : MS := fun _ _ => none
theorem ss_never : SS K (fun _ => tNever) sNever := fun W δ m o q => by cases q
end
end DL
namespace DL
open PySem PySem.Spec PyProof.Rows L2

/-! ### loops -/
structure Wk where
  xs : List D
  src : List (Nat × List D)
def Wk.chk (w : Wk) (m : Store) : Prop := ∀ p ∈ w.src, m[p.1]? = some (.lst p.2)
abbrev MI := En → Store → MX Wk
def RI (K : PySem.W.Frag) : Rel It Wk := fun _ _ r F _ J w => ItOk K w.chk J r F w.xs
theorem ri_mon {K : PySem.W.Frag} : RMon (RI K) := fun _ _ _ _ _ _ _ _ _ h => h
open Classical in
noncomputable def forM (g : MG) (b : MS) (c : Store → Prop) : List D → En → Store → Option OT
  | [], δ, m => if c m then some (.nx δ m) else none
  | x :: xs, δ, m => if c m then (g x δ).bind fun δ => match b δ m with
      | some (.nx δ m) => forM g b c xs δ m
      | some (.ct δ m) => forM g b c xs δ m
      | some (.bk δ m) => some (.nx δ m)
      | o => o
    else none
noncomputable def sFor (w : MI) (g : MG) (b : MS) : MS := fun δ m => (w δ m).run δ fun w m => forM g b w.chk w.xs δ m
theorem ss_for {K : PySem.W.Frag} {wi : WX → TI} {g : TG} {t : WX → TS} {w : MI} {mg : MG} {b : MS} (hw : ∀ W, So K W (RI K) (wi W) w) (hg : SG K g mg) (hb : SS K t b) : SS K (fun W => tFor (wi W) g (t W)) (sFor w mg b) :=
  SS.run hw (u := fun W (J : It) D σ H1 => ∃ W' : Nat → Nat → L2.St → Hp → Prop, (∃ m, W' 0 m σ H1) ∧ ∀ i m σ H, W' i m σ H →
    (J.stop i H ∧ D.nx σ H) ∨ (J.go i H ∧ ∃ N : L2.St → Hp → Prop, (∀ σ' H', N σ' H' → ∃ m', m' < m ∧ W' (i + 1) m' σ' H') ∧ ∀ x H', J.yld i H x H' → g x σ H' fun σ2 H2 => t W { D with nx := N, ct := N, bk := D.nx } σ2 H2))
    (k := fun (w : Wk) δ m => forM mg b w.chk w.xs δ m) fun W wk δ m o e J r F H σ H0 D hr er ok q => by
    refine ⟨fun i mm σ' H' => mm = wk.xs.length - i ∧ i ≤ wk.xs.length ∧ ∃ δ' m' r' F', HR K r' F' H' m' ∧ ER K r' F' σ' δ' ∧ Ext r F H m r' F' H' m' ∧ forM mg b wk.chk (wk.xs.drop i) δ' m' = some o,
      ⟨wk.xs.length, by simp, Nat.zero_le _, δ, m, r, F, hr, er, Ext.refl hr, e⟩, ?_⟩
    rintro i mm σ' H' ⟨rfl, hin, δ', m', r', F', hr', er', x', e'⟩
    by_cases hlt : i < wk.xs.length
    · have ed : wk.xs[i]? = some wk.xs[i] := List.getElem?_eq_getElem hlt
      rw [List.drop_eq_getElem_cons hlt] at e'
      unfold forM at e'
      split at e'
      · rename_i hc
        obtain ⟨go, stop⟩ := ok r' F' H' m' x'.pre x'.sub hr' hc i
        obtain ⟨hgo, hy⟩ := go _ ed
        cases hg1 : mg wk.xs[i] δ' with
        | none => rw [hg1] at e'; cases e'
        | some δ1 =>
          rw [hg1] at e'
          simp only [Option.bind_some] at e'
          refine .inr ⟨hgo, fun σ2 H2 => ∃ δ2 m2 r2 F2, HR K r2 F2 H2 m2 ∧ ER K r2 F2 σ2 δ2 ∧ Ext r F H m r2 F2 H2 m2 ∧ forM mg b wk.chk (wk.xs.drop (i + 1)) δ2 m2 = some o, fun σ2 H2 p2 => ⟨wk.xs.length - (i + 1), by omega, rfl, hlt, p2⟩, fun x H'' y => ?_⟩
          obtain ⟨F2, hr2, x2, p2⟩ := hy x H'' y
          refine hg _ _ _ hg1 r' F2 H'' m' σ' x hr2 (er'.ext x2) p2 _ fun σ3 er3 => ?_
          have x02 := x'.trans hr'.len hr.len x2
          cases hb1 : b δ1 m' with
          | none => rw [hb1] at e'; cases e'
          | some o1 =>
            rw [hb1] at e'
            refine hb W δ1 m' o1 hb1 r' F2 H'' σ3 _ hr2 er3 ?_
            cases o1 with
            | nx δ4 m4 => exact fun σ4 r4 F4 H4 hr4 er4 x4 => ⟨δ4, m4, r4, F4, hr4, er4, x02.trans hr2.len hr.len x4, e'⟩
            | ct δ4 m4 => exact fun σ4 r4 F4 H4 hr4 er4 x4 => ⟨δ4, m4, r4, F4, hr4, er4, x02.trans hr2.len hr.len x4, e'⟩
            | bk δ4 m4 => cases e'; exact fun σ4 r4 F4 H4 hr4 er4 x4 => q σ4 r4 F4 H4 hr4 er4 (x02.trans hr2.len hr.len x4)
            | rt d m4 => cases e'; exact fun v r4 F4 H4 hr4 x4 p4 => q v r4 F4 H4 hr4 (x02.trans hr2.len hr.len x4) p4
            | ex y δ4 m4 => cases e'; exact fun σ4 r4 F4 H4 hr4 er4 x4 => q σ4 r4 F4 H4 hr4 er4 (x02.trans hr2.len hr.len x4)
      · cases e'
    · have hi' : i = wk.xs.length := by omega
      subst hi'
      rw [List.drop_length] at e'
      unfold forM at e'
      split at e'
      · rename_i hc
        cases e'
        obtain ⟨go, stop⟩ := ok r' F' H' m' x'.pre x'.sub hr' hc wk.xs.length
        exact .inl ⟨stop (Nat.le_refl _), q σ' r' F' H' hr' er' x'⟩
      · cases e'
def whileN (t : MT) (b : MS) : Nat → En → Store → Option OT
  | 0, _, _ => none
  | n + 1, δ, m => (t δ m).run δ fun c m => cond c (match b δ m with
      | some (.nx δ m) => whileN t b n δ m
      | some (.ct δ m) => whileN t b n δ m
      | some (.bk δ m) => some (.nx δ m)
      | o => o) (some (.nx δ m))
open Classical in
noncomputable def sWhile (t : MT) (b : MS) : MS := fun δ m => if h : ∃ n o, whileN t b n δ m = some o then whileN t b (Classical.choose h) δ m else none
theorem whileN_mono {t : MT} {b : MS} : ∀ {n k : Nat} {δ : En} {m : Store} {o : OT}, whileN t b n δ m = some o → n ≤ k → whileN t b k δ m = some o
  | 0, _, _, _, _, h, _ => by cases h
  | n + 1, 0, _, _, _, _, hk => by omega
  | n + 1, k + 1, δ, m, o, h, hk => by
    unfold whileN at h ⊢
    rcases run_some h with ⟨c, m1, e1, e2⟩ | ⟨y, m1, e1, rfl⟩
    · rw [e1, run_ok]
      cases c with
      | false => exact e2
      | true =>
        dsimp only [cond] at e2 ⊢
        cases hb : b δ m1 with
        | none => rw [hb] at e2; cases e2
        | some o1 =>
          rw [hb] at e2
          cases o1 with
          | nx δ4 m4 => exact whileN_mono e2 (by omega)
          | ct δ4 m4 => exact whileN_mono e2 (by omega)
          | bk δ4 m4 => exact e2
          | rt d m4 => exact e2
          | ex y δ4 m4 => exact e2
    · rw [e1, run_ex]
theorem sWhile_eq {t : MT} {b : MS} {n : Nat} {δ : En} {m : Store} {o : OT} (h : whileN t b n δ m = some o) : sWhile t b δ m = some o := by
  have ex : ∃ n o, whileN t b n δ m = some o := ⟨n, o, h⟩
  unfold sWhile
  rw [dif_pos ex]
  obtain ⟨o', h'⟩ := Classical.choose_spec ex
  rw [h']
  rcases Nat.le_total n (Classical.choose ex) with z | z
  · have := whileN_mono h z
    rw [h'] at this; exact this
  · have := whileN_mono h' z
    rw [h] at this; exact this.symm
theorem ss_while {K : PySem.W.Frag} {tt : WX → TT} {ts : WX → TS} {t : MT} {b : MS} (ht : ∀ W, So K W RB (tt W) t) (hb : SS K ts b) : SS K (fun W => tWhile (tt W) (ts W)) (sWhile t b) := fun W δ m o e r F H σ D hr er q => by
  unfold sWhile at e
  split at e
  · rename_i hex
    refine ⟨fun n σ' H' => ∃ δ' m' r' F', HR K r' F' H' m' ∧ ER K r' F' σ' δ' ∧ Ext r F H m r' F' H' m' ∧ whileN t b n δ' m' = some o, ⟨_, δ, m, r, F, hr, er, Ext.refl hr, e⟩, ?_⟩
    rintro n σ' H' ⟨δ', m', r', F', hr', er', x', e'⟩
    cases n with
    | zero => cases e'
    | succ n =>
      unfold whileN at e'
      rcases run_some e' with ⟨c, m1, e1, e2⟩ | ⟨y, m1, e1, rfl⟩
      · refine ht W δ' m' _ _ e1 r' F' H' σ' hr' er' _ fun c' r1 F1 H1 hr1 x1 rc => ?_
        cases rc
        have x01 := x'.trans hr'.len hr.len x1
        cases c with
        | false =>
          cases e2
          rw [if_neg Bool.false_ne_true]
          exact q σ' r1 F1 H1 hr1 (er'.ext x1) x01
        | true =>
          rw [if_pos rfl]
          dsimp only [cond] at e2
          refine ⟨fun σ2 H2 => ∃ δ2 m2 r2 F2, HR K r2 F2 H2 m2 ∧ ER K r2 F2 σ2 δ2 ∧ Ext r F H m r2 F2 H2 m2 ∧ whileN t b n δ2 m2 = some o, fun σ2 H2 p2 => ⟨n, by omega, p2⟩, ?_⟩
          cases hb1 : b δ' m1 with
          | none => rw [hb1] at e2; cases e2
          | some o1 =>
            rw [hb1] at e2
            refine hb W δ' m1 o1 hb1 r1 F1 H1 σ' _ hr1 (er'.ext x1) ?_
            cases o1 with
            | nx δ4 m4 => exact fun σ4 r4 F4 H4 hr4 er4 x4 => ⟨δ4, m4, r4, F4, hr4, er4, x01.trans hr1.len hr.len x4, e2⟩
            | ct δ4 m4 => exact fun σ4 r4 F4 H4 hr4 er4 x4 => ⟨δ4, m4, r4, F4, hr4, er4, x01.trans hr1.len hr.len x4, e2⟩
            | bk δ4 m4 => cases e2; exact fun σ4 r4 F4 H4 hr4 er4 x4 => q σ4 r4 F4 H4 hr4 er4 (x01.trans hr1.len hr.len x4)
            | rt d m4 => cases e2; exact fun v r4 F4 H4 hr4 x4 p4 => q v r4 F4 H4 hr4 (x01.trans hr1.len hr.len x4) p4
            | ex y δ4 m4 => cases e2; exact fun σ4 r4 F4 H4 hr4 er4 x4 => q σ4 r4 F4 H4 hr4 er4 (x01.trans hr1.len hr.len x4)
      · exact ht W δ' m' _ _ e1 r' F' H' σ' hr' er' (fun r1 F1 H1 hr1 x1 => q σ' r1 F1 H1 hr1 (er'.ext x1) (x'.trans hr'.len hr.len x1)) _
  · cases e

/-! ### comprehensions -/
def MX.sure {α β : Type} (x : MX α) (k : α → Store → MX β) : MX β :=
  match x with
  | some (.ok a, m) => k a m
  | _ => none
section
variable {α β : Type} {a : α} {m : Store} {x : Str} {k : α → Store → MX β}
theorem sure_ok : MX.sure (some (.ok a, m)) k = k a m := rfl
theorem sure_ex : MX.sure (some (.ex x, m)) k = none := rfl
theorem sure_none : MX.sure none k = none := rfl
theorem sure_some {x : MX α} {z : RX β × Store} (h : x.sure k = some z) : ∃ a m1, x = some (.ok a, m1) ∧ k a m1 = some z := by
  cases x with
  | none => cases h
  | some p =>
    obtain ⟨r, m1⟩ := p
    cases r with
    | ok a => exact ⟨a, m1, rfl, h⟩
    | ex y => cases h
end
open Classical in
noncomputable def lcM (g : MG) (t : MT) (e : ME) (c : Store → Prop) (δ : En) : List D → Store → MX (List D)
  | [], m => if c m then ret [] m else none
  | x :: xs, m => if c m then (g x δ).bind fun δ1 => (t δ1 m).sure fun b m => cond b ((e δ1 m).sure fun z m => (lcM g t e c δ xs m).sure fun zs m => ret (z :: zs) m) (lcM g t e c δ xs m)
    else none
noncomputable def fLc (w : MI) (g : MG) (t : MT) (e : ME) (vs : List Nat) : MF := fun δ m => (w δ m).bind fun w m => if w.xs.length < 100000 then (lcM g t e w.chk (wipeE δ vs) w.xs m).sure fun zs m => ret (.own zs) m else none
theorem so_lc {K : PySem.W.Frag} {W : WX} {wi : TI} {g : TG} {tt : TT} {te : TE} {vs : List Nat} {w : MI} {mg : MG} {t : MT} {e : ME} (hw : So K W (RI K) wi w) (hg : SGw K vs g mg) (ht : So K W RB tt t) (he : So K W (RE K) te e) : So K W (RF K) (tLc wi g tt te vs) (fLc w mg t e vs) := fun δ m res mf q r F H σ hr er => by
  rcases bind_some q with ⟨wk, m1, e1, e2⟩ | ⟨y, e1, rfl⟩
  · split at e2
    · rename_i hlen
      obtain ⟨zs, m2, e3, e4⟩ := sure_some e2
      cases e4
      intro Q q
      refine hw δ m _ _ e1 r F H σ hr er _ fun J r1 F1 H1 hr1 x1 ok Dl hD => ?_
      have hD0 : H Dl = none := trk_back x1 hD
      refine ⟨fun i mm H' => mm = wk.xs.length - i ∧ i ≤ wk.xs.length ∧ ∃ m' r' F' ws acc rest, HR K r' F' H' m' ∧ Ext r F H m r' F' H' m' ∧ Pre r1 r' ∧ Same F1 F' ∧ H' Dl = some (.lst ws) ∧ RepAll K r' F' ws acc ∧ F' Dl = none ∧ (∀ (k : Nat), live m' k → r'[k]? ≠ some Dl) ∧ acc.length ≤ i ∧ lcM mg t e wk.chk (wipeE δ vs) (wk.xs.drop i) m' = some (.ok rest, mf) ∧ acc ++ rest = zs,
        ⟨wk.xs.length, by simp, Nat.zero_le _, m1, r1, F1, [], [], zs, hr1.side hD, x1.trans hr1.len hr.len (Ext.side hr1 hD), Pre.refl _, Same.refl _, upd_same, .nil, hr1.sub.free hD, fun k l e => (hr1.ne_new hD l e) rfl, Nat.zero_le _, e3, rfl⟩, ?_⟩
      rintro i mm H' ⟨rfl, hin, m', r', F', ws, acc, rest, hr', x', pr', sm', hw', ra, fD, nD, hacc, ev, hz⟩
      by_cases hlt : i < wk.xs.length
      · have ed : wk.xs[i]? = some wk.xs[i] := List.getElem?_eq_getElem hlt
        rw [List.drop_eq_getElem_cons hlt] at ev
        unfold lcM at ev
        split at ev
        · rename_i hc
          obtain ⟨go, stop⟩ := ok r' F' H' m' pr' sm' hr' hc i
          obtain ⟨hgo, hy⟩ := go _ ed
          cases hg1 : mg wk.xs[i] (wipeE δ vs) with
          | none => rw [hg1] at ev; cases ev
          | some δ1 =>
            rw [hg1] at ev
            simp only [Option.bind_some] at ev
            obtain ⟨b, m3, et, ev2⟩ := sure_some ev
            refine .inr ⟨hgo, fun H2 => ∃ m' r' F' ws acc rest, HR K r' F' H2 m' ∧ Ext r F H m r' F' H2 m' ∧ Pre r1 r' ∧ Same F1 F' ∧ H2 Dl = some (.lst ws) ∧ RepAll K r' F' ws acc ∧ F' Dl = none ∧ (∀ (k : Nat), live m' k → r'[k]? ≠ some Dl) ∧ acc.length ≤ i + 1 ∧ lcM mg t e wk.chk (wipeE δ vs) (wk.xs.drop (i + 1)) m' = some (.ok rest, mf) ∧ acc ++ rest = zs,
              fun H2 p2 => ⟨wk.xs.length - (i + 1), by omega, rfl, hlt, p2⟩, fun x H'' y => ?_⟩
            obtain ⟨F2, hr2, x2, p2⟩ := hy x H'' y
            have er2 : ER K r' F2 (wipe σ vs) (wipeE δ vs) := ((er.ext x').ext x2).wipe vs
            refine hg _ _ _ hg1 r' F2 H'' m' (wipe σ vs) x hr2 er2 p2 _ fun σ3 er3 w3 => ⟨w3.trans wipe_wipe, ?_⟩
            refine ht δ1 m' _ _ et r' F2 H'' σ3 hr2 er3 _ fun b' r4 F4 H4 hr4 x4 rb => ?_
            cases rb
            have x24 := x2.trans hr2.len hr'.len x4
            obtain ⟨hw4, fD4, nD4⟩ := x24.side_keep hr'.len hw' fD nD
            have x04 := x'.trans hr'.len hr.len x24
            cases b with
            | true =>
              rw [if_pos rfl]
              dsimp only [cond] at ev2
              obtain ⟨z, m5, ee, ev3⟩ := sure_some ev2
              obtain ⟨zs', m6, ez, ev4⟩ := sure_some ev3
              cases ev4
              refine he δ1 m3 _ _ ee r4 F4 H4 σ3 hr4 (er3.ext x4) _ fun v r5 F5 H5 hr5 x5 p5 => ?_
              obtain ⟨hw5, fD5, nD5⟩ := x5.side_keep hr4.len hw4 fD4 nD4
              have ra5 := (ra.mono x24.pre x24.sub).mono x5.pre x5.sub
              refine ⟨ws, hw5, Evl.sz_lt (by rw [ra.len]; omega), m5, r5, F5, ws ++ [v], acc ++ [z], zs', hr5.sideSet fD5 nD5 (fun b z => by rw [hw5] at z; cases z), (x04.trans hr4.len hr.len x5).sideSet hD0, (pr'.trans x24.pre).trans x5.pre, (sm'.trans x24.sub).trans x5.sub, upd_same, ra5.app (.one p5), fD5, nD5, ?_, ez, ?_⟩
              · rw [List.length_append]; show acc.length + 1 ≤ i + 1; omega
              · rw [List.append_assoc]; exact hz
            | false =>
              rw [if_neg Bool.false_ne_true]
              exact ⟨m3, r4, F4, ws, acc, rest, hr4, x04, pr'.trans x24.pre, sm'.trans x24.sub, hw4, ra.mono x24.pre x24.sub, fD4, nD4, by omega, ev2, hz⟩
        · cases ev
      · have hi' : i = wk.xs.length := by omega
        subst hi'
        rw [List.drop_length] at ev
        unfold lcM at ev
        split at ev
        · rename_i hc
          cases ev
          rw [List.append_nil] at hz
          subst hz
          obtain ⟨go, stop⟩ := ok r' F' H' mf pr' sm' hr' hc wk.xs.length
          refine .inl ⟨stop (Nat.le_refl _), q (.ref Dl) r' F' H' hr' x' ⟨[Dl], .own hw' ra .nil, by simp, fun p hp => ?_⟩⟩
          cases List.mem_singleton.mp hp
          exact ⟨hD0, fD, nD⟩
        · cases ev
    · cases e2
  · exact fun q Q => hw δ m _ _ e1 r F H σ hr er q _

/-! ### defs and calls -/
abbrev FnS := List D → Store → MX FT
def ResF (K : PySem.W.Frag) (r : List Addr) (F H : Hp) (m : Store) (Q : VK) (E : XK) : RX FT → Store → Prop
  | .ok ft, m' => ∀ v r' F' H', HR K r' F' H' m' → Ext r F H m r' F' H' m' → RF K H m' r' F' H' v ft → Q v H'
  | .ex x, m' => ∀ r' F' H', HR K r' F' H' m' → Ext r F H m r' F' H' m' → E (.ref (ga K x)) none H'
def spF (K : PySem.W.Frag) (f : FnS) : Sp := fun vs H Q E => ∃ r F m ds res m', HR K r F H m ∧ RepAll K r F vs ds ∧ f ds m = some (res, m') ∧ ResF K r F H m Q E res m'
def fCall (f : FnS) (as : MA) : MF := fun δ m => (as δ m).bind fun ds m => f ds m
def fCall0 (f : FnS) (as : MA) : MF := fun δ m => (as δ m).bind fun ds m => (f ds m).sure ret
section
variable {K : PySem.W.Frag} {W : WX} {tas : TA} {as : MA} {f : FnS}
theorem so_call (hs : So K W (RA K) tas as) : So K W (RF K) (tCallS (spF K f) (WE W) tas) (fCall f as) :=
  So.bind rf_mon hs (k := fun ds δ m => f ds m) (u := fun vs σ H Q => spF K f vs H Q (WE W σ)) fun ds δ m res m' e vs r F H σ H0 hr er rv => by
    cases res with
    | ok ft => exact fun Q q => ⟨r, F, m, ds, .ok ft, m', hr, rv, e, fun v r' F' H' h1 h2 h3 => q v r' F' H' h1 h2 h3⟩
    | ex x => exact fun q Q => ⟨r, F, m, ds, .ex x, m', hr, rv, e, fun r' F' H' h1 h2 => q r' F' H' h1 h2⟩
theorem so_call0 (hs : So K W (RA K) tas as) : So K W (RF K) (tCall (spF K f) [] E0 tas) (fCall0 f as) :=
  So.bind rf_mon hs (k := fun ds δ m => (f ds m).sure ret) (u := fun vs σ H Q => spF K f (vs ++ []) H Q E0) fun ds δ m res m' e vs r F H σ H0 hr er rv => by
    obtain ⟨ft, m1, e1, e2⟩ := sure_some e
    cases e2
    intro Q q
    rw [List.append_nil]
    exact ⟨r, F, m, ds, .ok ft, m', hr, rv, e1, fun v r' F' H' h1 h2 h3 => q v r' F' H' h1 h2 h3⟩
end
/-- what a def hands back, seen from outside: its own cells are dropped, what it hands back of them is new -/
def F1.ft : F1 → FT
  | .pl d => .pl d
  | .own xs => .own xs
def resE (n : Nat) (m : Store) (d : D) : Option F1 := match d with
  | .cell k => if k < n then some (.pl (.cell k)) else match m[k]? with
    | some (.lst xs) => if D.unds n xs = true then some (.own xs) else none
    | _ => none
  | d => if d.und n = true then some (.pl d) else none
def resA (n : Nat) (m : Store) : List D → Option (List F1)
  | [] => some []
  | d :: ds => (resE n m d).bind fun f => (resA n m ds).map fun fs => f :: fs
def newK (n : Nat) : List D → List Nat
  | [] => []
  | .cell k :: ds => if k < n then newK n ds else k :: newK n ds
  | _ :: ds => newK n ds
open Classical in
noncomputable def resT (n : Nat) (m : Store) (d : D) : Option FT := match d with
  | .tup ds => if D.unds n ds = true then some (.pl (.tup ds)) else if (newK n ds).Nodup then (resA n m ds).map FT.tup else none
  | d => (resE n m d).map F1.ft
open Classical in
noncomputable def cutS (m0 m' : Store) : Option Store := if m'.length = m0.length then some m' else if Tidy m0 (m'.take m0.length) then some (m'.take m0.length) else none
open Classical in
noncomputable def finF (m0 : Store) (d : D) (m' : Store) : MX FT := if m'.length = m0.length then ret (.pl d) m' else if Tidy m0 (m'.take m0.length) then (resT m0.length m' d).map fun ft => (.ok ft, m'.take m0.length) else none
noncomputable def endF (m0 : Store) : Option OT → MX FT
  | some (.rt d m') => finF m0 d m'
  | some (.nx _ m') => finF m0 .non m'
  | some (.ex x _ m') => (cutS m0 m').map fun m => (.ex x, m)
  | _ => none
noncomputable def fnOf (n N : Nat) (b : MS) : FnS := fun ds m => if ds.length = n then endF m (b (st N ds) m) else none
section
variable {K : PySem.W.Frag} {r r' : List Addr} {F H F' H' : Hp} {m m' m2 : Store}
theorem und_take {n : Nat} {d : D} {v : V} (h : Rep K r F v d) (q : d.und n = true) : Rep K (r.take n) F v d := h.cut q
theorem cut_ok (hr0 : HR K r F H m) (hr : HR K r' F' H' m') (x : Ext r F H m r' F' H' m') (h : cutS m m' = some m2) : ∃ r'', HR K r'' F' H' m2 ∧ Ext r F H m r'' F' H' m2 := by
  unfold cutS at h
  split at h
  · cases h; exact ⟨r', hr, x⟩
  · split at h
    · rename_i ti
      cases h
      have e : m' = m'.take m.length ++ m'.drop m.length := (List.take_append_drop _ _).symm
      have hl : (m'.take m.length).length = m.length := by rw [List.length_take]; have := x.mlen; omega
      rw [e] at hr x
      have q1 := hr0.trunc ti hr
      have q2 := x.trunc hr0.len ti.1
      exact ⟨_, q1, q2⟩
    · cases h
theorem resE_ok (hr0 : HR K r F H m) (hr : HR K r' F' H' m') (x : Ext r F H m r' F' H' m') {v : V} {d : D} {f : F1} (h : resE m.length m' d = some f) (p : Rep K r' F' v d) :
    ∃ as, OwnL K (r'.take m.length) F' H' [v] [f] as ∧ ((∃ d', f = .pl d' ∧ as = []) ∨ ∃ k a, d = .cell k ∧ m.length ≤ k ∧ live m' k ∧ r'[k]? = some a ∧ as = [a] ∧ F' a = none) := by
  have plain : ∀ d : D, (if d.und m.length = true then some (F1.pl d) else none) = some f → Rep K r' F' v d → ∃ as, OwnL K (r'.take m.length) F' H' [v] [f] as ∧ ((∃ d', f = .pl d' ∧ as = []) ∨ ∃ k a, d = .cell k ∧ m.length ≤ k ∧ live m' k ∧ r'[k]? = some a ∧ as = [a] ∧ F' a = none) := by
    intro d h p
    split at h
    · rename_i hu; cases h; exact ⟨[], .pl (p.cut hu) .nil, .inl ⟨d, rfl, rfl⟩⟩
    · cases h
  cases d with
  | cell k =>
    unfold resE at h
    dsimp only at h
    split at h
    · rename_i hk
      cases h
      exact ⟨[], .pl (p.cut (decide_eq_true hk)) .nil, .inl ⟨_, rfl, rfl⟩⟩
    · rename_i hk
      cases p with
      | cell ea =>
        split at h
        · rename_i xs hx
          split at h
          · rename_i hu
            cases h
            obtain ⟨q1, vs, q2, q3⟩ := hr.cell _ _ _ ea hx rfl
            exact ⟨[_], .own q2 (q3.cut hu) .nil, .inr ⟨k, _, rfl, Nat.not_lt.mp hk, ⟨_, hx, rfl⟩, ea, rfl, q1⟩⟩
          · cases h
        · cases h
  | non => exact plain _ h p
  | bl b => exact plain _ h p
  | int b => exact plain _ h p
  | str b => exact plain _ h p
  | lst b => exact plain _ h p
  | tup b => exact plain _ h p
  | scr b => exact plain _ h p
  | exc b => exact plain _ h p
theorem resA_ok (hr0 : HR K r F H m) (hr : HR K r' F' H' m') (x : Ext r F H m r' F' H' m') : ∀ {ds : List D} {vs : List V} {fs : List F1}, resA m.length m' ds = some fs → (newK m.length ds).Nodup → RepAll K r' F' vs ds →
    ∃ as, OwnL K (r'.take m.length) F' H' vs fs as ∧ as.Nodup ∧ ∀ a ∈ as, F' a = none ∧ ∃ k, k ∈ newK m.length ds ∧ m.length ≤ k ∧ live m' k ∧ r'[k]? = some a
  | [], _, _, h, _, .nil => by
    cases h
    exact ⟨[], .nil, .nil, fun a ha => nomatch ha⟩
  | d :: ds, _, fs, h, nd, .cons (v := v) (vs := vs) p ps => by
    unfold resA at h
    cases q : resE m.length m' d with
    | none => rw [q] at h; cases h
    | some f =>
      rw [q] at h
      simp only [Option.bind_some] at h
      cases q2 : resA m.length m' ds with
      | none => rw [q2] at h; cases h
      | some fs' =>
        rw [q2] at h
        cases h
        have sub : ∀ k, k ∈ newK m.length ds → k ∈ newK m.length (d :: ds) := fun k hk => by
          cases d <;> unfold newK <;> first | exact hk | (split <;> first | exact hk | exact List.mem_cons_of_mem _ hk)
        have nd' : (newK m.length ds).Nodup := by
          cases d <;> first | exact nd | (unfold newK at nd; split at nd <;> first | exact nd | exact (List.nodup_cons.mp nd).2)
        obtain ⟨as, h1, h2, h3⟩ := resA_ok hr0 hr x q2 nd' ps
        obtain ⟨as1, g1, g2⟩ := resE_ok hr0 hr x q p
        rcases g2 with ⟨d', rfl, rfl⟩ | ⟨k, a, rfl, hk, lv, ea, rfl, fa⟩
        · cases g1 with
          | pl g _ => exact ⟨as, .pl g h1, h2, fun a ha => let ⟨z1, k, z2, z3⟩ := h3 a ha; ⟨z1, k, sub k z2, z3⟩⟩
        · cases g1 with
          | pl _ g => cases g
          | own g g' _ =>
            have hnk : newK m.length (D.cell k :: ds) = k :: newK m.length ds := by
              show (if k < m.length then newK m.length ds else k :: newK m.length ds) = _
              rw [if_neg (by omega)]
            rw [hnk] at nd
            refine ⟨_ :: as, .own g g' h1, List.nodup_cons.mpr ⟨fun hm => ?_, h2⟩, fun b hb => ?_⟩
            · obtain ⟨_, k2, hk2, _, lv2, ea2⟩ := h3 _ hm
              have := hr.inj k k2 _ ea ea2 lv lv2
              subst this
              exact (List.nodup_cons.mp nd).1 hk2
            · rcases List.mem_cons.mp hb with rfl | hb
              · exact ⟨fa, k, by rw [hnk]; exact List.mem_cons_self, hk, lv, ea⟩
              · obtain ⟨z1, k2, z2, z3⟩ := h3 b hb
                exact ⟨z1, k2, sub k2 z2, z3⟩
theorem fin_ok (hr0 : HR K r F H m) (hr : HR K r' F' H' m') (x : Ext r F H m r' F' H' m') {v : V} {d : D} {res : RX FT} (h : finF m d m' = some (res, m2)) (p : Rep K r' F' v d) : ∃ r'' ft, res = .ok ft ∧ HR K r'' F' H' m2 ∧ Ext r F H m r'' F' H' m2 ∧ RF K H m2 r'' F' H' v ft := by
  unfold finF at h
  split at h
  · cases h
    exact ⟨r', _, rfl, hr, x, [], ⟨p, rfl⟩, .nil, fun a ha => nomatch ha⟩
  · split at h
    · rename_i hne ti
      cases hq : resT m.length m' d with
      | none => rw [hq] at h; cases h
      | some ft =>
        rw [hq] at h
        cases h
        have e : m' = m'.take m.length ++ m'.drop m.length := (List.take_append_drop _ _).symm
        have hl : (m'.take m.length).length = m.length := by rw [List.length_take]; have := x.mlen; omega
        have hrq := hr
        have xq := x
        rw [e] at hr x
        have q1 := hr0.trunc ti hr
        have q2 := x.trunc hr0.len ti.1
        rw [hl] at q1 q2
        have lv' : ∀ j, live (m'.take m.length) j → live m' j ∧ j < m.length := fun j ⟨c, ec, ng⟩ => by
          rw [List.getElem?_take] at ec
          split at ec
          · rename_i hj; exact ⟨⟨c, ec, ng⟩, hj⟩
          · cases ec
        have newOk : ∀ a : Addr, F' a = none → (∃ k : Nat, m.length ≤ k ∧ live m' k ∧ r'[k]? = some a) → H a = none ∧ F' a = none ∧ ∀ j : Nat, live (m'.take m.length) j → (r'.take m.length)[j]? ≠ some a := by
          rintro a fa ⟨k, hk, lv, ea⟩
          refine ⟨xq.fresh k a hk ea, fa, fun j lj ej => ?_⟩
          obtain ⟨l1, l2⟩ := lv' j lj
          rw [List.getElem?_take, if_pos l2] at ej
          have := hrq.inj j k a ej ea l1 lv
          omega
        refine ⟨_, ft, rfl, q1, q2, ?_⟩
        have one : ∀ {d : D} {ft : FT}, (resE m.length m' d).map F1.ft = some ft → Rep K r' F' v d → RF K H (m'.take m.length) (r'.take m.length) F' H' v ft := by
          intro d ft hq p
          cases z : resE m.length m' d with
          | none => rw [z] at hq; cases hq
          | some f =>
            rw [z] at hq
            obtain ⟨as, g1, g2⟩ := resE_ok hr0 hrq xq z p
            rcases g2 with ⟨d', rfl, rfl⟩ | ⟨k, a, rfl, hk, lv, ea, rfl, fa⟩
            · cases hq
              cases g1 with
              | pl g _ => exact ⟨[], ⟨g, rfl⟩, .nil, fun a ha => nomatch ha⟩
            · cases f with
              | pl d' =>
                cases g1 with
                | pl _ g => cases g
              | own xs =>
                cases hq
                exact ⟨[a], g1, by simp, fun b hb => by cases List.mem_singleton.mp hb; exact newOk a fa ⟨k, hk, lv, ea⟩⟩
        cases d with
        | tup ds =>
          unfold resT at hq
          dsimp only at hq
          split at hq
          · rename_i hu
            cases hq
            exact ⟨[], ⟨p.cut hu, rfl⟩, .nil, fun a ha => nomatch ha⟩
          · split at hq
            · rename_i nd
              cases z : resA m.length m' ds with
              | none => rw [z] at hq; cases hq
              | some fs =>
                rw [z] at hq
                cases hq
                cases p with
                | tup hp ps =>
                  obtain ⟨as, g1, g2, g3⟩ := resA_ok hr0 hrq xq z nd ps
                  exact ⟨as, ⟨_, _, rfl, hp, g1⟩, g2, fun a ha => let ⟨z1, k, _, z3⟩ := g3 a ha; newOk a z1 ⟨k, z3⟩⟩
            · cases hq
        | cell k => exact one (d := (.cell k)) hq p
        | non => exact one (d := .non) hq p
        | bl b => exact one (d := (.bl b)) hq p
        | int b => exact one (d := (.int b)) hq p
        | str b => exact one (d := (.str b)) hq p
        | lst b => exact one (d := (.lst b)) hq p
        | scr b => exact one (d := (.scr b)) hq p
        | exc b => exact one (d := (.exc b)) hq p
    · cases h
end
/-- THE RULE for a def -/
theorem fn_okF {CX : CXT} {P : Program} {w : World} {K : PySem.W.Frag} {mg : Str → Option Value} {base : Heap} {x qual : Str} {params : Arguments} {body : List Stmt} {scope : Scope} {f : Addr} {fd : FuncData} {N ps : List Str} {k : Nat} {b : MS}
    (F : FunD K x qual params body scope [] [] f fd) (sc : FnScope N ps scope) (t : WX → TS)
    (hP : ∀ (cdv : Value) (A : Around) (outer : List Env) (s : Shared) (H : Hp) (E : XK), Room k (A.deeper (envOfC qual scope s.heap.objs.size f cdv)) → PSs (cxOf CX P w K mg base N qual scope f cdv A outer s H E) body (t fun cls d _ H' => E cls d H'))
    (hS : SS K t b) : FnOk P w K mg base CX (k + 1) f fd ps (spF K (fnOf ps.length N.length b)) := by
  refine F.ok sc (fun vs H Q E h => ?_) (fun cdv A outer s H vs Q E hr h => ?_)
  · obtain ⟨r, F, m, ds, res, m', _, p, hs, _⟩ := h
    rw [p.len]
    unfold fnOf at hs
    split at hs
    · rename_i hl; exact hl
    · cases hs
  · obtain ⟨r, F, m, ds, res, m', hr0, p, hs, q⟩ := h
    unfold fnOf at hs
    split at hs
    · refine ⟨_, hP cdv A outer s H E hr, ?_⟩
      cases ho : b (st N.length ds) m with
      | none => rw [ho] at hs; cases hs
      | some o =>
        rw [ho] at hs
        refine hS (fun cls d _ H' => E cls d H') _ _ _ ho r F H _ _ hr0 (er_start p) ?_
        cases o with
        | rt d m1 =>
            intro v r' F' H' h1 x1 p1
            obtain ⟨r'', ft, rfl, z1, z2, z3⟩ := fin_ok hr0 h1 x1 hs p1
            exact q v r'' F' H' z1 z2 z3
        | nx δ m1 =>
            intro σ' r' F' H' h1 _ x1
            obtain ⟨r'', ft, rfl, z1, z2, z3⟩ := fin_ok (v := .non) hr0 h1 x1 hs .non
            exact q .non r'' F' H' z1 z2 z3
        | ex y δ m1 =>
            intro σ' r' F' H' h1 _ x1
            have hs' : (cutS m m1).map (fun m => ((RX.ex y : RX FT), m)) = some (res, m') := hs
            cases z : cutS m m1 with
            | none => rw [z] at hs'; cases hs'
            | some m3 =>
              rw [z] at hs'
              cases hs'
              obtain ⟨r'', z1, z2⟩ := cut_ok hr0 h1 x1 z
              exact q r'' F' H' z1 z2
        | bk δ m1 => cases hs
        | ct δ m1 => cases hs
    · cases hs
end DL
namespace DL
open PySem PySem.Spec PyProof.Rows L2
/-! ### what is read as a list -/
def rdL (m : Store) : D → Option (List D)
  | .lst xs => some xs
  | .cell k => match m[k]? with
    | some (.lst xs) => some xs
    | _ => none
  | _ => none
def rdQ (m : Store) : D → Option (List D)
  | .lst xs => some xs
  | .cell k => match m[k]? with
    | some (.lst xs) => some xs
    | _ => none
  | .scr ns => some (ns.map D.int)
  | _ => none
/-- .. or as a tuple -/
def rdS (m : Store) : D → Option (List D)
  | .lst xs => some xs
  | .cell k => match m[k]? with
    | some (.lst xs) => some xs
    | _ => none
  | .scr ns => some (ns.map D.int)
  | .tup xs => some xs
  | _ => none
section
variable {K : PySem.W.Frag} {m : Store} {d : D} {r : List Addr} {F H : Hp} {v : V} {xs : List D}
theorem cell_some {k : Nat} (h : (match m[k]? with | some (.lst xs) => some xs | _ => none) = some xs) : m[k]? = some (.lst xs) := by
  split at h
  · rename_i e; cases h; exact e
  · cases h
theorem rdL_get (h : rdL m d = some xs) (hr : HR K r F H m) (p : Rep K r F v d) : ∃ a vs, v = .ref a ∧ H a = some (.lst vs) ∧ RepAll K r F vs xs := by
  cases d with
  | lst ys => cases h; exact IsL.get (.lst (m := m)) hr p
  | cell k => exact IsL.get (.cell (cell_some h)) hr p
  | _ => cases h
theorem repAll_ints : ∀ (ns : List Int), RepAll K r F (ns.map V.int) (ns.map D.int)
  | [] => .nil
  | n :: ns => .cons (.int n) (repAll_ints ns)
theorem rdQ_get (h : rdQ m d = some xs) (hr : HR K r F H m) (p : Rep K r F v d) : ∃ a vs, v = .ref a ∧ SqL K H a vs ∧ RepAll K r F vs xs := by
  cases d with
  | lst ys => cases h; obtain ⟨a, vs, e, h1, h2⟩ := IsL.get (.lst (m := m)) hr p; exact ⟨a, vs, e, SqL.of h1, h2⟩
  | cell k => obtain ⟨a, vs, e, h1, h2⟩ := IsL.get (.cell (cell_some h)) hr p; exact ⟨a, vs, e, SqL.of h1, h2⟩
  | scr ns => cases h; cases p with
    | scr hs => exact ⟨_, _, rfl, hr.sub.seq hs, repAll_ints ns⟩
  | _ => cases h
theorem rdS_get (h : rdS m d = some xs) (hr : HR K r F H m) (p : Rep K r F v d) : ∃ a vs, v = .ref a ∧ (SqL K H a vs ∨ SqT K H a vs) ∧ RepAll K r F vs xs := by
  cases d with
  | lst ys => cases h; obtain ⟨a, vs, e, h1, h2⟩ := IsL.get (.lst (m := m)) hr p; exact ⟨a, vs, e, .inl (SqL.of h1), h2⟩
  | cell k => obtain ⟨a, vs, e, h1, h2⟩ := IsL.get (.cell (cell_some h)) hr p; exact ⟨a, vs, e, .inl (SqL.of h1), h2⟩
  | scr ns => cases h; cases p with
    | scr hs => exact ⟨_, _, rfl, .inl (hr.sub.seq hs), repAll_ints ns⟩
  | tup ys => cases h; cases p with
    | tup hs ha => exact ⟨_, _, rfl, .inr (SqT.of (hr.sub _ _ hs)), ha⟩
  | _ => cases h
end
/-! ### whole numbers -/
def pAdd : D → D → Store → MX D := fun x y m => match x, y with
  | .int i, .int j => ret (.int (i + j)) m
  | _, _ => none
theorem s2_pAdd {K : PySem.W.Frag} {W : WX} : S2 K W oAdd pAdd := fun x y m res m' e r F H σ vx vy hr px py => by
  unfold pAdd at e
  split at e
  · cases e; cases px; cases py
    exact fun Q q => ⟨_, _, rfl, rfl, q _ r F H hr (Ext.refl hr) (.int _)⟩
  · cases e
def pSub : D → D → Store → MX D := fun x y m => match x, y with
  | .int i, .int j => ret (.int (i - j)) m
  | _, _ => none
theorem s2_pSub {K : PySem.W.Frag} {W : WX} : S2 K W oSub pSub := fun x y m res m' e r F H σ vx vy hr px py => by
  unfold pSub at e
  split at e
  · cases e; cases px; cases py
    exact fun Q q => ⟨_, _, rfl, rfl, q _ r F H hr (Ext.refl hr) (.int _)⟩
  · cases e
open Classical in
noncomputable def pMul : D → D → Store → MX D := fun x y m => match x, y with
  | .int i, .int j => if CMul i j then ret (.int (i * j)) m else none
  | _, _ => none
theorem s2_pMul {K : PySem.W.Frag} {W : WX} : S2 K W oMul pMul := fun x y m res m' e r F H σ vx vy hr px py => by
  unfold pMul at e
  split at e
  · split at e
    · rename_i hc
      cases e; cases px; cases py
      exact fun Q q => ⟨_, _, rfl, rfl, hc, q _ r F H hr (Ext.refl hr) (.int _)⟩
    · cases e
  · cases e
open Classical in
noncomputable def pDiv : D → D → Store → MX D := fun x y m => match x, y with
  | .int i, .int j => if CDivW i j then ret (.int (i / j)) m else none
  | _, _ => none
theorem s2_pDiv {K : PySem.W.Frag} {W : WX} : S2 K W oDiv pDiv := fun x y m res m' e r F H σ vx vy hr px py => by
  unfold pDiv at e
  split at e
  · split at e
    · rename_i hc
      cases e; cases px; cases py
      exact fun Q q => ⟨_, _, rfl, rfl, hc, q _ r F H hr (Ext.refl hr) (.int _)⟩
    · cases e
  · cases e
open Classical in
noncomputable def pMod : D → D → Store → MX D := fun x y m => match x, y with
  | .int i, .int j => if 0 < j then ret (.int (i % j)) m else none
  | _, _ => none
theorem s2_pMod {K : PySem.W.Frag} {W : WX} : S2 K W oMod pMod := fun x y m res m' e r F H σ vx vy hr px py => by
  unfold pMod at e
  split at e
  · split at e
    · rename_i hc
      cases e; cases px; cases py
      exact fun Q q => ⟨_, _, rfl, rfl, hc, q _ r F H hr (Ext.refl hr) (.int _)⟩
    · cases e
  · cases e
open Classical in
noncomputable def pPow : D → D → Store → MX D := fun x y m => match x, y with
  | .int i, .int j => if CPow i j then ret (.int (i ^ j.toNat)) m else none
  | _, _ => none
theorem s2_pPow {K : PySem.W.Frag} {W : WX} : S2 K W oPow pPow := fun x y m res m' e r F H σ vx vy hr px py => by
  unfold pPow at e
  split at e
  · split at e
    · rename_i hc
      cases e; cases px; cases py
      exact fun Q q => ⟨_, _, rfl, rfl, hc, q _ r F H hr (Ext.refl hr) (.int _)⟩
    · cases e
  · cases e
def pLt : D → D → Store → MX D := fun x y m => match x, y with
  | .int i, .int j => ret (.bl (decide (i < j))) m
  | _, _ => none
theorem s2_pLt {K : PySem.W.Frag} {W : WX} : S2 K W oLt pLt := fun x y m res m' e r F H σ vx vy hr px py => by
  unfold pLt at e
  split at e
  · cases e; cases px; cases py
    exact fun Q q => ⟨_, _, rfl, rfl, q _ r F H hr (Ext.refl hr) (.bl _)⟩
  · cases e
def pLe : D → D → Store → MX D := fun x y m => match x, y with
  | .int i, .int j => ret (.bl (decide (i ≤ j))) m
  | _, _ => none
theorem s2_pLe {K : PySem.W.Frag} {W : WX} : S2 K W oLe pLe := fun x y m res m' e r F H σ vx vy hr px py => by
  unfold pLe at e
  split at e
  · cases e; cases px; cases py
    exact fun Q q => ⟨_, _, rfl, rfl, q _ r F H hr (Ext.refl hr) (.bl _)⟩
  · cases e
def pGt : D → D → Store → MX D := fun x y m => match x, y with
  | .int i, .int j => ret (.bl (decide (j < i))) m
  | _, _ => none
theorem s2_pGt {K : PySem.W.Frag} {W : WX} : S2 K W oGt pGt := fun x y m res m' e r F H σ vx vy hr px py => by
  unfold pGt at e
  split at e
  · cases e; cases px; cases py
    exact fun Q q => ⟨_, _, rfl, rfl, q _ r F H hr (Ext.refl hr) (.bl _)⟩
  · cases e
def pGe : D → D → Store → MX D := fun x y m => match x, y with
  | .int i, .int j => ret (.bl (decide (j ≤ i))) m
  | _, _ => none
theorem s2_pGe {K : PySem.W.Frag} {W : WX} : S2 K W oGe pGe := fun x y m res m' e r F H σ vx vy hr px py => by
  unfold pGe at e
  split at e
  · cases e; cases px; cases py
    exact fun Q q => ⟨_, _, rfl, rfl, q _ r F H hr (Ext.refl hr) (.bl _)⟩
  · cases e
def pNeg : D → Store → MX D := fun x m => match x with
  | .int i => ret (.int (-i)) m
  | _ => none
theorem s1_pNeg {K : PySem.W.Frag} {W : WX} : S1 K W oNeg pNeg := fun x m res m' e r F H σ vx hr px => by
  cases x with
  | int i => cases e; cases px; exact fun Q q => ⟨_, rfl, q _ r F H hr (Ext.refl hr) (.int _)⟩
  | _ => cases e
def pEq : D → D → Store → MX D := fun x y m => match x, y with
  | .int i, .int j => ret (.bl (decide (i = j))) m
  | .bl i, .bl j => ret (.bl (decide (i = j))) m
  | .str i, .str j => ret (.bl (decide (i = j))) m
  | .non, .non => ret (.bl (true)) m
  | .non, .int _ => ret (.bl (false)) m
  | .int _, .non => ret (.bl (false)) m
  | _, _ => none
theorem s2_pEq {K : PySem.W.Frag} {W : WX} : S2 K W rEq pEq := fun x y m res m' e r F H σ vx vy hr px py => by
  unfold pEq at e
  split at e
  · cases e; cases px; cases py
    refine fun Q q => ⟨rfl, ?_⟩
    rw [DL.dec_int]; exact q _ r F H hr (Ext.refl hr) (.bl _)
  · cases e; cases px; cases py
    refine fun Q q => ⟨rfl, ?_⟩
    rw [DL.dec_bl]; exact q _ r F H hr (Ext.refl hr) (.bl _)
  · cases e; cases px; cases py
    refine fun Q q => ⟨rfl, ?_⟩
    rw [DL.dec_str]; exact q _ r F H hr (Ext.refl hr) (.bl _)
  · cases e; cases px; cases py
    exact fun Q q => ⟨rfl, q _ r F H hr (Ext.refl hr) (.bl _)⟩
  · cases e; cases px; cases py
    exact fun Q q => ⟨rfl, q _ r F H hr (Ext.refl hr) (.bl _)⟩
  · cases e; cases px; cases py
    exact fun Q q => ⟨rfl, q _ r F H hr (Ext.refl hr) (.bl _)⟩
  · cases e
def pNe : D → D → Store → MX D := fun x y m => match x, y with
  | .int i, .int j => ret (.bl (!decide (i = j))) m
  | .bl i, .bl j => ret (.bl (!decide (i = j))) m
  | .str i, .str j => ret (.bl (!decide (i = j))) m
  | .non, .non => ret (.bl (!true)) m
  | .non, .int _ => ret (.bl (!false)) m
  | .int _, .non => ret (.bl (!false)) m
  | _, _ => none
theorem s2_pNe {K : PySem.W.Frag} {W : WX} : S2 K W rNe pNe := fun x y m res m' e r F H σ vx vy hr px py => by
  unfold pNe at e
  split at e
  · cases e; cases px; cases py
    refine fun Q q => ⟨rfl, ?_⟩
    rw [DL.dec_int]; exact q _ r F H hr (Ext.refl hr) (.bl _)
  · cases e; cases px; cases py
    refine fun Q q => ⟨rfl, ?_⟩
    rw [DL.dec_bl]; exact q _ r F H hr (Ext.refl hr) (.bl _)
  · cases e; cases px; cases py
    refine fun Q q => ⟨rfl, ?_⟩
    rw [DL.dec_str]; exact q _ r F H hr (Ext.refl hr) (.bl _)
  · cases e; cases px; cases py
    exact fun Q q => ⟨rfl, q _ r F H hr (Ext.refl hr) (.bl _)⟩
  · cases e; cases px; cases py
    exact fun Q q => ⟨rfl, q _ r F H hr (Ext.refl hr) (.bl _)⟩
  · cases e; cases px; cases py
    exact fun Q q => ⟨rfl, q _ r F H hr (Ext.refl hr) (.bl _)⟩
  · cases e
def pIsN : D → D → Store → MX D := fun x y m => match y with
  | .non => ret (.bl (x.isNon)) m
  | _ => none
theorem s2_pIsN {K : PySem.W.Frag} {W : WX} : S2 K W oIsN pIsN := fun x y m res m' e r F H σ vx vy hr px py => by
  cases y with
  | non =>
    cases e; cases py
    refine fun Q q => ⟨rfl, ?_⟩
    have : decide (vx = V.non) = x.isNon := by cases px <;> rfl
    rw [this]; exact q _ r F H hr (Ext.refl hr) (.bl _)
  | _ => cases e
def pNotN : D → D → Store → MX D := fun x y m => match y with
  | .non => ret (.bl (!x.isNon)) m
  | _ => none
theorem s2_pNotN {K : PySem.W.Frag} {W : WX} : S2 K W oNotN pNotN := fun x y m res m' e r F H σ vx vy hr px py => by
  cases y with
  | non =>
    cases e; cases py
    refine fun Q q => ⟨rfl, ?_⟩
    have : decide (vx = V.non) = x.isNon := by cases px <;> rfl
    rw [this]; exact q _ r F H hr (Ext.refl hr) (.bl _)
  | _ => cases e
/-! ### == of data at any depth -/
def vw (m : Store) : D → Option D
  | .cell k => match m[k]? with
    | some (.lst xs) => some (.lst xs)
    | _ => none
  | d => some d
def eqb (d e : D) : Bool := PyData.eqv d.toPy e.toPy
theorem vw_sd {m : Store} {d d' : D} (h : vw m d = some d') (s : Sh 60 d') : Sd m d d' := by
  cases d with
  | cell k =>
    unfold vw at h
    dsimp only at h
    split at h
    · rename_i e; cases h; exact .cell e s
    · cases h
  | non => cases h; exact .data s
  | bl _ => cases h; exact .data s
  | int _ => cases h; exact .data s
  | str _ => cases h; exact .data s
  | lst _ => cases h; exact .data s
  | tup _ => cases h; exact .data s
  | scr _ => cases h; exact .data s
  | exc _ => cases h; exact .data s
open Classical in
noncomputable def pEqD : D → D → Store → MX D := fun x y m => (vw m x).bind fun x => (vw m y).bind fun y => if Sh 60 x ∧ Sh 60 y then ret (.bl (eqb x y)) m else none
theorem s2_pEqD {K : PySem.W.Frag} {W : WX} : S2 K W (rEqD K) pEqD := fun x y m res m' e r F H σ vx vy hr px py => by
  unfold pEqD at e
  cases h1 : vw m x with
  | none => rw [h1] at e; cases e
  | some x' =>
    rw [h1] at e
    cases h2 : vw m y with
    | none => rw [h2] at e; cases e
    | some y' =>
      rw [h2] at e
      simp only [Option.bind_some] at e
      split at e
      · rename_i hs
        cases e
        have s1 := vw_sd h1 hs.1
        have s2 := vw_sd h2 hs.2
        exact fun Q q => ⟨_, _, s1.pd.1.dp hr px, s2.pd.1.dp hr py, s1.pd.2.1, s2.pd.2.1, q _ r F H hr (Ext.refl hr) (.bl _)⟩
      · cases e
open Classical in
noncomputable def pNeD : D → D → Store → MX D := fun x y m => (vw m x).bind fun x => (vw m y).bind fun y => if Sh 60 x ∧ Sh 60 y then ret (.bl (!eqb x y)) m else none
theorem s2_pNeD {K : PySem.W.Frag} {W : WX} : S2 K W (rNeD K) pNeD := fun x y m res m' e r F H σ vx vy hr px py => by
  unfold pNeD at e
  cases h1 : vw m x with
  | none => rw [h1] at e; cases e
  | some x' =>
    rw [h1] at e
    cases h2 : vw m y with
    | none => rw [h2] at e; cases e
    | some y' =>
      rw [h2] at e
      simp only [Option.bind_some] at e
      split at e
      · rename_i hs
        cases e
        have s1 := vw_sd h1 hs.1
        have s2 := vw_sd h2 hs.2
        exact fun Q q => ⟨_, _, s1.pd.1.dp hr px, s2.pd.1.dp hr py, s1.pd.2.1, s2.pd.2.1, q _ r F H hr (Ext.refl hr) (.bl _)⟩
      · cases e
/-! ### items, lengths -/
def pIxT : D → D → Store → MX D := fun x y m => match x, y with
  | .tup ds, .int i => (L2.atI ds i).bind fun d => ret d m
  | _, _ => none
theorem s2_pIxT {K : PySem.W.Frag} {W : WX} : S2 K W (rIxT K) pIxT := fun x y m res m' e r F H σ vx vy hr px py => by
  unfold pIxT at e
  split at e
  · rename_i ds i
    cases h : L2.atI ds i with
    | none => rw [h] at e; cases e
    | some d =>
      rw [h] at e; cases e
      exact y_ixT h r F H vx vy hr px py
  · cases e
def pIxL : D → D → Store → MX D := fun x y m => match y with
  | .int i => (rdQ m x).bind fun ds => (L2.atI ds i).bind fun d => ret d m
  | _ => none
theorem s2_pIxL {K : PySem.W.Frag} {W : WX} : S2 K W (rIxL K) pIxL := fun x y m res m' e r F H σ vx vy hr px py => by
  unfold pIxL at e
  split at e
  · rename_i i
    cases h0 : rdQ m x with
    | none => rw [h0] at e; cases e
    | some ds =>
      rw [h0] at e
      simp only [Option.bind_some] at e
      cases h : L2.atI ds i with
      | none => rw [h] at e; cases e
      | some d =>
        rw [h] at e; cases e
        cases py
        obtain ⟨a, vs, rfl, hs, ra⟩ := rdQ_get h0 hr px
        obtain ⟨v, e1, p⟩ := ra.atI h
        exact fun Q q => ⟨_, _, i, v, rfl, rfl, hs, e1, q _ r F H hr (Ext.refl hr) p⟩
  · cases e
def pLen : List D → Store → MX D := fun xs m => match xs with
  | [d] => (rdS m d).bind fun ds => ret (.int ds.length) m
  | _ => none
theorem rep1 {K : PySem.W.Frag} {r : List Addr} {F : Hp} {vs : List V} {d : D} (p : RepAll K r F vs [d]) : ∃ v, vs = [v] ∧ Rep K r F v d := by
  cases p with
  | cons p q => cases q; exact ⟨_, rfl, p⟩
theorem rep2 {K : PySem.W.Frag} {r : List Addr} {F : Hp} {vs : List V} {d e : D} (p : RepAll K r F vs [d, e]) : ∃ v w, vs = [v, w] ∧ Rep K r F v d ∧ Rep K r F w e := by
  cases p with
  | cons p q => obtain ⟨w, rfl, pw⟩ := rep1 q; exact ⟨_, _, rfl, p, pw⟩
theorem rep3 {K : PySem.W.Frag} {r : List Addr} {F : Hp} {vs : List V} {d e f : D} (p : RepAll K r F vs [d, e, f]) : ∃ v w z, vs = [v, w, z] ∧ Rep K r F v d ∧ Rep K r F w e ∧ Rep K r F z f := by
  cases p with
  | cons p q => obtain ⟨w, z, rfl, pw, pz⟩ := rep2 q; exact ⟨_, _, _, rfl, p, pw, pz⟩
theorem sc_pLen {K : PySem.W.Frag} {W : WX} : SC K W (RE K) (Evl.rLenS K) pLen := fun xs m res m' e r F H σ vs hr p => by
  unfold pLen at e
  split at e
  · rename_i d
    cases h0 : rdS m d with
    | none => rw [h0] at e; cases e
    | some ds =>
      rw [h0] at e; cases e
      obtain ⟨v, rfl, pv⟩ := rep1 p
      obtain ⟨a, ws, rfl, hs, ra⟩ := rdS_get h0 hr pv
      refine fun Q q => ⟨_, _, rfl, hs, ?_⟩
      rw [ra.len]; exact q _ r F H hr (Ext.refl hr) (.int _)
  · cases e
def pMax2 : List D → Store → MX D := fun xs m => match xs with
  | [.int i, .int j] => ret (.int (max i j)) m
  | _ => none
theorem sc_pMax2 {K : PySem.W.Frag} {W : WX} : SC K W (RE K) Evl.rMax2 pMax2 := fun xs m res m' e r F H σ vs hr p => by
  unfold pMax2 at e
  split at e
  · rename_i i j
    cases e
    obtain ⟨v, w, rfl, pv, pw⟩ := rep2 p
    cases pv; cases pw
    have z : (if j > i then j else i) = max i j := by split <;> omega
    refine fun Q q => ⟨i, j, rfl, ?_⟩
    rw [z]; exact q _ r F H hr (Ext.refl hr) (.int _)
  · cases e
def pMin2 : List D → Store → MX D := fun xs m => match xs with
  | [.int i, .int j] => ret (.int (min i j)) m
  | _ => none
theorem sc_pMin2 {K : PySem.W.Frag} {W : WX} : SC K W (RE K) rMin2 pMin2 := fun xs m res m' e r F H σ vs hr p => by
  unfold pMin2 at e
  split at e
  · rename_i i j
    cases e
    obtain ⟨v, w, rfl, pv, pw⟩ := rep2 p
    cases pv; cases pw
    have z : (if j < i then j else i) = min i j := by split <;> omega
    refine fun Q q => ⟨i, j, rfl, ?_⟩
    rw [z]; exact q _ r F H hr (Ext.refl hr) (.int _)
  · cases e
def pMax3 : List D → Store → MX D := fun xs m => match xs with
  | [.int i, .int j, .int k] => ret (.int (max (max i j) k)) m
  | _ => none
theorem sc_pMax3 {K : PySem.W.Frag} {W : WX} : SC K W (RE K) (rNuC3 nuMax3) pMax3 := fun xs m res m' e r F H σ vs hr p => by
  unfold pMax3 at e
  split at e
  · cases e
    exact y_max3 r F H vs hr p
  · cases e
def pMin3 : List D → Store → MX D := fun xs m => match xs with
  | [.int i, .int j, .int k] => ret (.int (min (min i j) k)) m
  | _ => none
theorem sc_pMin3 {K : PySem.W.Frag} {W : WX} : SC K W (RE K) (rNuC3 nuMin3) pMin3 := fun xs m res m' e r F H σ vs hr p => by
  unfold pMin3 at e
  split at e
  · cases e
    exact y_min3 r F H vs hr p
  · cases e
def pAbs : List D → Store → MX D := fun xs m => match xs with
  | [.int i] => ret (.int (if i < 0 then -i else i)) m
  | _ => none
theorem sc_pAbs {K : PySem.W.Frag} {W : WX} : SC K W (RE K) rAbs pAbs := fun xs m res m' e r F H σ vs hr p => by
  unfold pAbs at e
  split at e
  · cases e
    obtain ⟨v, rfl, pv⟩ := rep1 p
    cases pv
    exact fun Q q => ⟨_, rfl, q _ r F H hr (Ext.refl hr) (.int _)⟩
  · cases e
/-! ### lists of numbers, of truths -/
def toInts : List D → Option (List Int)
  | [] => some []
  | .int i :: ds => (toInts ds).map fun ns => i :: ns
  | _ :: _ => none
def bools : List D → Option (List Bool)
  | [] => some []
  | .bl i :: ds => (bools ds).map fun ns => i :: ns
  | _ :: _ => none
theorem toInts_eq : ∀ {ds : List D} {ns : List Int}, toInts ds = some ns → ds = ns.map D.int
  | [], _, h => by cases h; rfl
  | d :: ds, ns, h => by
    cases d with
    | int i =>
      unfold toInts at h
      cases q : toInts ds with
      | none => rw [q] at h; cases h
      | some ms => rw [q] at h; cases h; rw [toInts_eq q]; rfl
    | _ => cases h
theorem bools_eq : ∀ {ds : List D} {ns : List Bool}, bools ds = some ns → ds = ns.map D.bl
  | [], _, h => by cases h; rfl
  | d :: ds, ns, h => by
    cases d with
    | bl i =>
      unfold bools at h
      cases q : bools ds with
      | none => rw [q] at h; cases h
      | some ms => rw [q] at h; cases h; rw [bools_eq q]; rfl
    | _ => cases h
theorem toInts_map : ∀ ns : List Int, toInts (ns.map D.int) = some ns
  | [] => rfl
  | n :: ns => by
    show (toInts (ns.map D.int)).map _ = _
    rw [toInts_map ns]; rfl
theorem bools_map : ∀ ns : List Bool, bools (ns.map D.bl) = some ns
  | [] => rfl
  | n :: ns => by
    show (bools (ns.map D.bl)).map _ = _
    rw [bools_map ns]; rfl
def imax : List Int → Int
  | [] => 0
  | [a] => a
  | a :: b :: l => max a (imax (b :: l))
def imin : List Int → Int
  | [] => 0
  | [a] => a
  | a :: b :: l => min a (imin (b :: l))
theorem imax_mem : ∀ {l : List Int}, l ≠ [] → imax l ∈ l
  | [a], _ => List.mem_cons_self
  | a :: b :: l, _ => by
    have ih := imax_mem (l := b :: l) (by simp)
    show max a (imax (b :: l)) ∈ _
    rcases Int.le_total a (imax (b :: l)) with h | h
    · rw [Int.max_eq_right h]; exact List.mem_cons_of_mem _ ih
    · rw [Int.max_eq_left h]; exact List.mem_cons_self
theorem imax_ge : ∀ {l : List Int} {x : Int}, x ∈ l → x ≤ imax l
  | [a], x, h => by cases List.mem_singleton.mp h; exact Int.le_refl _
  | a :: b :: l, x, h => by
    show x ≤ max a (imax (b :: l))
    rcases List.mem_cons.mp h with rfl | h
    · exact Int.le_max_left _ _
    · exact Int.le_trans (imax_ge h) (Int.le_max_right _ _)
theorem imin_mem : ∀ {l : List Int}, l ≠ [] → imin l ∈ l
  | [a], _ => List.mem_cons_self
  | a :: b :: l, _ => by
    have ih := imin_mem (l := b :: l) (by simp)
    show min a (imin (b :: l)) ∈ _
    rcases Int.le_total a (imin (b :: l)) with h | h
    · rw [Int.min_eq_left h]; exact List.mem_cons_self
    · rw [Int.min_eq_right h]; exact List.mem_cons_of_mem _ ih
theorem imin_le : ∀ {l : List Int} {x : Int}, x ∈ l → imin l ≤ x
  | [a], x, h => by cases List.mem_singleton.mp h; exact Int.le_refl _
  | a :: b :: l, x, h => by
    show min a (imin (b :: l)) ≤ x
    rcases List.mem_cons.mp h with rfl | h
    · exact Int.min_le_left _ _
    · exact Int.le_trans (Int.min_le_right _ _) (imin_le h)
def pSum : List D → Store → MX D := fun xs m => match xs with
  | [d] => (rdQ m d).bind fun ds => (toInts ds).bind fun ns => ret (.int ns.sum) m
  | _ => none
theorem sc_pSum {K : PySem.W.Frag} {W : WX} : SC K W (RE K) (rSum K) pSum := fun xs m res m' e r F H σ vs hr p => by
  unfold pSum at e
  split at e
  · rename_i d
    cases h0 : rdQ m d with
    | none => rw [h0] at e; cases e
    | some ds =>
      rw [h0] at e
      simp only [Option.bind_some] at e
      cases h1 : toInts ds with
      | none => rw [h1] at e; cases e
      | some ns =>
        rw [h1] at e; cases e
        cases toInts_eq h1
        obtain ⟨v, rfl, pv⟩ := rep1 p
        obtain ⟨a, ws, rfl, hs, ra⟩ := rdQ_get h0 hr pv
        cases ra.ints
        exact fun Q q => ⟨_, _, rfl, hs, q _ r F H hr (Ext.refl hr) (.int _)⟩
  · cases e
def pMaxL : List D → Store → MX D := fun xs m => match xs with
  | [d] => (rdQ m d).bind fun ds => (toInts ds).bind fun ns => if ns.length = 0 then none else ret (.int (imax ns)) m
  | _ => none
theorem sc_pMaxL {K : PySem.W.Frag} {W : WX} : SC K W (RE K) (rMax K) pMaxL := fun xs m res m' e r F H σ vs hr p => by
  unfold pMaxL at e
  split at e
  · rename_i d
    cases h0 : rdQ m d with
    | none => rw [h0] at e; cases e
    | some ds =>
      rw [h0] at e
      simp only [Option.bind_some] at e
      cases h1 : toInts ds with
      | none => rw [h1] at e; cases e
      | some ns =>
        rw [h1] at e
        simp only [Option.bind_some] at e
        split at e
        · cases e
        · rename_i hz
          cases e
          cases toInts_eq h1
          obtain ⟨v, rfl, pv⟩ := rep1 p
          obtain ⟨a, ws, rfl, hs, ra⟩ := rdQ_get h0 hr pv
          cases ra.ints
          have hne : ns ≠ [] := fun z => hz (by rw [z]; rfl)
          refine fun Q q => ⟨_, _, rfl, hs, Nat.pos_of_ne_zero hz, fun k hk hall => ?_⟩
          have : k = imax ns := Int.le_antisymm (imax_ge hk) (hall _ (imax_mem hne))
          rw [this]
          exact q _ r F H hr (Ext.refl hr) (.int _)
  · cases e
def pMinL : List D → Store → MX D := fun xs m => match xs with
  | [d] => (rdQ m d).bind fun ds => (toInts ds).bind fun ns => if ns.length = 0 then none else ret (.int (imin ns)) m
  | _ => none
theorem sc_pMinL {K : PySem.W.Frag} {W : WX} : SC K W (RE K) (rMin K) pMinL := fun xs m res m' e r F H σ vs hr p => by
  unfold pMinL at e
  split at e
  · rename_i d
    cases h0 : rdQ m d with
    | none => rw [h0] at e; cases e
    | some ds =>
      rw [h0] at e
      simp only [Option.bind_some] at e
      cases h1 : toInts ds with
      | none => rw [h1] at e; cases e
      | some ns =>
        rw [h1] at e
        simp only [Option.bind_some] at e
        split at e
        · cases e
        · rename_i hz
          cases e
          cases toInts_eq h1
          obtain ⟨v, rfl, pv⟩ := rep1 p
          obtain ⟨a, ws, rfl, hs, ra⟩ := rdQ_get h0 hr pv
          cases ra.ints
          have hne : ns ≠ [] := fun z => hz (by rw [z]; rfl)
          refine fun Q q => ⟨_, _, rfl, hs, Nat.pos_of_ne_zero hz, fun k hk hall => ?_⟩
          have : k = imin ns := Int.le_antisymm (hall _ (imin_mem hne)) (imin_le hk)
          rw [this]
          exact q _ r F H hr (Ext.refl hr) (.int _)
  · cases e
def pAll : List D → Store → MX D := fun xs m => match xs with
  | [d] => (rdQ m d).bind fun ds => (bools ds).bind fun ns => ret (.bl (ns.all id)) m
  | _ => none
theorem sc_pAll {K : PySem.W.Frag} {W : WX} : SC K W (RE K) (rAll K) pAll := fun xs m res m' e r F H σ vs hr p => by
  unfold pAll at e
  split at e
  · rename_i d
    cases h0 : rdQ m d with
    | none => rw [h0] at e; cases e
    | some ds =>
      rw [h0] at e
      simp only [Option.bind_some] at e
      cases h1 : bools ds with
      | none => rw [h1] at e; cases e
      | some ns =>
        rw [h1] at e; cases e
        cases bools_eq h1
        obtain ⟨v, rfl, pv⟩ := rep1 p
        obtain ⟨a, ws, rfl, hs, ra⟩ := rdQ_get h0 hr pv
        cases ra.bls
        exact fun Q q => ⟨_, _, rfl, hs, q _ r F H hr (Ext.refl hr) (.bl _)⟩
  · cases e
def pAny : List D → Store → MX D := fun xs m => match xs with
  | [d] => (rdQ m d).bind fun ds => (bools ds).bind fun ns => ret (.bl (ns.any id)) m
  | _ => none
theorem sc_pAny {K : PySem.W.Frag} {W : WX} : SC K W (RE K) (rAny K) pAny := fun xs m res m' e r F H σ vs hr p => by
  unfold pAny at e
  split at e
  · rename_i d
    cases h0 : rdQ m d with
    | none => rw [h0] at e; cases e
    | some ds =>
      rw [h0] at e
      simp only [Option.bind_some] at e
      cases h1 : bools ds with
      | none => rw [h1] at e; cases e
      | some ns =>
        rw [h1] at e; cases e
        cases bools_eq h1
        obtain ⟨v, rfl, pv⟩ := rep1 p
        obtain ⟨a, ws, rfl, hs, ra⟩ := rdQ_get h0 hr pv
        cases ra.bls
        exact fun Q q => ⟨_, _, rfl, hs, q _ r F H hr (Ext.refl hr) (.bl _)⟩
  · cases e
end DL
namespace DL
open PySem PySem.Spec PyProof.Rows L2
section
variable {K : PySem.W.Frag} {W : WX} {ta tb tc : TE} {tas : TA} {a b c : ME} {as : MA}
/-- new lists of two values -/
def S2F (K : PySem.W.Frag) (W : WX) (rr : R2) (o : D → D → Store → MX FT) : Prop := ∀ x y m res m', o x y m = some (res, m') → ∀ r F H σ vx vy, HR K r F H m → Rep K r F vx x → Rep K r F vy y → JAt K W (RF K) r F H σ m (rr vx vy) res m'
def fOp (o : D → D → Store → MX FT) (a b : ME) : MF := fun δ m => (a δ m).bind fun x m => (b δ m).bind fun y m => o x y m
theorem so_fop {rr : R2} {o : D → D → Store → MX FT} (ho : S2F K W rr o) (ha : So K W (RE K) ta a) (hb : So K W (RE K) tb b) : So K W (RF K) (tOp rr ta tb) (fOp o a b) := fun δ m res m' e r F H σ hr er => by
  show JAt K W (RF K) r F H σ m (fun H Q => ta σ H fun x H1 => tb σ H1 fun y H2 => rr x y H2 Q) res m'
  rcases bind_some e with ⟨x, m1, e1, e2⟩ | ⟨y, e1, rfl⟩
  · refine (ha δ m _ _ e1 r F H σ hr er).bind rf_mon hr fun v r1 F1 H1 hr1 x1 rv => ?_
    rcases bind_some e2 with ⟨y, m2, e3, e4⟩ | ⟨y, e3, rfl⟩
    · refine (hb δ m1 _ _ e3 r1 F1 H1 σ hr1 (er.ext x1)).bind rf_mon hr1 fun w r2 F2 H2 hr2 x2 rw => ?_
      exact ho x y m2 res m' e4 r2 F2 H2 σ v w hr2 (rv.mono x2.pre x2.sub) rw
    · exact (hb δ m1 _ _ e3 r1 F1 H1 σ hr1 (er.ext x1)).thrown
  · exact (ha δ m _ _ e1 r F H σ hr er).thrown
def pCat : D → D → Store → MX FT := fun x y m => (rdL m x).bind fun xs => (rdL m y).bind fun ys => if xs.length + ys.length ≤ 100000 then ret (.own (xs ++ ys)) m else none
theorem s2_pCat : S2F K W rCat pCat := fun x y m res m' e r F H σ vx vy hr px py => by
  unfold pCat at e
  cases h1 : rdL m x with
  | none => rw [h1] at e; cases e
  | some xs =>
    rw [h1] at e
    cases h2 : rdL m y with
    | none => rw [h2] at e; cases e
    | some ys =>
      rw [h2] at e
      simp only [Option.bind_some] at e
      split at e
      · rename_i hl
        cases e
        obtain ⟨a, vs, rfl, e1, r1⟩ := rdL_get h1 hr px
        obtain ⟨b, ws, rfl, e2, r2⟩ := rdL_get h2 hr py
        exact fun Q q => ⟨a, b, vs, ws, rfl, rfl, e1, e2, Evl.sz_of (by rw [r1.len, r2.len]; exact hl), fun p hp => let ⟨q1, q2, q3⟩ := rf_new hr hp (r1.app r2); q _ r F _ q1 q2 q3⟩
      · cases e
theorem RepAll.flat {r : List Addr} {F : Hp} {vs : List V} {ds : List D} (h : RepAll K r F vs ds) : ∀ n : Nat, RepAll K r F (List.replicate n vs).flatten (List.replicate n ds).flatten
  | 0 => .nil
  | n + 1 => by
    rw [List.replicate_succ, List.replicate_succ, List.flatten_cons, List.flatten_cons]
    exact h.app (RepAll.flat h n)
def Rg62 (n : Int) : Prop := -(2 ^ 62) ≤ n ∧ n < 2 ^ 62
theorem rg62 {n : Int} (h1 : -1000000000000 ≤ n) (h2 : n ≤ 1000000000000) : Rg62 n := by
  unfold Rg62
  omega
theorem Rg62.wide {n : Int} (h : Rg62 n) : -(2 ^ 63) ≤ n ∧ n < 2 ^ 63 := by
  unfold Rg62 at h
  omega
open Classical in
noncomputable def pRep : D → D → Store → MX FT := fun x y m => match y with
  | .int k => (rdL m x).bind fun xs => if Rg62 k ∧ xs.length * k.toNat ≤ 100000 then ret (.own (List.replicate k.toNat xs).flatten) m else none
  | _ => none
theorem s2_pRep : S2F K W rRep pRep := fun x y m res m' e r F H σ vx vy hr px py => by
  cases y with
  | int k =>
    unfold pRep at e
    dsimp only at e
    cases h1 : rdL m x with
    | none => rw [h1] at e; cases e
    | some xs =>
      rw [h1] at e
      simp only [Option.bind_some] at e
      split at e
      · rename_i hl
        cases e
        cases py
        obtain ⟨a, vs, rfl, e1, r1⟩ := rdL_get h1 hr px
        exact fun Q q => ⟨a, k, vs, rfl, rfl, e1, hl.1.wide.1, hl.1.wide.2, Evl.sz_of (by rw [r1.len]; exact hl.2), fun p hp => let ⟨q1, q2, q3⟩ := rf_new hr hp (r1.flat k.toNat); q _ r F _ q1 q2 q3⟩
      · cases e
  | _ => cases e
/-- slices -/
abbrev MO := En → Store → MX (Option Int)
def oNone : MO := fun _ m => ret none m
def oSome (e : ME) : MO := fun δ m => (e δ m).bind fun x m => match x with
  | .int i => ret (some i) m
  | _ => none
theorem so_none : So K W RO tNoPart oNone := fun δ m res m' e r F H σ hr er => by cases e; exact fun Q q => q none r F H hr (Ext.refl hr) rfl
theorem so_some (h : So K W (RE K) ta a) : So K W RO (tPart ta) (oSome a) :=
  So.bind ro_mon h (k := fun (x : D) δ m => match x with
    | .int i => ret (some i) m
    | _ => none) (u := fun (x : V) σ H Q => ∃ i, x = .int i ∧ Q (some i) H) fun x δ m res m' e v r F H σ _ hr er rv => by
    cases x with
    | int c => cases rv; cases e; exact fun Q q => ⟨c, rfl, q _ r F H hr (Ext.refl hr) rfl⟩
    | _ => cases e
def cutD (xs : List D) (lo hi : Option Int) : List D := (xs.drop (HT.sIx xs.length 0 lo)).take (HT.sIx xs.length xs.length hi - HT.sIx xs.length 0 lo)
theorem RepAll.cutV {r : List Addr} {F : Hp} {vs : List V} {ds : List D} (h : RepAll K r F vs ds) (lo hi : Option Int) : RepAll K r F (L2.cutV vs lo hi) (cutD ds lo hi) := by
  unfold L2.cutV cutD
  rw [h.len]
  exact (h.drop _).take _
def fSl (a : ME) (l h : MO) : MF := fun δ m => (a δ m).bind fun x m => (l δ m).bind fun lo m => (h δ m).bind fun hi m => (rdQ m x).bind fun xs => ret (.own (cutD xs lo hi)) m
theorem so_sl {tl th : TO} {l h : MO} (ha : So K W (RE K) ta a) (hl : So K W RO tl l) (hh : So K W RO th h) : So K W (RF K) (tSl (rSlL K) ta tl th) (fSl a l h) := fun δ m res m' e r F H σ hr er => by
  show JAt K W (RF K) r F H σ m (fun H Q => ta σ H fun x H1 => tl σ H1 fun lo H2 => th σ H2 fun hi H3 => rSlL K x lo hi H3 Q) res m'
  rcases bind_some e with ⟨x, m1, e1, e2⟩ | ⟨y, e1, rfl⟩
  · refine (ha δ m _ _ e1 r F H σ hr er).bind rf_mon hr fun v r1 F1 H1 hr1 x1 rv => ?_
    rcases bind_some e2 with ⟨lo, m2, e3, e4⟩ | ⟨y, e3, rfl⟩
    · refine (hl δ m1 _ _ e3 r1 F1 H1 σ hr1 (er.ext x1)).bind rf_mon hr1 fun lo' r2 F2 H2 hr2 x2 rlo => ?_
      cases rlo
      rcases bind_some e4 with ⟨hi, m3, e5, e6⟩ | ⟨y, e5, rfl⟩
      · refine (hh δ m2 _ _ e5 r2 F2 H2 σ hr2 ((er.ext x1).ext x2)).bind rf_mon hr2 fun hi' r3 F3 H3 hr3 x3 rhi => ?_
        cases rhi
        cases h0 : rdQ m3 x with
        | none => rw [h0] at e6; cases e6
        | some xs =>
          rw [h0] at e6
          cases e6
          obtain ⟨p, vs, rfl, hs, ra⟩ := rdQ_get h0 hr3 ((rv.mono x2.pre x2.sub).mono x3.pre x3.sub)
          exact fun Q q => ⟨p, vs, rfl, hs, fun p' hp' => let ⟨q1, q2, q3⟩ := rf_new hr3 hp' (ra.cutV lo hi); q _ r3 F3 _ q1 q2 q3⟩
      · exact (hh δ m2 _ _ e5 r2 F2 H2 σ hr2 ((er.ext x1).ext x2)).thrown
    · exact (hl δ m1 _ _ e3 r1 F1 H1 σ hr1 (er.ext x1)).thrown
  · exact (ha δ m _ _ e1 r F H σ hr er).thrown
def fRev (a : ME) : MF := fun δ m => (a δ m).bind fun x m => (rdQ m x).bind fun xs => ret (.own xs.reverse) m
theorem so_rev (ha : So K W (RE K) ta a) : So K W (RF K) (tRevL K ta) (fRev a) :=
  So.bind rf_mon ha (k := fun (x : D) δ m => (rdQ m x).bind fun xs => ret (FT.own xs.reverse) m) (u := fun (x : V) σ H Q => ∃ a xs, x = .ref a ∧ SqL K H a xs ∧ ∀ p, H p = none → Q (.ref p) (upd H p (.lst xs.reverse))) fun x δ m res m' e v r F H σ _ hr er rv => by
    cases h0 : rdQ m x with
    | none => rw [h0] at e; cases e
    | some xs =>
      rw [h0] at e
      cases e
      obtain ⟨p, vs, rfl, hs, ra⟩ := rdQ_get h0 hr rv
      exact fun Q q => ⟨p, vs, rfl, hs, fun p' hp' => let ⟨q1, q2, q3⟩ := rf_new hr hp' ra.rev; q _ r F _ q1 q2 q3⟩
def fCB (p : List D → Store → MX FT) (as : MA) : MF := fun δ m => (as δ m).bind fun xs m => p xs m
theorem so_fCB {rr : List V → Hp → VK → Prop} {o : List D → Store → MX FT} (ho : SC K W (RF K) rr o) (hs : So K W (RA K) tas as) : So K W (RF K) (tCB rr tas) (fCB o as) := so_cb rf_mon ho hs
def pList : List D → Store → MX FT := fun xs m => match xs with
  | [d] => (rdS m d).bind fun ds => ret (.own ds) m
  | _ => none
theorem sc_pList : SC K W (RF K) (Evl.rListS K) pList := fun xs m res m' e r F H σ vs hr p => by
  unfold pList at e
  split at e
  · rename_i d
    cases h0 : rdS m d with
    | none => rw [h0] at e; cases e
    | some ds =>
      rw [h0] at e; cases e
      obtain ⟨v, rfl, pv⟩ := rep1 p
      obtain ⟨a, ws, rfl, hs, ra⟩ := rdS_get h0 hr pv
      exact fun Q q => ⟨_, _, rfl, hs, fun p' hp' => let ⟨q1, q2, q3⟩ := rf_new hr hp' ra; q _ r F _ q1 q2 q3⟩
  · cases e
/-- membership, flat items -/
def flatD : D → Bool
  | .non => true
  | .bl _ => true
  | .int _ => true
  | .str _ => true
  | _ => false
def eqF : D → D → Bool
  | .non, .non => true
  | .bl a, .bl b => a == b
  | .bl a, .int b => (if a then 1 else 0) == b
  | .int a, .bl b => a == (if b then 1 else 0)
  | .int a, .int b => a == b
  | .str a, .str b => a == b
  | _, _ => false
theorem flat_rep {r : List Addr} {F : Hp} {v : V} {d : D} (h : Rep K r F v d) (f : flatD d = true) : flatV v = true := by cases h <;> first | rfl | cases f
theorem eqF_rep {r : List Addr} {F : Hp} {v w : V} {d e : D} (h : Rep K r F v d) (h2 : Rep K r F w e) (f : flatD d = true) (f2 : flatD e = true) : eqV v w = eqF d e := by
  cases h <;> cases h2 <;> first | rfl | (exact absurd f Bool.false_ne_true) | (exact absurd f2 Bool.false_ne_true)
theorem flats_rep {r : List Addr} {F : Hp} {x : V} {d : D} (hx : Rep K r F x d) (fx : flatD d = true) : ∀ {vs : List V} {ds : List D}, RepAll K r F vs ds → ds.all flatD = true → vs.all flatV = true ∧ inV x vs = ds.any fun e => eqF e d
  | _, _, .nil, _ => ⟨rfl, rfl⟩
  | _, _, .cons h t, f => by
    rw [List.all_cons, Bool.and_eq_true] at f
    obtain ⟨i1, i2⟩ := flats_rep hx fx t f.2
    refine ⟨by rw [List.all_cons, flat_rep h f.1, i1]; rfl, ?_⟩
    unfold inV at i2 ⊢
    rw [List.any_cons, List.any_cons, i2, eqF_rep h hx f.1 fx]
def pIn (neg : Bool) : D → D → Store → MX D := fun x y m => (rdS m y).bind fun ys => if flatD x = true ∧ ys.all flatD = true then ret (.bl (if neg then !(ys.any fun e => eqF e x) else ys.any fun e => eqF e x)) m else none
theorem s2_pIn {neg : Bool} : S2 K W (rIn K neg) (pIn neg) := fun x y m res m' e r F H σ vx vy hr px py => by
  unfold pIn at e
  cases h0 : rdS m y with
  | none => rw [h0] at e; cases e
  | some ys =>
    rw [h0] at e
    simp only [Option.bind_some] at e
    split at e
    · rename_i hf
      cases e
      obtain ⟨a, ws, rfl, hs, ra⟩ := rdS_get h0 hr py
      obtain ⟨i1, i2⟩ := flats_rep px hf.1 ra hf.2
      refine fun Q q => ⟨_, _, rfl, hs, flat_rep px hf.1, i1, ?_⟩
      rw [i2]
      exact q _ r F H hr (Ext.refl hr) (.bl _)
    · cases e
def eBits (a : ME) : ME := fun δ m => (a δ m).bind fun x m => match x with
  | .int i => ret (.int (Builtin.Int.intBits i : Nat)) m
  | _ => none
theorem so_bits (ha : So K W (RE K) ta a) : So K W (RE K) (tBits ta) (eBits a) :=
  So.bind re_mon ha (k := fun (x : D) δ m => match x with
    | .int i => ret (.int (Builtin.Int.intBits i : Nat)) m
    | _ => none) (u := fun (x : V) σ H Q => ∃ i, x = .int i ∧ Q (.int (Builtin.Int.intBits i : Nat)) H) fun x δ m res m' e v r F H σ _ hr er rv => by
    cases x with
    | int i => cases rv; cases e; exact fun Q q => ⟨i, rfl, q _ r F H hr (Ext.refl hr) (.int _)⟩
    | _ => cases e
/-! ### methods of lists -/
def isLst (m : Store) (d : D) : Bool := (rdQ m d).isSome
theorem isLst_ty {m : Store} {d : D} {r : List Addr} {F H : Hp} {v : V} (h : isLst m d = true) (hr : HR K r F H m) (p : Rep K r F v d) : tyV K "list" v H := by
  unfold isLst at h
  cases h0 : rdQ m d with
  | none => rw [h0] at h; cases h
  | some xs =>
    obtain ⟨a, vs, rfl, hs, _⟩ := rdQ_get h0 hr p
    exact .inl ⟨rfl, vs, hs⟩
def eBM (p : D → List D → Store → MX D) (o : ME) (as : MA) : ME := fun δ m => (o δ m).bind fun x m => if isLst m x = true then (as δ m).bind fun xs m => p x xs m else none
def eBM0 (p : D → List D → Store → MX D) (o : ME) : ME := fun δ m => (o δ m).bind fun x m => if isLst m x = true then p x [] m else none
def SM (K : PySem.W.Frag) (W : WX) (rr : V → List V → Hp → VK → Prop) (o : D → List D → Store → MX D) : Prop := ∀ x xs m res m', o x xs m = some (res, m') → ∀ r F H σ v vs, HR K r F H m → Rep K r F v x → RepAll K r F vs xs → JAt K W (RE K) r F H σ m (rr v vs) res m'
theorem jat_and {K : PySem.W.Frag} {W : WX} {r : List Addr} {F H : Hp} {σ : L2.St} {m m' : Store} {P : Hp → Prop} {t : Hp → VK → Prop} {res : RX D} (hP : P H) (h : JAt K W (RE K) r F H σ m t res m') : JAt K W (RE K) r F H σ m (fun H Q => P H ∧ t H Q) res m' := by
  cases res with
  | ok z => exact fun Q q => ⟨hP, h Q q⟩
  | ex z => exact fun q Q => ⟨hP, h q Q⟩
theorem so_bm {rr : V → List V → Hp → VK → Prop} {p : D → List D → Store → MX D} (hp : SM K W rr p) (ho : So K W (RE K) ta a) (hs : So K W (RA K) tas as) : So K W (RE K) (tBM K "list" rr ta tas) (eBM p a as) :=
  So.bind re_mon ho (k := fun (x : D) δ m => if isLst m x = true then (as δ m).bind fun xs m => p x xs m else none) (u := fun (x : V) σ H Q => tyV K "list" x H ∧ tas σ H fun xs H2 => rr x xs H2 Q) fun x δ m res m' e v r F H σ _ hr er rv => by
    split at e
    · rename_i hl
      refine jat_and (P := fun H => tyV K "list" v H) (isLst_ty hl hr rv) ?_
      rcases bind_some e with ⟨xs, m1, e1, e2⟩ | ⟨y, e1, rfl⟩
      · exact (hs δ m _ _ e1 r F H σ hr er).bind re_mon hr fun vs r1 F1 H1 hr1 x1 rvs => hp x xs m1 res m' e2 r1 F1 H1 σ v vs hr1 (rv.mono x1.pre x1.sub) rvs
      · exact (hs δ m _ _ e1 r F H σ hr er).thrown
    · cases e
theorem so_bm0 {rr : V → List V → Hp → VK → Prop} {p : D → List D → Store → MX D} (hp : SM K W rr p) (ho : So K W (RE K) ta a) : So K W (RE K) (tBM0 K "list" rr ta) (eBM0 p a) :=
  So.bind re_mon ho (k := fun (x : D) δ m => if isLst m x = true then p x [] m else none) (u := fun (x : V) σ H Q => tyV K "list" x H ∧ rr x [] H Q) fun x δ m res m' e v r F H σ _ hr er rv => by
    split at e
    · rename_i hl
      exact jat_and (P := fun H => tyV K "list" v H) (isLst_ty hl hr rv) (hp x [] m res m' e r F H σ v [] hr rv .nil)
    · cases e
/-- the cell's list -/
def cellL (m : Store) : D → Option (Nat × List D)
  | .cell k => match m[k]? with
    | some (.lst xs) => some (k, xs)
    | _ => none
  | _ => none
theorem cellL_get {m : Store} {d : D} {r : List Addr} {F H : Hp} {v : V} {k : Nat} {xs : List D} (h : cellL m d = some (k, xs)) (hr : HR K r F H m) (p : Rep K r F v d) : ∃ a vs, v = .ref a ∧ r[k]? = some a ∧ m[k]? = some (.lst xs) ∧ H a = some (.lst vs) ∧ RepAll K r F vs xs := by
  cases d with
  | cell k' =>
    unfold cellL at h
    dsimp only at h
    split at h
    · rename_i ys e
      cases h
      cases p with
      | cell ea =>
        obtain ⟨_, vs, h1, h2⟩ := hr.cell _ _ _ ea e rfl
        exact ⟨_, _, rfl, ea, e, h1, h2⟩
    · cases h
  | _ => cases h
theorem putL {r : List Addr} {F H : Hp} {m : Store} {k : Nat} {a : Addr} {vs ws : List V} {xs ys : List D} (hr : HR K r F H m) (ea : r[k]? = some a) (hk : m[k]? = some (.lst xs)) (h1 : H a = some (.lst vs)) (q : RepAll K r F ws ys) :
    HR K r F (upd H a (.lst ws)) (m.set k (.lst ys)) ∧ Ext r F H m r F (upd H a (.lst ws)) (m.set k (.lst ys)) :=
  have lv : live m k := ⟨_, hk, rfl⟩
  ⟨hr.put lv ea (fun b z => by rw [h1] at z; cases z) ⟨_, upd_same, q⟩, Ext.put hr lv ea⟩
def pAppend : D → List D → Store → MX D := fun x as m => match as with
  | [d] => (cellL m x).bind fun p => if p.2.length < 100000 then ret .non (m.set p.1 (.lst (p.2 ++ [d]))) else none
  | _ => none
theorem sm_pAppend : SM K W rAppend pAppend := fun x xs m res m' e r F H σ v vs hr px ps => by
  unfold pAppend at e
  split at e
  · rename_i d
    cases h0 : cellL m x with
    | none => rw [h0] at e; cases e
    | some p =>
      obtain ⟨k, ys⟩ := p
      rw [h0] at e
      simp only [Option.bind_some] at e
      split at e
      · rename_i hl
        cases e
        obtain ⟨a, ws, rfl, ea, hk, h1, h2⟩ := cellL_get h0 hr px
        obtain ⟨y, rfl, py⟩ := rep1 ps
        obtain ⟨z1, z2⟩ := putL hr ea hk h1 (h2.app (.one py))
        exact fun Q q => ⟨_, ws, y, rfl, rfl, h1, Evl.sz_lt (by rw [h2.len]; exact hl), q _ r F _ z1 z2 .non⟩
      · cases e
  · cases e
def pReverse : D → List D → Store → MX D := fun x as m => match as with
  | [] => (cellL m x).bind fun p => ret .non (m.set p.1 (.lst p.2.reverse))
  | _ => none
theorem sm_pReverse : SM K W rReverse pReverse := fun x xs m res m' e r F H σ v vs hr px ps => by
  unfold pReverse at e
  split at e
  · cases h0 : cellL m x with
    | none => rw [h0] at e; cases e
    | some p =>
      obtain ⟨k, ys⟩ := p
      rw [h0] at e
      cases e
      obtain ⟨a, ws, rfl, ea, hk, h1, h2⟩ := cellL_get h0 hr px
      cases ps
      obtain ⟨z1, z2⟩ := putL hr ea hk h1 h2.rev
      exact fun Q q => ⟨_, ws, rfl, rfl, h1, q _ r F _ z1 z2 .non⟩
  · cases e
theorem RepAll.erase {r : List Addr} {F : Hp} : ∀ {vs : List V} {ds : List D} (i : Nat), RepAll K r F vs ds → RepAll K r F (vs.eraseIdx i) (ds.eraseIdx i)
  | _, _, _, .nil => .nil
  | _, _, 0, .cons _ t => t
  | _, _, i + 1, .cons q t => .cons q (RepAll.erase i t)
theorem RepAll.dropLast {r : List Addr} {F : Hp} {vs : List V} {ds : List D} (h : RepAll K r F vs ds) : RepAll K r F vs.dropLast ds.dropLast := by
  rw [List.dropLast_eq_take, List.dropLast_eq_take, h.len]; exact h.take _
def pPop : D → List D → Store → MX D := fun x as m => match as with
  | [] => (cellL m x).bind fun p => (p.2[p.2.length - 1]?).bind fun d => ret d (m.set p.1 (.lst p.2.dropLast))
  | _ => none
theorem sm_pPop : SM K W rPop pPop := fun x xs m res m' e r F H σ v vs hr px ps => by
  unfold pPop at e
  split at e
  · cases h0 : cellL m x with
    | none => rw [h0] at e; cases e
    | some p =>
      obtain ⟨k, ys⟩ := p
      rw [h0] at e
      simp only [Option.bind_some] at e
      cases hd : ys[ys.length - 1]? with
      | none => rw [hd] at e; cases e
      | some d =>
        rw [hd] at e
        cases e
        obtain ⟨a, ws, rfl, ea, hk, h1, h2⟩ := cellL_get h0 hr px
        cases ps
        obtain ⟨z1, z2⟩ := putL hr ea hk h1 h2.dropLast
        obtain ⟨y, ey, py⟩ := h2.get hd
        exact fun Q q => ⟨_, ws, y, rfl, rfl, h1, by rw [h2.len]; exact ey, q _ r F _ z1 z2 py⟩
  · cases e
open Classical in
noncomputable def pPopAt : D → List D → Store → MX D := fun x as m => match as with
  | [.int i] => (cellL m x).bind fun p => if Rg62 i then (seqIndex? i p.2.length).bind fun j => (p.2[j]?).bind fun d => ret d (m.set p.1 (.lst (p.2.eraseIdx j))) else none
  | _ => none
theorem sm_pPopAt : SM K W rPopAt pPopAt := fun x xs m res m' e r F H σ v vs hr px ps => by
  unfold pPopAt at e
  split at e
  · rename_i i
    cases h0 : cellL m x with
    | none => rw [h0] at e; cases e
    | some p =>
      obtain ⟨k, ys⟩ := p
      rw [h0] at e
      simp only [Option.bind_some] at e
      split at e
      · rename_i hb
        cases hj : seqIndex? i ys.length with
        | none => rw [hj] at e; cases e
        | some j =>
          rw [hj] at e
          simp only [Option.bind_some] at e
          cases hd : ys[j]? with
          | none => rw [hd] at e; cases e
          | some d =>
            rw [hd] at e
            cases e
            obtain ⟨a, ws, rfl, ea, hk, h1, h2⟩ := cellL_get h0 hr px
            obtain ⟨y, rfl, py⟩ := rep1 ps
            cases py
            obtain ⟨z1, z2⟩ := putL hr ea hk h1 (h2.erase j)
            obtain ⟨y, ey, py⟩ := h2.get hd
            exact fun Q q => ⟨_, ws, i, j, y, rfl, rfl, h1, hb.wide.1, hb.wide.2, by rw [h2.len]; exact hj, ey, q _ r F _ z1 z2 py⟩
      · cases e
  · cases e
end
/-- xs[i] = e -/
def sSetI (e o i : ME) : MS := fun δ m => (e δ m).run δ fun d m => (o δ m).run δ fun x m => (i δ m).run δ fun y m => match y with
  | .int k => (cellL m x).bind fun p => (ixN p.2.length k).bind fun j => some (.nx δ (m.set p.1 (.lst (p.2.set j d))))
  | _ => none
theorem ss_setI {K : PySem.W.Frag} {te to ti : WX → TE} {e o i : ME} (he : ∀ W, So K W (RE K) (te W) e) (ho : ∀ W, So K W (RE K) (to W) o) (hi : ∀ W, So K W (RE K) (ti W) i) : SS K (fun W => tAsg (te W) (gSub (to W) (ti W) rSetL)) (sSetI e o i) := fun W δ m out q r F H σ D hr er h => by
  show te W σ H fun v H1 => to W σ H1 fun o H2 => ti W σ H2 fun i H3 => rSetL o i v H3 fun H4 => D.nx σ H4
  rcases run_some q with ⟨d, m1, e1, q⟩ | ⟨y, m1, e1, rfl⟩
  · refine he W δ m _ _ e1 r F H σ hr er _ fun v r1 F1 H1 hr1 x1 rv => ?_
    have er1 := er.ext x1
    rcases run_some q with ⟨x, m2, e2, q⟩ | ⟨y, m2, e2, rfl⟩
    · refine ho W δ m1 _ _ e2 r1 F1 H1 σ hr1 er1 _ fun ov r2 F2 H2 hr2 x2 rx => ?_
      have er2 := er1.ext x2
      have x02 := x1.trans hr1.len hr.len x2
      rcases run_some q with ⟨y, m3, e3, q⟩ | ⟨y, m3, e3, rfl⟩
      · refine hi W δ m2 _ _ e3 r2 F2 H2 σ hr2 er2 _ fun iv r3 F3 H3 hr3 x3 ry => ?_
        have er3 := er2.ext x3
        have x03 := x02.trans hr2.len hr.len x3
        cases y with
        | int k =>
          dsimp only at q
          cases h0 : cellL m3 x with
          | none => rw [h0] at q; cases q
          | some p =>
            obtain ⟨kk, ys⟩ := p
            rw [h0] at q
            simp only [Option.bind_some] at q
            cases hj : ixN ys.length k with
            | none => rw [hj] at q; cases q
            | some j =>
              rw [hj] at q
              cases q
              cases ry
              obtain ⟨a, ws, rfl, ea, hk, h1, h2⟩ := cellL_get h0 hr3 (rx.mono x3.pre x3.sub)
              obtain ⟨z1, z2⟩ := putL hr3 ea hk h1 (h2.set ((rv.mono x2.pre x2.sub).mono x3.pre x3.sub) j)
              exact ⟨a, ws, k, j, rfl, rfl, h1, by rw [h2.len]; exact hj, h σ r3 F3 _ z1 er3 (x03.trans hr3.len hr.len z2)⟩
        | _ => cases q
      · exact hi W δ m2 _ _ e3 r2 F2 H2 σ hr2 er2 (fun r' F' H' hr' x' => h σ r' F' H' hr' (er2.ext x') (x02.trans hr2.len hr.len x')) _
    · exact ho W δ m1 _ _ e2 r1 F1 H1 σ hr1 er1 (fun r' F' H' hr' x' => h σ r' F' H' hr' (er1.ext x') (x1.trans hr1.len hr.len x')) _
  · exact he W δ m _ _ e1 r F H σ hr er (fun r' F' H' hr' x' => h σ r' F' H' hr' (er.ext x') x') _
/-- x += e of a name -/
def sAug (i : Nat) (f : Int → Int → Int) (e : ME) : MS := fun δ m => match δ[i]? with
  | some (some (.int a)) => (e δ m).run δ fun d m => match d with
    | .int b => some (.nx (δ.set i (some (.int (f a b)))) m)
    | _ => none
  | _ => none
theorem ss_aug {K : PySem.W.Frag} {te : WX → TE} {e : ME} {i : Nat} {f : Int → Int → Int} (he : ∀ W, So K W (RE K) (te W) e) : SS K (fun W => tAug i (te W) (ipI f)) (sAug i f e) := fun W δ m out q r F H σ D hr er h => by
  unfold sAug at q
  split at q
  · rename_i a hi
    obtain ⟨v, ev, pv⟩ := er.2 i _ hi
    cases pv
    refine ⟨_, ev, ?_⟩
    rcases run_some q with ⟨d, m1, e1, q⟩ | ⟨y, m1, e1, rfl⟩
    · refine he W δ m _ _ e1 r F H σ hr er _ fun w r1 F1 H1 hr1 x1 rw => ?_
      cases d with
      | int b =>
        cases q
        cases rw
        exact ⟨a, b, rfl, rfl, h _ r1 F1 H1 hr1 ((er.ext x1).set i (.int _)) x1⟩
      | _ => cases q
    · exact he W δ m _ _ e1 r F H σ hr er (fun r' F' H' hr' x' => h σ r' F' H' hr' (er.ext x') x') _
  · cases q
/-! ### what is walked -/
section
variable {K : PySem.W.Frag} {W : WX} {ta : TE} {tas : TA} {a : ME} {as : MA}
def srcOf : D → List D → List (Nat × List D)
  | .cell k, xs => [(k, xs)]
  | _, _ => []
def wList (e : ME) : MI := fun δ m => (e δ m).bind fun x m => (rdQ m x).bind fun xs => ret ⟨xs, srcOf x xs⟩ m
/-- while the walk's source stays, it reads the same -/
theorem src_stays {m m' : Store} {d : D} {xs : List D} (h : rdQ m d = some xs) (hc : ∀ p ∈ srcOf d xs, m'[p.1]? = some (.lst p.2)) : rdQ m' d = some xs := by
  cases d with
  | lst ys => exact h
  | scr ns => exact h
  | cell k =>
    have := hc (k, xs) (by simp [srcOf])
    show (match m'[k]? with | some (.lst xs) => some xs | _ => none) = some xs
    rw [this]
  | _ => cases h
theorem so_wList (he : So K W (RE K) ta a) : So K W (RI K) (iList K ta) (wList a) :=
  So.bind ri_mon he (k := fun (x : D) δ m => (rdQ m x).bind fun xs => ret (Wk.mk xs (srcOf x xs)) m) (u := fun (x : V) σ H R => ∃ a, x = .ref a ∧ (∃ xs, SqL K H a xs) ∧ R (Itl K a) H) fun x δ m res m' e v r F H σ _ hr er rv => by
    cases h0 : rdQ m x with
    | none => rw [h0] at e; cases e
    | some xs =>
      rw [h0] at e
      cases e
      obtain ⟨p, vs, rfl, hs, _⟩ := rdQ_get h0 hr rv
      refine fun Q q => ⟨_, rfl, ⟨_, hs⟩, q _ r F H hr (Ext.refl hr) fun r' F' H' m' pr sm hr' hC i => ?_⟩
      obtain ⟨p', ws, ep, hs', ra⟩ := rdQ_get (src_stays h0 hC) hr' (rv.mono pr sm)
      cases ep
      refine ⟨fun d hd => ?_, fun hi => ⟨_, hs', by rw [ra.len]; exact hi⟩⟩
      obtain ⟨v, e1, p1⟩ := ra.get hd
      refine ⟨⟨_, v, hs', e1⟩, fun x H'' y => ?_⟩
      obtain ⟨rfl, y⟩ := y
      have := y _ hs'
      rw [e1] at this; cases this
      exact ⟨F', hr', Ext.refl hr', p1⟩
def wTup (e : ME) : MI := fun δ m => (e δ m).bind fun x m => match x with
  | .tup xs => ret ⟨xs, []⟩ m
  | _ => none
theorem so_wTup (he : So K W (RE K) ta a) : So K W (RI K) (iTup K ta) (wTup a) :=
  So.bind ri_mon he (k := fun (x : D) δ m => match x with
    | .tup xs => ret (Wk.mk xs []) m
    | _ => none) (u := fun (x : V) σ H R => ∃ a, x = .ref a ∧ (∃ xs, SqT K H a xs) ∧ R (Itt K a) H) fun x δ m res m' e v r F H σ _ hr er rv => by
    cases x with
    | tup xs =>
      cases e
      cases rv with
      | tup hs ha =>
        refine fun Q q => ⟨_, rfl, ⟨_, SqT.of (hr.sub _ _ hs)⟩, q _ r F H hr (Ext.refl hr) fun r' F' H' m' pr sm hr' _ i => ?_⟩
        have hH := SqT.of (K := K) (hr'.sub _ _ (sm _ _ hs))
        refine ⟨fun d hd => ?_, fun hi => ⟨_, hH, by rw [ha.len]; exact hi⟩⟩
        obtain ⟨v, e1, p⟩ := ha.get hd
        refine ⟨⟨_, v, hH, e1⟩, fun x H'' y => ?_⟩
        obtain ⟨rfl, y⟩ := y
        have := y _ hH
        rw [e1] at this; cases this
        exact ⟨F', hr', Ext.refl hr', p.mono pr sm⟩
    | _ => cases e
open Classical in
noncomputable def wRng1 (as : MA) : MI := fun δ m => (as δ m).bind fun xs m => match xs with
  | [.int n] => if Rg62 n then ret ⟨rng 0 n.toNat, []⟩ m else none
  | _ => none
open Classical in
theorem so_wRng1 (hs : So K W (RA K) tas as) : So K W (RI K) (iRng1 tas) (wRng1 as) :=
  So.bind ri_mon hs (k := fun (xs : List D) δ m => match xs with
    | [.int n] => if Rg62 n then ret (Wk.mk (rng 0 n.toNat) []) m else none
    | _ => none) (u := fun (vs : List V) σ H R => ∃ j : Int, vs = [.int j] ∧ -(2 ^ 62) ≤ j ∧ j < 2 ^ 62 ∧ R (Itr 0 j.toNat) H) fun x δ m res m' e v r F H σ _ hr er rv => by
    split at e
    · rename_i n
      split at e
      · rename_i hn
        cases e
        obtain ⟨w, rfl, pw⟩ := rep1 rv
        cases pw
        exact fun Q q => ⟨n, rfl, hn.1, hn.2, q _ r F H hr (Ext.refl hr) itr_ok⟩
      · cases e
    · cases e
open Classical in
noncomputable def wRng2 (as : MA) : MI := fun δ m => (as δ m).bind fun xs m => match xs with
  | [.int a, .int b] => if Rg62 a ∧ Rg62 b then ret ⟨rng a (b - a).toNat, []⟩ m else none
  | _ => none
open Classical in
theorem so_wRng2 (hs : So K W (RA K) tas as) : So K W (RI K) (iRng2 tas) (wRng2 as) :=
  So.bind ri_mon hs (k := fun (xs : List D) δ m => match xs with
    | [.int a, .int b] => if Rg62 a ∧ Rg62 b then ret (Wk.mk (rng a (b - a).toNat) []) m else none
    | _ => none) (u := fun (vs : List V) σ H R => ∃ i j : Int, vs = [.int i, .int j] ∧ (-(2 ^ 62) ≤ i ∧ i < 2 ^ 62 ∧ -(2 ^ 62) ≤ j ∧ j < 2 ^ 62) ∧ R (Itr i (j - i).toNat) H) fun x δ m res m' e v r F H σ _ hr er rv => by
    split at e
    · rename_i n k
      split at e
      · rename_i hn
        cases e
        obtain ⟨w, w2, rfl, pw, pw2⟩ := rep2 rv
        cases pw; cases pw2
        exact fun Q q => ⟨n, k, rfl, ⟨hn.1.1, hn.1.2, hn.2.1, hn.2.2⟩, q _ r F H hr (Ext.refl hr) itr_ok⟩
      · cases e
    · cases e
/-- enumerate(xs), zip(xs, ys) -/
def enumD : Nat → List D → List D
  | _, [] => []
  | n, x :: xs => .tup [.int n, x] :: enumD (n + 1) xs
theorem enumD_get : ∀ {xs : List D} {n i : Nat} {d : D}, (enumD n xs)[i]? = some d → ∃ x, xs[i]? = some x ∧ d = .tup [.int ((n + i : Nat) : Int), x]
  | [], _, _, _, h => by simp [enumD] at h
  | x :: xs, n, 0, d, h => by simp [enumD] at h; exact ⟨x, rfl, by rw [← h]; rfl⟩
  | x :: xs, n, i + 1, d, h => by
    simp [enumD] at h
    obtain ⟨y, h1, h2⟩ := enumD_get h
    refine ⟨y, by simpa using h1, ?_⟩
    rw [h2, show n + 1 + i = n + (i + 1) by omega]
theorem enumD_len : ∀ (xs : List D) (n : Nat), (enumD n xs).length = xs.length
  | [], _ => rfl
  | x :: xs, n => by simp [enumD, enumD_len xs]
def zipD : List D → List D → List D
  | x :: xs, y :: ys => .tup [x, y] :: zipD xs ys
  | _, _ => []
theorem zipD_get : ∀ {xs ys : List D} {i : Nat} {d : D}, (zipD xs ys)[i]? = some d → ∃ x y, xs[i]? = some x ∧ ys[i]? = some y ∧ d = .tup [x, y]
  | [], _, _, _, h => by simp [zipD] at h
  | _ :: _, [], _, _, h => by simp [zipD] at h
  | x :: xs, y :: ys, 0, d, h => by simp [zipD] at h; exact ⟨x, y, rfl, rfl, h.symm⟩
  | x :: xs, y :: ys, i + 1, d, h => by
    simp [zipD] at h
    obtain ⟨a, b, h1, h2, h3⟩ := zipD_get h
    exact ⟨a, b, by simpa using h1, by simpa using h2, h3⟩
theorem zipD_len : ∀ (xs ys : List D), (zipD xs ys).length = min xs.length ys.length
  | [], ys => by simp [zipD]
  | _ :: _, [] => by simp [zipD]
  | x :: xs, y :: ys => by simp [zipD, zipD_len xs ys]
def wEnum (as : MA) : MI := fun δ m => (as δ m).bind fun ds m => match ds with
  | [d] => (rdQ m d).bind fun xs => ret ⟨enumD 0 xs, srcOf d xs⟩ m
  | _ => none
theorem so_wEnum (hs : So K W (RA K) tas as) : So K W (RI K) (iEnum K tas) (wEnum as) :=
  So.bind ri_mon hs (k := fun (ds : List D) δ m => match ds with
    | [d] => (rdQ m d).bind fun xs => ret (Wk.mk (enumD 0 xs) (srcOf d xs)) m
    | _ => none) (u := fun (vs : List V) σ H R => ∃ a xs, vs = [.ref a] ∧ SqL K H a xs ∧ R (Ite K a) H) fun x δ m res m' e v r F H σ _ hr er rv => by
    split at e
    · rename_i d
      cases h0 : rdQ m d with
      | none => rw [h0] at e; cases e
      | some xs =>
        rw [h0] at e
        cases e
        obtain ⟨w, rfl, pw⟩ := rep1 rv
        obtain ⟨p, vs, rfl, hs, _⟩ := rdQ_get h0 hr pw
        refine fun Q q => ⟨_, _, rfl, hs, q _ r F H hr (Ext.refl hr) fun r' F' H' m' pr sm hr' hC i => ?_⟩
        obtain ⟨p', ws, ep, hs', ra⟩ := rdQ_get (src_stays h0 hC) hr' (pw.mono pr sm)
        cases ep
        refine ⟨fun d hd => ?_, fun hi => ⟨_, hs', by rw [ra.len]; rw [enumD_len] at hi; exact hi⟩⟩
        obtain ⟨z, hz, rfl⟩ := enumD_get hd
        obtain ⟨v, e1, p1⟩ := ra.get hz
        refine ⟨⟨_, v, hs', e1⟩, fun x H'' y => ?_⟩
        obtain ⟨T, x, rfl, hT, rfl, y⟩ := y
        have := y _ hs'
        rw [e1] at this; cases this
        have e1 := Ext.laid hr' (o := .tup [.int (i : Int), v]) hT
        refine ⟨_, hr'.laid hT, e1, .tup upd_same ?_⟩
        rw [Nat.zero_add]
        exact .cons (.int _) (.cons (p1.mono (Pre.refl _) e1.sub) .nil)
    · cases e
def wZip (as : MA) : MI := fun δ m => (as δ m).bind fun ds m => match ds with
  | [d, e] => (rdQ m d).bind fun xs => (rdQ m e).bind fun ys => ret ⟨zipD xs ys, srcOf d xs ++ srcOf e ys⟩ m
  | _ => none
theorem so_wZip (hs : So K W (RA K) tas as) : So K W (RI K) (iZip K tas) (wZip as) :=
  So.bind ri_mon hs (k := fun (ds : List D) δ m => match ds with
    | [d, e] => (rdQ m d).bind fun xs => (rdQ m e).bind fun ys => ret (Wk.mk (zipD xs ys) (srcOf d xs ++ srcOf e ys)) m
    | _ => none) (u := fun (vs : List V) σ H R => ∃ a b xs ys, vs = [.ref a, .ref b] ∧ SqL K H a xs ∧ SqL K H b ys ∧ R (Itz K a b) H) fun x δ m res m' e v r F H σ _ hr er rv => by
    split at e
    · rename_i d d2
      cases h0 : rdQ m d with
      | none => rw [h0] at e; cases e
      | some xs =>
        rw [h0] at e
        simp only [Option.bind_some] at e
        cases h1 : rdQ m d2 with
        | none => rw [h1] at e; cases e
        | some ys =>
          rw [h1] at e
          cases e
          obtain ⟨w, w2, rfl, pw, pw2⟩ := rep2 rv
          obtain ⟨p, vs, rfl, hs, _⟩ := rdQ_get h0 hr pw
          obtain ⟨p2, vs2, rfl, hs2, _⟩ := rdQ_get h1 hr pw2
          refine fun Q q => ⟨_, _, _, _, rfl, hs, hs2, q _ r F H hr (Ext.refl hr) fun r' F' H' m' pr sm hr' hC i => ?_⟩
          obtain ⟨p', ws, ep, hs', ra⟩ := rdQ_get (src_stays h0 fun p hp => hC p (List.mem_append_left _ hp)) hr' (pw.mono pr sm)
          cases ep
          obtain ⟨p', ws2, ep, hs2', ra2⟩ := rdQ_get (src_stays h1 fun p hp => hC p (List.mem_append_right _ hp)) hr' (pw2.mono pr sm)
          cases ep
          refine ⟨fun d hd => ?_, fun hi => ⟨_, _, hs', hs2', by rw [ra.len, ra2.len]; rw [zipD_len] at hi; omega⟩⟩
          obtain ⟨z, z2, hz, hz2, rfl⟩ := zipD_get hd
          obtain ⟨v, e1, p1⟩ := ra.get hz
          obtain ⟨v2, e2, p2⟩ := ra2.get hz2
          refine ⟨⟨_, _, v, v2, hs', hs2', e1, e2⟩, fun x H'' y => ?_⟩
          obtain ⟨T, x, x2, rfl, hT, rfl, y, y2⟩ := y
          have q1 := y _ hs'
          rw [e1] at q1; cases q1
          have q2 := y2 _ hs2'
          rw [e2] at q2; cases q2
          have e1 := Ext.laid hr' (o := .tup [v, v2]) hT
          exact ⟨_, hr'.laid hT, e1, .tup upd_same (.cons (p1.mono (Pre.refl _) e1.sub) (.cons (p2.mono (Pre.refl _) e1.sub) .nil))⟩
    · cases e
end
end DL
namespace DL
open PySem PySem.Spec PyProof.Rows L2
/-! ### isinstance of built-in types -/
def tyN (m : Store) : D → Option String
  | .non => some "NoneType"
  | .bl _ => some "bool"
  | .int _ => some "int"
  | .str _ => some "str"
  | .lst _ => some "list"
  | .tup _ => some "tuple"
  | .cell k => match m[k]? with
    | some (.lst _) => some "list"
    | _ => none
  | _ => none
theorem tyN_tn {m : Store} {d : D} {n : String} (h : tyN m d = some n) : Tn m d n := by
  cases d with
  | non => cases h; exact .non
  | bl _ => cases h; exact .bl
  | int _ => cases h; exact .int
  | str _ => cases h; exact .str
  | lst _ => cases h; exact .lst
  | tup _ => cases h; exact .tup
  | cell k =>
    unfold tyN at h
    dsimp only at h
    split at h
    · rename_i e; cases h; exact .cell e
    · cases h
  | scr _ => cases h
  | exc _ => cases h
def isTy (n c : String) : Bool := decide (n = c) || (decide (n = "bool") && decide (c = "int"))
def tyNames : List String := ["NoneType", "bool", "int", "str", "list", "tuple"]
theorem tyN_mem {m : Store} {d : D} {n : String} (h : tyN m d = some n) : n ∈ tyNames := by
  have := tyN_tn h
  cases this <;> decide
def kitAll (c : String) : Bool := tyNames.all fun n => decide (kitB n c = some (isTy n c))
theorem ka_int : kitAll "int" = true := by decide +kernel
theorem ka_bool : kitAll "bool" = true := by decide +kernel
theorem ka_str : kitAll "str" = true := by decide +kernel
theorem ka_list : kitAll "list" = true := by decide +kernel
theorem ka_tuple : kitAll "tuple" = true := by decide +kernel
def eIsT (c : String) (a : ME) : ME := fun δ m => (a δ m).bind fun x m => (tyN m x).bind fun n => ret (.bl (isTy n c)) m
theorem so_isT {K : PySem.W.Frag} {W : WX} {ta : TE} {a : ME} {c : String} (hc : kitAll c = true) (ha : So K W (RE K) ta a) : So K W (RE K) (tCB (rIsi K) (tCons ta (tCons (tC (.ty c)) tNil))) (eIsT c a) :=
  So.bind re_mon ha (k := fun (x : D) δ m => (tyN m x).bind fun n => ret (.bl (isTy n c)) m) (u := fun (x : V) σ H Q => rIsi K [x, .ty c] H Q) fun x δ m res m' e v r F H σ _ hr er rv => by
    cases h : tyN m x with
    | none => rw [h] at e; cases e
    | some n =>
      rw [h] at e
      cases e
      have hb : kitB n c = some (isTy n c) := of_decide_eq_true (List.all_eq_true.mp hc n (tyN_mem h))
      exact y_isi (tyN_tn h) hb r F H v hr rv
/-! ### errors -/
def isXk (c y : Str) : Bool := decide (c = "ShelfError") || (decide (c = "ValueError") || decide (y = c))
def eIsX (ns : List Str) (c : Str) (a : ME) : ME := fun δ m => (a δ m).bind fun x m => match x with
  | .exc y => if y = "ShelfError" ∨ y ∈ ns then ret (.bl (isXk c y)) m else none
  | .non => ret (.bl false) m
  | _ => none
/-- what isinstance asks of a class, by its name -/
structure CK (K : PySem.W.Frag) (ns : List Str) (c : Str) (cv : V) (cu : Value) : Prop where
  cls : ClsV cv cu
  one : ∀ y : Str, y = ("ShelfError" : Str) ∨ y ∈ ns → PySem.W.kitOne K (.ref (ga K y)) cu = some (isXk c y)
  non : PySem.W.kitOne K (.type "NoneType") cu = some false
theorem ck_up {K : PySem.W.Frag} {ns : List Str} (xs : Xs K ns) : CK K ns "ShelfError" (.ref (ga K "ShelfError")) (.ref (ga K "ShelfError")) :=
  ⟨.own _, fun y hy => by
    rcases hy with rfl | hy
    · exact xs.up.s
    · exact (xs.one y hy).s, xs.up.n⟩
theorem ck_ve {K : PySem.W.Frag} {ns : List Str} (xs : Xs K ns) : CK K ns "ValueError" (.ty "ValueError") (.type "ValueError") :=
  ⟨.ty _, fun y hy => by
    rcases hy with rfl | hy
    · exact xs.up.v
    · exact (xs.one y hy).v, xs.nv⟩
theorem ck_one {K : PySem.W.Frag} {ns : List Str} (xs : Xs K ns) {c : Str} (hc : c ∈ ns) (h1 : c ≠ "ShelfError" ∧ c ≠ "ValueError") : CK K ns c (.ref (ga K c)) (.ref (ga K c)) :=
  ⟨.own _, fun y hy => by
    have e : isXk c y = decide (y = c) := by unfold isXk; rw [decide_eq_false h1.1, decide_eq_false h1.2]; rfl
    rw [e]
    rcases hy with rfl | hy
    · rw [xs.down c hc, decide_eq_false (fun z => h1.1 z.symm)]
    · exact xs.kit y hy c hc, (xs.one c hc).n⟩
theorem so_isX {K : PySem.W.Frag} {W : WX} {ta : TE} {a : ME} {ns : List Str} {c : Str} {cv : V} {cu : Value} (xs : Xs K ns) (ck : CK K ns c cv cu) (ha : So K W (RE K) ta a) : So K W (RE K) (tCB (rIsA K) (tCons ta (tCons (tC cv) tNil))) (eIsX ns c a) :=
  So.bind re_mon ha (k := fun (x : D) δ m => match x with
    | .exc y => if y = "ShelfError" ∨ y ∈ ns then ret (.bl (isXk c y)) m else none
    | .non => ret (.bl false) m
    | _ => none) (u := fun (x : V) σ H Q => rIsA K [x, cv] H Q) fun x δ m res m' e v r F H σ _ hr er rv => by
    cases x with
    | exc y =>
      dsimp only at e
      split at e
      · rename_i hy
        cases e
        cases rv with
        | exc h =>
          have hE : ExcC K (ga K y) := by
            rcases hy with rfl | hy
            · exact xs.up.c
            · exact (xs.one y hy).c
          exact fun Q q => .inl ⟨_, ga K y, cv, cu, _, rfl, h.imp (hr.sub _ _) (hr.sub _ _), hE, ck.cls, ck.one y hy, q _ r F H hr (Ext.refl hr) (.bl _)⟩
      · cases e
    | non =>
      cases e
      cases rv
      exact fun Q q => .inr ⟨.non, cv, .type "NoneType", cu, false, rfl, ck.cls, .base .non, ck.non, q _ r F H hr (Ext.refl hr) (.bl _)⟩
    | _ => cases e
def eExc (x : Str) (as : MA) : ME := fun δ m => (as δ m).bind fun _ m => ret (.exc x) m
theorem so_exc {K : PySem.W.Frag} {W : WX} {tas : TA} {as : MA} {x : Str} (hs : So K W (RA K) tas as) : So K W (RE K) (tExc (ga K x) tas) (eExc x as) :=
  So.bind re_mon hs (k := fun (_ : List D) δ m => ret (.exc x) m) (u := fun (_ : List V) σ H Q => ∀ a, H a = none → Q (.ref a) (upd H a (ExO (.ref (ga K x)) a))) fun ds δ m res m' e v r F H σ _ hr er rv => by
    cases e
    exact fun Q q a na => q _ r _ _ (hr.laid na) (Ext.laid hr na) (.exc (.inr upd_same))
/-- try: .. except ShelfError as i: j = i -/
def sTry (ns : List Str) (i j : Nat) (b : MS) : MS := fun δ m => match b δ m with
  | some (.ex x δ1 m1) => if x ∈ ns then some (.nx (((δ1.set i (some (.exc x))).set j (some (.exc x))).set i none) m1) else none
  | o => o
theorem ss_try {K : PySem.W.Frag} {ns : List Str} {i j : Nat} {t : WX → TS} {b : MS} (xs : Xs K ns) (hb : SS K t b) : SS K (fun _ => tTry K (.ref (ga K "ShelfError")) i j t) (sTry ns i j b) := fun W δ m o q => by
  unfold sTry at q
  cases h : b δ m with
  | none => rw [h] at q; cases q
  | some o1 =>
    rw [h] at q
    cases o1 with
    | ex x δ1 m1 =>
      dsimp only at q
      split at q
      · rename_i hx
        cases q
        exact ys_tryX (fun W' => hb W' δ m _ h) (xs.exm x hx)
      · cases q
    | nx δ1 m1 => cases q; exact fun r F H σ D hr er k => hb _ δ m _ h r F H σ D hr er k
    | rt d m1 => cases q; exact fun r F H σ D hr er k => hb _ δ m _ h r F H σ D hr er k
    | bk δ1 m1 => cases q; exact fun r F H σ D hr er k => hb _ δ m _ h r F H σ D hr er k
    | ct δ1 m1 => cases q; exact fun r F H σ D hr er k => hb _ δ m _ h r F H σ D hr er k
/-! ### sorted -/
def isort (ns : List Int) : List Int := ns.mergeSort fun a b => decide (a ≤ b)
theorem isort_perm (ns : List Int) : (isort ns).Perm ns := List.mergeSort_perm _ _
theorem isort_sorted (ns : List Int) : (isort ns).Pairwise (· ≤ ·) := by
  have := List.pairwise_mergeSort (le := fun a b : Int => decide (a ≤ b)) (fun a b c h1 h2 => by simp at *; omega) (fun a b => by simp; omega) ns
  exact this.imp fun h => by simpa using h
theorem isort_uniq {ns ns' : List Int} (h1 : ns'.Perm ns) (h2 : ns'.Pairwise (· ≤ ·)) : ns' = isort ns :=
  List.Perm.eq_of_pairwise (le := (· ≤ ·)) (fun a b _ _ x y => Int.le_antisymm x y) h2 (isort_sorted ns) (h1.trans (isort_perm ns).symm)
def pSortI : List D → Store → MX FT := fun xs m => match xs with
  | [d] => (rdQ m d).bind fun ds => (toInts ds).bind fun ns => ret (.own ((isort ns).map D.int)) m
  | _ => none
theorem sc_pSortI {K : PySem.W.Frag} {W : WX} : SC K W (RF K) (rSortedI K) pSortI := fun xs m res m' e r F H σ vs hr p => by
  unfold pSortI at e
  split at e
  · rename_i d
    cases h0 : rdQ m d with
    | none => rw [h0] at e; cases e
    | some ds =>
      rw [h0] at e
      simp only [Option.bind_some] at e
      cases h1 : toInts ds with
      | none => rw [h1] at e; cases e
      | some ns =>
        rw [h1] at e; cases e
        cases toInts_eq h1
        obtain ⟨v, rfl, pv⟩ := rep1 p
        obtain ⟨a, ws, rfl, hs, ra⟩ := rdQ_get h0 hr pv
        cases ra.ints
        refine fun Q q => ⟨_, _, rfl, hs, fun ns' p' h2 h3 hp' => ?_⟩
        rw [isort_uniq h2 h3]
        obtain ⟨q1, q2, q3⟩ := rf_new hr hp' (repAll_ints (isort ns))
        exact q _ r F _ q1 q2 q3
  · cases e
abbrev Sp2 := Int × Int
def eS (s : Sp2) : D := .tup [.int s.1, .int s.2]
def toPairs : List D → Option (List Sp2)
  | [] => some []
  | .tup [.int a, .int b] :: ds => (toPairs ds).map fun ps => (a, b) :: ps
  | _ :: _ => none
theorem toPairs_map : ∀ ps : List Sp2, toPairs (ps.map eS) = some ps
  | [] => rfl
  | p :: ps => by
    show (toPairs (ps.map eS)).map _ = _
    rw [toPairs_map ps]; rfl
theorem toPairs_eq : ∀ {ds : List D} {ps : List Sp2}, toPairs ds = some ps → ds = ps.map eS
  | [], _, h => by cases h; rfl
  | d :: ds, ps, h => by
    unfold toPairs at h
    split at h
    · rename_i e; cases e
    · rename_i a b ds' e
      cases e
      cases q : toPairs ds with
      | none => rw [q] at h; cases h
      | some qs => rw [q] at h; cases h; rw [toPairs_eq q]; rfl
    · cases h
def lexle (p q : Sp2) : Bool := !SrtO.lexB q p
theorem lexle_iff {p q : Sp2} : lexle p q = true ↔ p.1 < q.1 ∨ (p.1 = q.1 ∧ p.2 ≤ q.2) := by
  unfold lexle
  have h := SrtO.lexB_iff (p := q) (q := p)
  cases z : SrtO.lexB q p with
  | true =>
    have := h.mp z
    simp; omega
  | false =>
    have hn : ¬ (q.1 < p.1 ∨ q.1 = p.1 ∧ q.2 < p.2) := fun w => by rw [h.mpr w] at z; cases z
    simp; omega
def psort (ps : List Sp2) : List Sp2 := ps.mergeSort lexle
theorem psort_perm (ps : List Sp2) : (psort ps).Perm ps := List.mergeSort_perm _ _
theorem psort_sorted (ps : List Sp2) : (psort ps).Pairwise fun p q => lexle p q = true :=
  List.pairwise_mergeSort (le := lexle) (fun a b c h1 h2 => by rw [lexle_iff] at *; omega) (fun a b => by
    by_cases h : lexle a b = true
    · rw [h]; rfl
    · have : lexle b a = true := by rw [lexle_iff] at *; omega
      rw [this]; simp) ps
theorem psort_uniq {ps ps' : List Sp2} (h1 : ps'.Perm ps) (h2 : ps'.Pairwise fun p q => lexle p q = true) : ps' = psort ps :=
  List.Perm.eq_of_pairwise (le := fun p q => lexle p q = true) (fun a b _ _ x y => by
    rw [lexle_iff] at x y
    exact Prod.ext (by omega) (by omega)) h2 (psort_sorted ps) (h1.trans (psort_perm ps).symm)
def keyP (H : Hp) : V → Int × Int
  | .ref t => match H t with
    | some (.tup [.int a, .int b]) => (a, b)
    | _ => (0, 0)
  | _ => (0, 0)
theorem keyP_rep {K : PySem.W.Frag} {r : List Addr} {F H : Hp} (s : Same F H) {v : V} {p : Sp2} (h : Rep K r F v (eS p)) : keyP H v = p ∧ ∃ t, v = .ref t ∧ H t = some (.tup [.int p.1, .int p.2]) := by
  cases h with
  | tup hs ha =>
    obtain ⟨x, y, rfl, px, py⟩ := rep2 ha
    cases px; cases py
    have e := s _ _ hs
    exact ⟨by show (match H _ with | some (.tup [.int a, .int b]) => (a, b) | _ => (0, 0)) = p; rw [e], _, rfl, e⟩
theorem keys_rep {K : PySem.W.Frag} {r : List Addr} {F H : Hp} (s : Same F H) : ∀ {vs : List V} {ps : List Sp2}, RepAll K r F vs (ps.map eS) → vs.map (keyP H) = ps ∧ ∀ v ∈ vs, Rep K r F v (eS (keyP H v))
  | [], [], _ => ⟨rfl, fun v hv => nomatch hv⟩
  | v :: vs, p :: ps, .cons h t => by
    obtain ⟨e1, e2⟩ := keys_rep s t
    obtain ⟨e3, _⟩ := keyP_rep s h
    refine ⟨by rw [List.map_cons, e1, e3], fun w hw => ?_⟩
    rcases List.mem_cons.mp hw with rfl | hw
    · rw [e3]; exact h
    · exact e2 w hw
theorem rep_keys {K : PySem.W.Frag} {r : List Addr} {F : Hp} {k : V → Int × Int} : ∀ {vs : List V}, (∀ v ∈ vs, Rep K r F v (eS (k v))) → RepAll K r F vs ((vs.map k).map eS)
  | [], _ => .nil
  | v :: vs, h => .cons (h v List.mem_cons_self) (rep_keys fun w hw => h w (List.mem_cons_of_mem _ hw))
def pSortP : List D → Store → MX FT := fun xs m => match xs with
  | [d] => (rdQ m d).bind fun ds => (toPairs ds).bind fun ps => ret (.own ((psort ps).map eS)) m
  | _ => none
theorem sc_pSortP {K : PySem.W.Frag} {W : WX} : SC K W (RF K) (rSortedPO K) pSortP := fun xs m res m' e r F H σ vs hr p => by
  unfold pSortP at e
  split at e
  · rename_i d
    cases h0 : rdQ m d with
    | none => rw [h0] at e; cases e
    | some ds =>
      rw [h0] at e
      simp only [Option.bind_some] at e
      cases h1 : toPairs ds with
      | none => rw [h1] at e; cases e
      | some ps =>
        rw [h1] at e; cases e
        cases toPairs_eq h1
        obtain ⟨v, rfl, pv⟩ := rep1 p
        obtain ⟨a, ws, rfl, hs, ra⟩ := rdQ_get h0 hr pv
        obtain ⟨e1, e2⟩ := keys_rep hr.sub ra
        refine fun Q q => ⟨_, ws, keyP H, rfl, hs, fun x hx => (keyP_rep hr.sub (e2 x hx)).2, fun ys p' h2 h3 hp' => ?_⟩
        have hp : ys.Perm ws := h3.perm
        have e3 : ys.map (keyP H) = psort ps := by
          refine psort_uniq ?_ ?_
          · rw [← e1]; exact hp.map _
          · rw [List.pairwise_map]
            exact h2.imp fun {x y} z => by
              show (!SrtO.lexB (keyP H y) (keyP H x)) = true
              rw [show SrtO.lexB (keyP H y) (keyP H x) = false from z]; rfl
        have ra2 : RepAll K r F ys ((psort ps).map eS) := by
          rw [← e3]
          exact rep_keys fun y hy => e2 y (hp.mem_iff.mp hy)
        obtain ⟨q1, q2, q3⟩ := rf_new hr hp' ra2
        exact q _ r F _ q1 q2 q3
  · cases e
/-! ### callees, the law's own call -/
theorem fn_okG {CX : CXT} {P : Program} {w : World} {K : PySem.W.Frag} {mg : Str → Option Value} {base : Heap} {x qual : Str} {params : Arguments} {body : List Stmt} {scope : Scope} {f : Addr} {fd : FuncData} {N ps : List Str} {k n kk : Nat} {b : MS} {ff : FnS}
    (F : FunD K x qual params body scope [] [] f fd) (sc : FnScope N ps scope) (t : WX → TS)
    (hP : ∀ (cdv : Value) (A : Around) (outer : List Env) (s : Shared) (H : Hp) (E : XK), Room k (A.deeper (envOfC qual scope s.heap.objs.size f cdv)) → PSs (cxOf CX P w K mg base N qual scope f cdv A outer s H E) body (t fun cls d _ H' => E cls d H'))
    (hS : SS K t b) (hf : ff = fnOf n kk b) (hn : ps.length = n) (hk : N.length = kk) : FnOk P w K mg base CX (k + 1) f fd ps (spF K ff) := by
  subst hf hn hk
  exact fn_okF F sc t hP hS
def CalF (P : Program) (w : World) (K : PySem.W.Frag) (mg : Str → Option Value) (base : Heap) (x : Str) (k : Nat) (ps : List Str) (f : FnS) : Prop :=
  ∃ fd, FnOk P w K mg base (L2.CX P w) k (He.ga K x) fd ps (spF K f) ∧ Binds K fd ps [] ∧ PySem.W.keepIn K (.ref (He.ga K x)) = true ∧ mg x = some (.ref (He.ga K x))
section
variable {X : Cx} {k : Nat} {ps : List Str} {f : FnS} {x : Str} {p pos : Pos} {e : Expr} {es : List Expr} {t : TA}
theorem pc_own {j : Nat} (C : CalF X.prog X.w X.K X.mg X.base x j ps f) (hr : Room j X.A) (hg : Gl X x) (ha : PA X (e :: es) t) (hdb : (x == ("__debug__" : Str)) = false := by decide)
    (he : starEach (e :: es) X.env = (false, eval e X.env) :: starEach es X.env := by rfl) (hpl : (backTo pos (starEach es X.env)).any (·.1) = false := by rfl) : PE X (.Call (.Name x p) (e :: es) [] pos) (tCall (spF X.K f) [] E0 t) := by
  obtain ⟨fd, F, b, kp, m⟩ := C
  exact pe_call F hr hg m kp b .nil passL ha hdb he hpl
theorem pc_own0 {j : Nat} (C : CalF X.prog X.w X.K X.mg X.base x j ps f) (hr : Room j X.A) (hg : Gl X x) (hdb : (x == ("__debug__" : Str)) = false := by decide) : PE X (.Call (.Name x p) [] [] pos) (tCall (spF X.K f) [] E0 tNil) := by
  obtain ⟨fd, F, b, kp, m⟩ := C
  exact pe_call0 F hr hg m kp b .nil passL hdb
theorem pc_ownS {j : Nat} {W : WX} (C : CalF X.prog X.w X.K X.mg X.base x j ps f) (tk : Takes X W) (hr : Room j X.A) (hg : Gl X x) (ha : PA X (e :: es) t) (hdb : (x == ("__debug__" : Str)) = false := by decide)
    (he : starEach (e :: es) X.env = (false, eval e X.env) :: starEach es X.env := by rfl) (hpl : (backTo pos (starEach es X.env)).any (·.1) = false := by rfl) : PE X (.Call (.Name x p) (e :: es) [] pos) (tCallS (spF X.K f) (WE W) t) := by
  obtain ⟨fd, F, b, kp, m⟩ := C
  exact pe_callS F hr hg m kp b (fun σ => passAt tk σ) ha hdb he hpl
end
theorem law_startF {K : PySem.W.Frag} {f : FnS} {H : Hp} {a : Addr} {ns : List Int} (hS : SqL K H a (ns.map V.int)) {m' : Store} (h : f [.scr ns] [] = some (.ok (.pl (.bl true)), m')) : spF K f [.ref a] H (fun v _ => v = .bl true) (fun _ _ _ => False) :=
  ⟨[], H, [], [.scr ns], .ok (.pl (.bl true)), m', ⟨rfl, Same.refl _, fun k a c e => by simp at e, fun k l a e => by simp at e, fun k a kvs e => by simp at e, fun k l a x y e => by simp at e⟩, .cons (.scr hS) .nil, h, fun v r F H _ _ p => by
    obtain ⟨as, ⟨p, _⟩, _⟩ := p
    cases p; rfl⟩
end DL
/-! Plain proofs about evaluators: what holds behind a run. -/
namespace DL
open PySem PySem.Spec PyProof.Rows L2
def wp {α : Type} (x : MX α) (Q : RX α → Store → Prop) : Prop := match x with
  | some (r, m) => Q r m
  | none => False
def ws (x : Option OT) (Q : OT → Prop) : Prop := match x with
  | some o => Q o
  | none => False
section
variable {α β : Type} {a : α} {m : Store} {x : MX α} {Q Q' : RX α → Store → Prop} {o : OT} {R R' : OT → Prop} {y : Option OT} {δ : En}
theorem wp_some {r : RX α} : wp (some (r, m)) Q = Q r m := rfl
theorem wp_none : wp (none : MX α) Q = False := rfl
theorem ws_some : ws (some o) R = R o := rfl
theorem ws_none : ws none R = False := rfl
theorem wp_mono (h : wp x Q) (k : ∀ r m, Q r m → Q' r m) : wp x Q' := by
  cases x with
  | none => exact h
  | some p => exact k _ _ h
theorem ws_mono (h : ws y R) (k : ∀ o, R o → R' o) : ws y R' := by
  cases y with
  | none => exact h
  | some p => exact k _ h
theorem wp_get (h : wp x Q) : ∃ r m, x = some (r, m) ∧ Q r m := by
  cases x with
  | none => exact h.elim
  | some p => exact ⟨p.1, p.2, rfl, h⟩
theorem ws_get (h : ws y R) : ∃ o, y = some o ∧ R o := by
  cases y with
  | none => exact h.elim
  | some p => exact ⟨p, rfl, h⟩
theorem wp_bind {k : α → Store → MX β} {Q : RX β → Store → Prop} : wp (x.bind k) Q = wp x (fun r m => match r with | .ok a => wp (k a m) Q | .ex y => Q (.ex y) m) := by
  cases x with
  | none => rfl
  | some p =>
    obtain ⟨r, m⟩ := p
    cases r <;> rfl
theorem wp_sure {k : α → Store → MX β} {Q : RX β → Store → Prop} : wp (x.sure k) Q = wp x (fun r m => match r with | .ok a => wp (k a m) Q | .ex _ => False) := by
  cases x with
  | none => rfl
  | some p =>
    obtain ⟨r, m⟩ := p
    cases r <;> rfl
theorem ws_run {k : α → Store → Option OT} : ws (x.run δ k) R = wp x (fun r m => match r with | .ok a => ws (k a m) R | .ex y => R (.ex y δ m)) := by
  cases x with
  | none => rfl
  | some p =>
    obtain ⟨r, m⟩ := p
    cases r <;> rfl
theorem ws_seq {a b : MS} : ws (sSeq a b δ m) R = ws (a δ m) (fun o => match o with | .nx δ m => ws (b δ m) R | o => R o) := by
  unfold sSeq
  cases a δ m with
  | none => rfl
  | some o => cases o <;> rfl
theorem wp_ite {c : Prop} [Decidable c] {x y : MX α} : wp (if c then x else y) Q = if c then wp x Q else wp y Q := by split <;> rfl
theorem ws_ite {c : Prop} [Decidable c] {x y : Option OT} : ws (if c then x else y) R = if c then ws x R else ws y R := by split <;> rfl
end
theorem and_ret {b c : Bool} {m : Store} : cond b (ret (D.bl c) m) (ret (D.bl false) m) = ret (D.bl (b && c)) m := by cases b <;> rfl
theorem or_ret {b c : Bool} {m : Store} : cond b (ret (D.bl true) m) (ret (D.bl c) m) = ret (D.bl (b || c)) m := by cases b <;> rfl
theorem and_retB {b c : Bool} {m : Store} : cond b (ret c m) (ret false m) = ret (b && c) m := by cases b <;> rfl
theorem or_retB {b c : Bool} {m : Store} : cond b (ret true m) (ret c m) = ret (b || c) m := by cases b <;> rfl
theorem wp_cond {α : Type} {b : Bool} {x y : MX α} {Q : RX α → Store → Prop} : wp (cond b x y) Q = ((b = true → wp x Q) ∧ (b = false → wp y Q)) := by cases b <;> simp
theorem ws_cond {b : Bool} {x y : Option OT} {R : OT → Prop} : ws (cond b x y) R = ((b = true → ws x R) ∧ (b = false → ws y R)) := by cases b <;> simp
theorem atI_0 {α : Type} {x : α} {xs : List α} : L2.atI (x :: xs) 0 = some x := by
  rw [atI_of (by omega) (by simp <;> omega)]; rfl
theorem atI_1 {α : Type} {x y : α} {xs : List α} : L2.atI (x :: y :: xs) 1 = some y := by
  rw [atI_of (by omega) (by simp <;> omega)]; rfl
theorem atI_2 {α : Type} {x y z : α} {xs : List α} : L2.atI (x :: y :: z :: xs) 2 = some z := by
  rw [atI_of (by omega) (by simp <;> omega)]; rfl
theorem atI_3 {α : Type} {x y z u : α} {xs : List α} : L2.atI (x :: y :: z :: u :: xs) 3 = some u := by
  rw [atI_of (by omega) (by simp <;> omega)]; rfl
theorem atI_last {α : Type} {xs : List α} {x : α} : L2.atI (xs ++ [x]) (-1) = some x := by
  unfold L2.atI ixN
  have hl : (xs ++ [x]).length = xs.length + 1 := by simp
  rw [if_neg (show ¬ (0 : Int) ≤ -1 by omega), hl, if_pos (show -((xs.length + 1 : Nat) : Int) ≤ -1 by omega)]
  simp only [Option.bind_some]
  have : ((-1 : Int) + ((xs.length + 1 : Nat) : Int)).toNat = xs.length := by omega
  rw [this]; simp
theorem wp_fn {n N : Nat} {b : MS} {ds : List D} {m : Store} {Q : RX FT → Store → Prop} (h : ds.length = n) : wp (fnOf n N b ds m) Q = ws (b (st N ds) m) (fun o => wp (endF m (some o)) Q) := by
  unfold fnOf
  rw [if_pos h]
  cases b (st N ds) m with
  | none => rfl
  | some o => rfl
theorem wp_fnI {n N : Nat} {b : MS} {ds : List D} {m : Store} {Q : RX FT → Store → Prop} (h : ds.length = n) (k : ws (b (st N ds) m) (fun o => wp (endF m (some o)) Q)) : wp (fnOf n N b ds m) Q := by
  rw [wp_fn h]; exact k
theorem endF_rt {m m' : Store} {d : D} : endF m (some (.rt d m')) = finF m d m' := rfl
theorem endF_nx {m m' : Store} {δ : En} : endF m (some (.nx δ m')) = finF m .non m' := rfl
theorem endF_ex {m m' : Store} {δ : En} {x : Str} : endF m (some (.ex x δ m')) = (cutS m m').map fun m => (.ex x, m) := rfl
theorem cut_same {m m' : Store} (h : m'.length = m.length) : cutS m m' = some m' := by unfold cutS; rw [if_pos h]
theorem cut_app {m0 m l : Store} (hl : m.length = m0.length) (ti : Tidy m0 m) : cutS m0 (m ++ l) = some m := by
  unfold cutS
  by_cases hz : (m ++ l).length = m0.length
  · rw [if_pos hz]
    have : l = [] := by
      rw [List.length_append] at hz
      exact List.eq_nil_of_length_eq_zero (by omega)
    subst this
    rw [List.append_nil]
  · rw [if_neg hz]
    have e : (m ++ l).take m0.length = m := by rw [← hl]; simp
    rw [e, if_pos ti]
theorem ixN_lit30 : ixN 3 0 = some 0 := rfl
theorem ixN_lit31 : ixN 3 1 = some 1 := rfl
theorem ixN_lit32 : ixN 3 2 = some 2 := rfl
/-- for, by an invariant over what is left -/
theorem ws_for {g : MG} {b : MS} {c : Store → Prop} {R : OT → Prop} (I : List D → En → Store → Prop) (hc : ∀ l δ m, I l δ m → c m) (hend : ∀ δ m, I [] δ m → R (.nx δ m))
    (step : ∀ x l δ m, I (x :: l) δ m → ∃ δ1, g x δ = some δ1 ∧ ws (b δ1 m) (fun o => match o with | .nx δ m => I l δ m | .ct δ m => I l δ m | .bk δ m => R (.nx δ m) | o => R o)) :
    ∀ {l : List D} {δ : En} {m : Store}, I l δ m → ws (forM g b c l δ m) R
  | [], δ, m, h => by
    unfold forM
    rw [if_pos (hc _ _ _ h)]
    exact hend δ m h
  | x :: l, δ, m, h => by
    unfold forM
    rw [if_pos (hc _ _ _ h)]
    obtain ⟨δ1, e1, h1⟩ := step x l δ m h
    rw [e1]
    simp only [Option.bind_some]
    obtain ⟨o, e2, h2⟩ := ws_get h1
    rw [e2]
    cases o with
    | nx δ m => exact ws_for I hc hend step h2
    | ct δ m => exact ws_for I hc hend step h2
    | bk δ m => exact h2
    | rt d m => exact h2
    | ex y δ m => exact h2
/-- it goes on -/
def Nx (I : En → Store → Prop) (o : OT) : Prop := ∃ δ m, o = .nx δ m ∧ I δ m
theorem nx_nx {I : En → Store → Prop} {δ : En} {m : Store} : Nx I (.nx δ m) = I δ m := propext ⟨fun ⟨_, _, e, h⟩ => by cases e; exact h, fun h => ⟨_, _, rfl, h⟩⟩
/-- for, whose body goes on -/
theorem forN {g : MG} {b : MS} {c : Store → Prop} (I : List D → En → Store → Prop) (hc : ∀ l δ m, I l δ m → c m) (step : ∀ x l δ m, I (x :: l) δ m → ∃ δ1, g x δ = some δ1 ∧ ws (b δ1 m) (Nx (I l))) {l : List D} {δ : En} {m : Store} (h : I l δ m) : ws (forM g b c l δ m) (Nx (I [])) :=
  ws_for (R := Nx (I [])) I hc (fun δ m h => ⟨δ, m, rfl, h⟩) (fun x l δ m h => by
    obtain ⟨δ1, e1, h1⟩ := step x l δ m h
    refine ⟨δ1, e1, ws_mono h1 ?_⟩
    rintro o ⟨δ2, m2, rfl, h2⟩
    exact h2) h
/-- for over typed items -/
theorem ws_forT {α : Type} {g : MG} {b : MS} {c : Store → Prop} {R : OT → Prop} (en : α → D) (I : List α → En → Store → Prop) (hc : ∀ l δ m, I l δ m → c m) (hend : ∀ δ m, I [] δ m → R (.nx δ m))
    (step : ∀ x l δ m, I (x :: l) δ m → ∃ δ1, g (en x) δ = some δ1 ∧ ws (b δ1 m) (fun o => match o with | .nx δ m => I l δ m | .ct δ m => I l δ m | .bk δ m => R (.nx δ m) | o => R o)) {l : List α} {δ : En} {m : Store} (h : I l δ m) : ws (forM g b c (l.map en) δ m) R :=
  ws_for (R := R) (fun l' δ m => ∃ l, l' = l.map en ∧ I l δ m) (fun _ _ _ ⟨l, _, h⟩ => hc l _ _ h) (fun δ m ⟨l, e, h⟩ => by
    cases l with
    | nil => exact hend δ m h
    | cons _ _ => cases e) (fun x l' δ m ⟨l, e, h⟩ => by
    cases l with
    | nil => cases e
    | cons y l =>
      cases e
      obtain ⟨δ1, e1, h1⟩ := step y l δ m h
      refine ⟨δ1, e1, ws_mono h1 fun o h => ?_⟩
      cases o with
      | nx δ m => exact ⟨l, rfl, h⟩
      | ct δ m => exact ⟨l, rfl, h⟩
      | bk δ m => exact h
      | rt d m => exact h
      | ex y δ m => exact h) ⟨l, rfl, h⟩
theorem forT {α : Type} {g : MG} {b : MS} {c : Store → Prop} (en : α → D) (I : List α → En → Store → Prop) (hc : ∀ l δ m, I l δ m → c m) (step : ∀ x l δ m, I (x :: l) δ m → ∃ δ1, g (en x) δ = some δ1 ∧ ws (b δ1 m) (Nx (I l))) {l : List α} {δ : En} {m : Store} (h : I l δ m) : ws (forM g b c (l.map en) δ m) (Nx (I [])) :=
  ws_forT (R := Nx (I [])) en I hc (fun δ m h => ⟨δ, m, rfl, h⟩) (fun x l δ m h => by
    obtain ⟨δ1, e1, h1⟩ := step x l δ m h
    refine ⟨δ1, e1, ws_mono h1 ?_⟩
    rintro o ⟨δ2, m2, rfl, h2⟩
    exact h2) h
/-- for that folds a typed state -/
theorem forF {α S : Type} {g : MG} {b : MS} {c : Store → Prop} (en : α → D) (f : S → α → S) (st : S → En → Store → Prop) (xs : List α) (hc : ∀ s δ m, st s δ m → c m)
    (step : ∀ s x δ m, x ∈ xs → st s δ m → ∃ δ1, g (en x) δ = some δ1 ∧ ws (b δ1 m) (Nx (st (f s x)))) {s0 : S} {δ : En} {m : Store} (h : st s0 δ m) : ws (forM g b c (xs.map en) δ m) (Nx (st (xs.foldl f s0))) := by
  have key := forT (g := g) (b := b) (c := c) en (fun l δ m => ∃ pre, xs = pre ++ l ∧ st (pre.foldl f s0) δ m) (fun l δ m ⟨pre, _, h⟩ => hc _ _ _ h) (fun x l δ m ⟨pre, e, h⟩ => by
    obtain ⟨δ1, e1, h1⟩ := step _ x δ m (by rw [e]; simp) h
    refine ⟨δ1, e1, ws_mono h1 ?_⟩
    rintro o ⟨δ2, m2, rfl, h2⟩
    refine ⟨δ2, m2, rfl, pre ++ [x], by rw [e]; simp, ?_⟩
    rw [List.foldl_append]; exact h2) (l := xs) (δ := δ) (m := m) ⟨[], rfl, h⟩
  refine ws_mono key ?_
  rintro o ⟨δ2, m2, rfl, pre, e, h2⟩
  rw [List.append_nil] at e
  subst e
  exact ⟨δ2, m2, rfl, h2⟩
/-- while, by an invariant and a measure -/
theorem ws_while {t : MT} {b : MS} {R : OT → Prop} (I : Nat → En → Store → Prop)
    (step : ∀ n δ m, I n δ m → wp (t δ m) (fun r m1 => match r with
      | .ok true => ws (b δ m1) (fun o => match o with | .nx δ m => ∃ k, k < n ∧ I k δ m | .ct δ m => ∃ k, k < n ∧ I k δ m | .bk δ m => R (.nx δ m) | o => R o)
      | .ok false => R (.nx δ m1)
      | .ex y => R (.ex y δ m1))) : ∀ {n : Nat} {δ : En} {m : Store}, I n δ m → ws (sWhile t b δ m) R := by
  have key : ∀ N n δ m, n < N → I n δ m → ws (whileN t b N δ m) R := by
    intro N
    induction N with
    | zero => intro n δ m h; omega
    | succ N ih =>
      intro n δ m hn h
      unfold whileN
      obtain ⟨r, m1, e1, h1⟩ := wp_get (step n δ m h)
      rw [e1]
      cases r with
      | ex y => exact h1
      | ok c =>
        cases c with
        | false => exact h1
        | true =>
          rw [run_ok]
          dsimp only [cond] at h1 ⊢
          obtain ⟨o, e2, h2⟩ := ws_get h1
          rw [e2]
          cases o with
          | nx δ m => obtain ⟨k, hk, h2⟩ := h2; exact ih k δ m (by omega) h2
          | ct δ m => obtain ⟨k, hk, h2⟩ := h2; exact ih k δ m (by omega) h2
          | bk δ m => exact h2
          | rt d m => exact h2
          | ex y δ m => exact h2
  intro n δ m h
  obtain ⟨o, e, h2⟩ := ws_get (key (n + 1) n δ m (by omega) h)
  rw [sWhile_eq e]
  exact h2
/-- a comprehension over typed items that changes nothing -/
theorem lcM_pure {α : Type} {g : MG} {t : MT} {e : ME} {c : Store → Prop} {δ : En} {m : Store} (hc : c m) (en : α → D) (p : α → Bool) (f : α → D) : ∀ (ys : List α),
    (∀ y ∈ ys, ∃ δ1, g (en y) δ = some δ1 ∧ t δ1 m = ret (p y) m ∧ (p y = true → e δ1 m = ret (f y) m)) → lcM g t e c δ (ys.map en) m = ret ((ys.filter p).map f) m
  | [], _ => by
    rw [List.map_nil]
    unfold lcM
    rw [if_pos hc]; rfl
  | y :: ys, h => by
    obtain ⟨δ1, e1, e2, e3⟩ := h y List.mem_cons_self
    have ih := lcM_pure hc en p f ys fun z hz => h z (List.mem_cons_of_mem _ hz)
    rw [List.map_cons]
    unfold lcM
    rw [if_pos hc, e1]
    simp only [Option.bind_some]
    rw [e2]
    cases hp : p y with
    | true =>
      show MX.sure (e δ1 m) _ = _
      rw [e3 hp]
      show MX.sure (lcM g t e c δ (ys.map en) m) _ = _
      rw [ih, List.filter_cons, if_pos hp]; rfl
    | false =>
      show lcM g t e c δ (ys.map en) m = _
      rw [ih, List.filter_cons, hp]; rfl
theorem lcM_map {α : Type} {g : MG} {e : ME} {c : Store → Prop} {δ : En} {m : Store} (hc : c m) (en : α → D) (f : α → D) (ys : List α)
    (h : ∀ y ∈ ys, ∃ δ1, g (en y) δ = some δ1 ∧ e δ1 m = ret (f y) m) : lcM g mYes e c δ (ys.map en) m = ret (ys.map f) m := by
  have := lcM_pure (t := mYes) hc en (fun _ => true) f ys fun y hy => by
    obtain ⟨δ1, e1, e2⟩ := h y hy
    exact ⟨δ1, e1, rfl, fun _ => e2⟩
  rwa [List.filter_eq_self.mpr (fun _ _ => rfl)] at this
theorem chk_nil {xs : List D} {m : Store} : (Wk.mk xs []).chk m := fun p hp => nomatch hp
theorem chk_one {xs ys : List D} {k : Nat} {m : Store} (h : m[k]? = some (.lst ys)) : (Wk.mk xs [(k, ys)]).chk m := fun p hp => by
  cases List.mem_singleton.mp hp; exact h
/-! ### conditional steps -/
section
variable {m : Store} {i j : Int} {k : Nat} {xs : List D}
theorem pMul_r (h1 : -18446744073709551616 < j) (h2 : j < 18446744073709551616) : pMul (.int i) (.int j) m = ret (.int (i * j)) m := by
  unfold pMul; dsimp only; rw [if_pos]; exact .inr ⟨h1, h2⟩
theorem pMul_l (h1 : -18446744073709551616 < i) (h2 : i < 18446744073709551616) : pMul (.int i) (.int j) m = ret (.int (i * j)) m := by
  unfold pMul; dsimp only; rw [if_pos]; exact .inl ⟨h1, h2⟩
theorem pMod_pos (h : 0 < j) : pMod (.int i) (.int j) m = ret (.int (i % j)) m := by
  unfold pMod; dsimp only; rw [if_pos h]
theorem pDiv_pos (h : 0 < j) (h2 : j < 618970019642690137449562112) : pDiv (.int i) (.int j) m = ret (.int (i / j)) m := by
  unfold pDiv; dsimp only; rw [if_pos]
  refine wide_div (b := 89) h ?_ (by decide) (by decide)
  have e : (2 ^ 89 : Nat) = 618970019642690137449562112 := rfl
  rw [e]; omega
theorem pPow_ok {n : Nat} (h : n ≤ 1000) (h2 : i.natAbs < 2 ^ 64) : pPow (.int i) (.int (n : Int)) m = ret (.int (i ^ n)) m := by
  unfold pPow; dsimp only; rw [if_pos ⟨by omega, by omega, h2⟩]; simp
theorem pow_12 : pPow (.int 10) (.int 12) m = ret (.int 1000000000000) m := by
  rw [show (12 : Int) = ((12 : Nat) : Int) from rfl, pPow_ok (by omega) (by decide)]; rfl
theorem pow_9 : pPow (.int 10) (.int 9) m = ret (.int 1000000000) m := by
  rw [show (9 : Int) = ((9 : Nat) : Int) from rfl, pPow_ok (by omega) (by decide)]; rfl
theorem pow_18 : pPow (.int 10) (.int 18) m = ret (.int 1000000000000000000) m := by
  rw [show (18 : Int) = ((18 : Nat) : Int) from rfl, pPow_ok (by omega) (by decide)]; rfl
theorem pow_29 : pPow (.int 10) (.int 29) m = ret (.int 100000000000000000000000000000) m := by
  rw [show (29 : Int) = ((29 : Nat) : Int) from rfl, pPow_ok (by omega) (by decide)]; rfl
theorem rdQ_cell (h : m[k]? = some (.lst xs)) : rdQ m (.cell k) = some xs := by unfold rdQ; dsimp only; rw [h]
theorem rdL_cell (h : m[k]? = some (.lst xs)) : rdL m (.cell k) = some xs := by unfold rdL; dsimp only; rw [h]
theorem rdS_cell (h : m[k]? = some (.lst xs)) : rdS m (.cell k) = some xs := by unfold rdS; dsimp only; rw [h]
theorem cellL_cell (h : m[k]? = some (.lst xs)) : cellL m (.cell k) = some (k, xs) := by unfold cellL; dsimp only; rw [h]
theorem isLst_cell (h : m[k]? = some (.lst xs)) : isLst m (.cell k) = true := by unfold isLst; rw [rdQ_cell h]; rfl
theorem vw_cell (h : m[k]? = some (.lst xs)) : vw m (.cell k) = some (.lst xs) := by unfold vw; dsimp only; rw [h]
theorem rdQ_lst : rdQ m (.lst xs) = some xs := rfl
theorem rdL_lst : rdL m (.lst xs) = some xs := rfl
theorem rdS_lst : rdS m (.lst xs) = some xs := rfl
theorem rdS_tup : rdS m (.tup xs) = some xs := rfl
theorem rdQ_scr {ns : List Int} : rdQ m (.scr ns) = some (ns.map D.int) := rfl
theorem rdS_scr {ns : List Int} : rdS m (.scr ns) = some (ns.map D.int) := rfl
theorem vw_lst : vw m (.lst xs) = some (.lst xs) := rfl
theorem vw_tup : vw m (.tup xs) = some (.tup xs) := rfl
/-- a list's emptiness, lists of one kind -/
theorem eqb_nil : eqb (.lst xs) (.lst []) = xs.isEmpty := by
  show PyData.eqv (.list (D.toPys xs)) (.list []) = _
  rw [eqv_nil, toPys_empty]
theorem sh_nil {n : Nat} : Sh (n + 1) (.lst []) := fun x hx => nomatch hx
theorem sh_int {n : Nat} {i : Int} : Sh n (.int i) := by cases n <;> trivial
theorem sh_bl {n : Nat} {i : Bool} : Sh n (.bl i) := by cases n <;> trivial
theorem sh_non {n : Nat} : Sh n .non := by cases n <;> trivial
theorem sh_eS {n : Nat} {s : Sp2} : Sh (n + 1) (eS s) := fun x hx => by
  rcases List.mem_cons.mp hx with rfl | hx
  · exact sh_int
  · cases List.mem_singleton.mp hx; exact sh_int
theorem sh_ints {n : Nat} {ns : List Int} : Sh (n + 1) (.lst (ns.map D.int)) := Sh.map fun _ => sh_int
theorem sh_spans {n : Nat} {ss : List Sp2} : Sh (n + 2) (.lst (ss.map eS)) := Sh.map fun _ => sh_eS
theorem pNeD_nil {d : D} (h : vw m d = some (.lst xs)) (hs : Sh 60 (.lst xs)) : pNeD d (.lst []) m = ret (.bl (!xs.isEmpty)) m := by
  unfold pNeD
  rw [h, vw_lst]
  simp only [Option.bind_some]
  rw [if_pos ⟨hs, sh_nil⟩, eqb_nil]
theorem pEqD_nil {d : D} (h : vw m d = some (.lst xs)) (hs : Sh 60 (.lst xs)) : pEqD d (.lst []) m = ret (.bl xs.isEmpty) m := by
  unfold pEqD
  rw [h, vw_lst]
  simp only [Option.bind_some]
  rw [if_pos ⟨hs, sh_nil⟩, eqb_nil]
theorem isEmpty_map {α β : Type} {f : α → β} {xs : List α} : (xs.map f).isEmpty = xs.isEmpty := by cases xs <;> rfl
end
/-- == of encoded things -/
theorem eqv_ints : ∀ (a b : List Int), PyData.eqvAll (D.toPys (a.map D.int)) (D.toPys (b.map D.int)) = decide (a = b)
  | [], [] => rfl
  | [], b :: bs => rfl
  | a :: as, [] => rfl
  | a :: as, b :: bs => by
    have ih := eqv_ints as bs
    show (PyData.eqv (.int a) (.int b) && PyData.eqvAll (D.toPys (as.map D.int)) (D.toPys (bs.map D.int))) = _
    rw [ih]
    show (decide (a = b) && decide (as = bs)) = _
    by_cases h1 : a = b <;> by_cases h2 : as = bs <;> simp [h1, h2]
theorem eqvAll_map {α : Type} [DecidableEq α] {f : α → D} (h : ∀ a b, eqb (f a) (f b) = decide (a = b)) : ∀ (a b : List α), PyData.eqvAll (D.toPys (a.map f)) (D.toPys (b.map f)) = decide (a = b)
  | [], [] => rfl
  | [], b :: bs => rfl
  | a :: as, [] => rfl
  | a :: as, b :: bs => by
    have ih := eqvAll_map h as bs
    show (eqb (f a) (f b) && PyData.eqvAll (D.toPys (as.map f)) (D.toPys (bs.map f))) = _
    rw [ih, h]
    by_cases h1 : a = b <;> by_cases h2 : as = bs <;> simp [h1, h2]
theorem eqb_int (a b : Int) : eqb (.int a) (.int b) = decide (a = b) := rfl
theorem eqb_eS (a b : Sp2) : eqb (eS a) (eS b) = decide (a = b) := by
  have h := eqv_ints [a.1, a.2] [b.1, b.2]
  show PyData.eqvAll (D.toPys [.int a.1, .int a.2]) (D.toPys [.int b.1, .int b.2]) = _
  refine h.trans ?_
  by_cases h1 : a = b
  · subst h1; simp
  · have : ¬ [a.1, a.2] = [b.1, b.2] := fun e => by
      simp at e; exact h1 (Prod.ext e.1 e.2)
    simp [h1, this]
theorem eqb_lst {α : Type} [DecidableEq α] {f : α → D} (h : ∀ a b, eqb (f a) (f b) = decide (a = b)) (a b : List α) : eqb (.lst (a.map f)) (.lst (b.map f)) = decide (a = b) := eqvAll_map h a b
theorem eqb_ints (a b : List Int) : eqb (.lst (a.map D.int)) (.lst (b.map D.int)) = decide (a = b) := eqb_lst eqb_int a b
theorem eqb_spans (a b : List Sp2) : eqb (.lst (a.map eS)) (.lst (b.map eS)) = decide (a = b) := eqb_lst eqb_eS a b
theorem pEqD_eq {d e x y : D} {m : Store} (h : vw m d = some x) (h2 : vw m e = some y) (s1 : Sh 60 x) (s2 : Sh 60 y) : pEqD d e m = ret (.bl (eqb x y)) m := by
  unfold pEqD
  rw [h, h2]
  simp only [Option.bind_some]
  rw [if_pos ⟨s1, s2⟩]
theorem pNeD_eq {d e x y : D} {m : Store} (h : vw m d = some x) (h2 : vw m e = some y) (s1 : Sh 60 x) (s2 : Sh 60 y) : pNeD d e m = ret (.bl (!eqb x y)) m := by
  unfold pNeD
  rw [h, h2]
  simp only [Option.bind_some]
  rw [if_pos ⟨s1, s2⟩]
/-! ### stores: m with the def's own cells behind -/
theorem len_app (m l : Store) : (m ++ l).length = m.length + l.length := List.length_append
theorem get_app (m l : Store) (i : Nat) : (m ++ l)[m.length + i]? = l[i]? := by
  rw [List.getElem?_append_right (by omega)]; congr 1; omega
theorem get_app0 (m l : Store) : (m ++ l)[m.length]? = l[0]? := get_app m l 0
theorem set_app (m l : Store) (i : Nat) (c : Cell) : (m ++ l).set (m.length + i) c = m ++ l.set i c := by
  rw [List.set_append_right _ _ (by omega)]; congr 2; omega
theorem set_app0 (m l : Store) (c : Cell) : (m ++ l).set m.length c = m ++ l.set 0 c := set_app m l 0 c
theorem take_app (m l : Store) : (m ++ l).take m.length = m := by simp
theorem unds_map {α : Type} {f : α → D} {n : Nat} (h : ∀ x, (f x).und n = true) : ∀ xs : List α, D.unds n (xs.map f) = true
  | [] => rfl
  | x :: xs => by
    show ((f x).und n && D.unds n (xs.map f)) = true
    rw [h x, unds_map h xs]; rfl
theorem unds_ints (n : Nat) (xs : List Int) : D.unds n (xs.map D.int) = true := unds_map (fun _ => rfl) xs
theorem unds_eS (n : Nat) (xs : List Sp2) : D.unds n (xs.map eS) = true := unds_map (fun _ => rfl) xs
theorem unds_bl (n : Nat) (xs : List Bool) : D.unds n (xs.map D.bl) = true := unds_map (fun _ => rfl) xs
/-- a def that leaves the store's length -/
theorem fin_same {m0 m' : Store} {d : D} (h : m'.length = m0.length) : finF m0 d m' = ret (.pl d) m' := by unfold finF; rw [if_pos h]
/-- a def with cells of its own that hands back the one at i -/
theorem fin_own {m0 m l : Store} {i : Nat} {xs : List D} (hl : m.length = m0.length) (ti : Tidy m0 m) (hi : l[i]? = some (.lst xs)) (hu : D.unds m0.length xs = true) : finF m0 (.cell (m0.length + i)) (m ++ l) = ret (.own xs) m := by
  have hlen : i < l.length := (List.getElem?_eq_some_iff.mp hi).1
  unfold finF
  rw [if_neg (by rw [List.length_append]; omega), ← hl, take_app, if_pos ti]
  have e : (m ++ l)[m.length + i]? = some (.lst xs) := by rw [get_app]; exact hi
  show (Option.map F1.ft (if m.length + i < m.length then some (.pl (.cell (m.length + i))) else match (m ++ l)[m.length + i]? with
    | some (.lst xs) => if D.unds m.length xs = true then some (.own xs) else none
    | _ => none)).map _ = _
  rw [if_neg (by omega), e]
  show (Option.map F1.ft (if D.unds m.length xs = true then some (.own xs) else none)).map _ = _
  rw [if_pos (by rw [hl]; exact hu)]; rfl
theorem fin_own0 {m l : Store} {xs : List D} (hu : D.unds m.length xs = true) : finF m (.cell m.length) (m ++ .lst xs :: l) = ret (.own xs) m := fin_own (i := 0) rfl (Tidy.refl _) rfl hu
/-- .. that hands back plain data -/
theorem fin_plain {m0 m l : Store} {d : D} (hl : m.length = m0.length) (ti : Tidy m0 m) (hd : resT m0.length (m ++ l) d = some (.pl d)) : finF m0 d (m ++ l) = ret (.pl d) m := by
  unfold finF
  by_cases hz : (m ++ l).length = m0.length
  · rw [if_pos hz]
    have : l = [] := by
      rw [List.length_append] at hz
      exact List.eq_nil_of_length_eq_zero (by omega)
    subst this
    rw [List.append_nil]
  · rw [if_neg hz]
    have e : (m ++ l).take m0.length = m := by rw [← hl]; exact take_app m l
    rw [e, if_pos ti, hd]; rfl
theorem fin_top {m' : Store} {b : Bool} : finF [] (.bl b) m' = ret (.pl (.bl b)) [] := fin_plain (m0 := []) (m := []) (l := m') rfl (Tidy.refl _) rfl
theorem res_int {n : Nat} {m : Store} {i : Int} : resT n m (.int i) = some (.pl (.int i)) := rfl
theorem res_bl {n : Nat} {m : Store} {i : Bool} : resT n m (.bl i) = some (.pl (.bl i)) := rfl
theorem res_non {n : Nat} {m : Store} : resT n m .non = some (.pl .non) := rfl
theorem res_eS {n : Nat} {m : Store} {s : Sp2} : resT n m (eS s) = some (.pl (eS s)) := by
  unfold resT eS
  dsimp only
  rw [if_pos (show D.unds n [D.int s.1, D.int s.2] = true from rfl)]
theorem tidy_int {m m' : Store} {k : Nat} {ns : List Int} (h : Tidy m m') : Tidy m (m'.set k (.lst (ns.map D.int))) := h.set (unds_ints _ ns)
end DL
/-! sorted(set(xs)), len(set(xs)) of a list of ints, of any length. -/
namespace DL
open PySem PySem.Spec PyProof.Rows L2
abbrev newSet (w : World) : Obj := { cls := .type "set", dict := none, data := .set #[] 0 (.fresh 0 0 (!w.params.followText "set-order")) }
section
variable {P : Program} {w : World} {A : Around} {E : Value → Shared → Prop} {s : Shared}
theorem set_of_list {l : Addr} {its : Array Value} (ns : List Int) {Q : Value → Shared → Prop} (hA : A.handled = none) (hL : s.heap.IsList l its) (hI : IntsAre its.toList ns) (hB : ns.length + 1 < scanBound)
    (hQ : ∀ (g : Heap) (tk c : Nat), SetR w g s.heap.objs.size (fun j => decide (j ∈ ns)) c → (∀ b o, s.heap.get? b = some o → g.get? b = some o) → Q (.ref s.heap.objs.size) { s with heap := g, toks := tk }) :
    wpAny (model P w) A (call (.type "set") [.ref l]) Q E s := by
  have hn : its.size = ns.length := by
    have z := IntsAre.length hI
    rwa [Array.length_toList] at z
  obtain ⟨cc, tt, hmro⟩ := F.called_set.mro
  have hmade := F.called_set.made
  have hsub := F.called_set.sub
  refine wpAny_call (codeAny_of_tree ?_)
  show wpAny _ _ (callAny (.type "set") _) _ _ _
  refine wpAny_pure ⟨Code.quiet_builtin _ (by decide +kernel), codeAny_builtin F.entry_type_call ?_⟩
  rw [Around.under_plain (weight_type_call_type "set" [.ref l] []) rfl]
  have f1 := F.called_set.notType
  have f2 := F.called_set.canCreate
  have f3 := F.typeCall_set_1 (.ref l)
  repeat (any_goals (first | assumption | wp_step))
  refine codeAny_mono (code_set_led1 (.ref l) (E := E) (Q₁ := fun z s₁ => z = .ref s.heap.objs.size ∧ s₁ = { s with heap := s.heap.push (newSet w) }) ⟨rfl, rfl⟩) fun z s₁ hz => ?_
  cases z with
  | error e => exact hz
  | ok fl =>
    cases fl with
    | ret z =>
      obtain ⟨rfl, rfl⟩ := hz
      have g0 : (s.heap.push (newSet w)).get? s.heap.objs.size = some (newSet w) := Heap.get?_push_size _ rfl
      have t0 : Shared.TypeIs { s with heap := s.heap.push (newSet w) } (.ref s.heap.objs.size) "set" := ⟨_, g0, rfl⟩
      have f4 := F.called_set.init.lookup
      have f5 := F.called_set.init.bind (.ref s.heap.objs.size)
      repeat (any_goals (first | assumption | wp_step))
      refine codeAny_mono (codeAny_call_builtin (R := wants (fun z s₂ => z = .none ∧ ∃ g tk c, s₂ = { s with heap := g, toks := tk } ∧ SetR w g s.heap.objs.size (fun j => decide (j ∈ ns)) c ∧
          (∀ b o, s.heap.get? b = some o → g.get? b = some o)) E) F.called_set.init.plain F.entry_set_init (check_set_init_1 t0 ?_)) fun y s₂ hy => ?_
      · obtain ⟨⟨oc, od, oda, osl⟩, ho, hc, nl, hd⟩ := hL
        simp only at hc hd
        subst hc hd
        have ho2 : (s.heap.push (newSet w)).get? l = some { cls := .type "list", dict := od, data := .seq its nl, slots := osl } := Heap.get?_push_of_some _ ho
        have k1 := F.sub_list_set
        have k2 := F.sub_list_frozenset
        have k3 : (Value.type "list" == Value.type "dict") = false := by decide
        have hL2 : (s.heap.push (newSet w)).IsList l its := ⟨_, ho2, rfl, nl, rfl⟩
        unfold Builtin.«set.__init__» noKeywords Builtin.Frozenset.updateFrom
        generalize hPI : pyIter = PI
        wp_walk
        subst hPI
        refine wpAny_pyIter_list hL2 ?_
        refine wpAny_bind (wpAny_runValue ?_)
        have lS : l < s.heap.objs.size := Heap.lt_size ho
        have h3 : A.in1.in1.in1.handled = none := by simp [hA]
        have neI : l ≠ (s.heap.push (newSet w)).objs.size := by
          rw [Heap.size_push]; exact Nat.ne_of_lt (Nat.lt_succ_of_lt lS)
        have notF : s.heap.objs.size ∉ [(s.heap.push (newSet w)).objs.size, l] := by
          rw [Heap.size_push]
          intro hm
          rcases List.mem_cons.mp hm with z | z
          · exact absurd z (Nat.ne_of_lt (Nat.lt_succ_self _))
          · exact absurd (List.mem_singleton.mp z) (Nat.ne_of_gt lS)
        have hv : ∀ (i : Nat) (v : Value), its[i]? = some v → ∃ k t, ns[i]? = some k ∧ v = .int k t := fun i v e => by
          have hi : i < ns.length := by rw [← hn]; exact (Array.getElem?_eq_some_iff.mp e).1
          obtain ⟨t, z⟩ := PyProof.Rows.IntsAre.int_at hI i v (by rw [Array.getElem?_toList]; exact e)
          refine ⟨ns[i], t, List.getElem?_eq_getElem hi, ?_⟩
          rw [z, List.getD_eq_getElem?_getD, List.getElem?_eq_getElem hi] <;> rfl
        refine set_update_ints ((Walks.list h3 _ l neI its).toS) s.heap.objs.size notF ns hn hB hv (its.size - 0) 0 _ (by omega) (Nat.zero_le _) ⟨⟨_, Heap.get?_push_size _ rfl, rfl, rfl⟩, (hL2.push _)⟩ ?start ?fin
        case start =>
          refine ⟨0, Nat.le_refl 0, setR_new_at ?_⟩
          exact Heap.get?_push_of_some _ g0
        case fin =>
          intro s' c' hm _ hS'
          obtain ⟨g, gg, dd, tk', oo⟩ := s'
          have e1 : gg = s.gens := hm.gens
          have e2 : dd = s.drawn := hm.drawn
          have e3 : oo = s.os := hm.os
          subst e1 e2 e3
          show wpAny _ _ _ _ _ _
          refine wpAny_pure ?_
          show wpAny _ _ (PySem.ret Value.none) _ _ _
          refine wpAny_pure ⟨rfl, g, tk', c', rfl, hS', fun b o e => ?_⟩
          have hb0 : b < s.heap.objs.size := Heap.lt_size e
          refine hm.heap b o ?_ (Heap.get?_push_of_some _ (Heap.get?_push_of_some _ e))
          intro hm2
          rcases List.mem_cons.mp hm2 with z | z
          · exact absurd z (Nat.ne_of_lt hb0)
          · have z := List.mem_singleton.mp z
            rw [Heap.size_push] at z
            exact absurd z (Nat.ne_of_lt (Nat.lt_succ_of_lt hb0))
      · cases y with
        | error e => exact hy
        | ok fl₂ =>
          cases fl₂ with
          | ret z =>
            obtain ⟨rfl, g, tk, c', rfl, hS', hk'⟩ := hy
            repeat (any_goals (first | assumption | wp_step))
            exact hQ _ _ _ hS' hk'
          | _ => exact hy.elim
    | _ => exact hz.elim
/-- sorted of a set of ints, however many -/
theorem sorted_of_set {a : Addr} {S : Int → Bool} {n : Nat} {Q : Value → Shared → Prop} (R : SetR w s.heap a S n) (hA : A.handled = none)
    (hQ : ∀ s' p (out : Array Value) (c : Nat) (ns : List Int), (∀ b o, s.heap.get? b = some o → s'.heap.get? b = some o) → s'.gens = s.gens → s'.os = s.os → s.heap.objs.size ≤ p →
      s'.heap.get? p = some (seqObj "list" out c) → IntsAre out.toList ns → ns.Pairwise (· < ·) → (∀ k, k ∈ ns ↔ S k = true) → ns.length ≤ sizeLine → Q (.ref p) s') :
    wpAny (model P w) A (call (.builtin "sorted") [.ref a]) Q E s := by
  obtain ⟨o, es, ep, t, h1, h2, h3, h4, h5, h6, h7, h8, h9, h10, h11⟩ := R
  refine Calls.call_function_entry kind_sorted plain_sorted entry_sorted (args_sorted1 _) ?_
  unfold Builtin.«sorted»
  refine wpAny_bind (m := checkCount "sorted" 1 1 _) (wpAny_pure ?_)
  refine wpAny_bind (collect_set (A := A.in1) hA ⟨o, h1, h2.1, h3⟩ h8 h7 h10 h11 fun s1 us k1 z1 g1 o1 pm => ?_)
  have lz : us.length ≤ sizeLine := by
    rw [pm.length_eq, List.length_map, Array.length_toList]
    exact fits_of_scanBound h7
  have ui : IntsAre us (us.map Builtin.Re.reRawOf) := ints_of us fun v hv => by
    obtain ⟨e, he, q⟩ := List.mem_map.mp (pm.mem_iff.mp hv)
    obtain ⟨k, tk, z, _⟩ := h4 e he
    exact ⟨k, tk, by rw [← q]; exact z⟩
  have pk : (us.map Builtin.Re.reRawOf).Perm (es.toList.map keyOf) := by
    have q := pm.map Builtin.Re.reRawOf
    rwa [List.map_map] at q
  refine wpAny_bind (wpAny_newList ?_ lz)
  have gL : (s1.heap.push (seqObj "list" us.toArray 0)).get? s1.heap.objs.size = some (seqObj "list" us.toArray 0) := Heap.get?_push_size _ rfl
  refine wpAny_bind (wpAny_holding (wpAny_call_entry slot_list_sort ⟨_, gL, rfl⟩ entry_list_sort (SrtO.list_sort_ord SrtO.swo_int gL lz (fun hlen => SrtO.ints_sortable ui hlen) fun out k2 k3 => ⟨_, rfl, ?_⟩) (args_list_sort _)))
  obtain ⟨m1, m2, m3⟩ := SrtO.ints_out ui k2 k3
  obtain ⟨c, hc⟩ := sortedHeap_at (vs := us) (out := out.toArray) gL
  have pn := m2.trans pk
  refine wpAny_pure ⟨_, rfl, hQ _ s1.heap.objs.size out.toArray c (out.map SrtO.iv) (fun b u e => ?_) g1 o1 z1 hc (by simpa using m1) (lt_of_le_nodup _ m3 (pn.nodup_iff.mpr h5)) (fun k => by rw [pn.mem_iff, ← h6 k]) ?_⟩
  · have q := k1 b u e
    have hlt := Heap.lt_size q
    show (sortedHeap (s1.heap.push (seqObj "list" us.toArray 0)) s1.heap.objs.size us out.toArray).get? b = some u
    rw [sortedHeap_old (Nat.ne_of_lt hlt) (by rw [size_push']; exact Nat.lt_succ_of_lt hlt)]
    exact Heap.get?_push_of_some _ q
  · rw [m2.length_eq, List.length_map]; exact lz
end
/-- the list's ints, rising, none twice -/
def undup : List Int → List Int
  | [] => []
  | x :: xs => if x ∈ xs then undup xs else x :: undup xs
theorem undup_mem : ∀ {ns : List Int} {k : Int}, k ∈ undup ns ↔ k ∈ ns
  | [], k => Iff.rfl
  | x :: xs, k => by
    unfold undup
    split
    · rename_i h
      rw [undup_mem]
      exact ⟨List.mem_cons_of_mem _, fun q => by
        rcases List.mem_cons.mp q with rfl | q
        · exact h
        · exact q⟩
    · rw [List.mem_cons, List.mem_cons, undup_mem]
theorem undup_nodup : ∀ ns : List Int, (undup ns).Nodup
  | [] => .nil
  | x :: xs => by
    unfold undup
    split
    · exact undup_nodup xs
    · rename_i h
      exact List.nodup_cons.mpr ⟨fun q => h (undup_mem.mp q), undup_nodup xs⟩
def usort (ns : List Int) : List Int := isort (undup ns)
def tSortSet (K : PySem.W.Frag) (ta : TE) : TE := fun σ H Q => ta σ H fun x H1 => ∃ (l : Addr) (ns : List Int), x = V.ref l ∧ SqL K H1 l (ns.map V.int) ∧ ns.length ≤ 4000 ∧
  ∀ (us : List Int) (p : Addr), us.Pairwise (· < ·) → (∀ k, k ∈ us ↔ k ∈ ns) → H1 p = none → Q (.ref p) (upd H1 p (.lst (us.map V.int)))
theorem pe_sortSet {X : Cx} {a : Expr} {ta : TE} {p p2 q pos : Pos} (hg : Gl X "sorted") (hm : X.mg "sorted" = none) (hg2 : Gl X "set") (hm2 : X.mg "set" = none) (ha : PE X a ta) (hc : X.calm = true := by rfl)
    (na : starEach [a] X.env = (false, eval a X.env) :: starEach [] X.env := by rfl) : PE X (.Call (.Name "sorted" p) [.Call (.Name "set" p2) [a] [] q] [] pos) (tSortSet X.K ta) := by
  refine ⟨fun pins s σ H Q I h => ?_⟩
  refine Call_ (ld_blt I hg hm bt_sorted ?_)
  refine PyProof.Rows.callWith_builtin1 (PyProof.Rows.args_cons ?_ rfl) rfl rfl
  refine Call_ (ld_blt I hg2 hm2 bt_set ?_)
  refine PyProof.Rows.callWith_type1 (PyProof.Rows.args_cons (thn (ha.run pins s σ H _ I h) fun v s1 ⟨x, H1, I1, r1, q1⟩ => PyProof.Rows.args_nil ?_) na) na rfl
  obtain ⟨l, ns, rfl, hq, hl, q1⟩ := q1
  cases r1
  obtain ⟨its, r, pl, hz⟩ := I1.list hq
  have hints := r.ints
  refine set_of_list ns (I1.ok.hd hc) pl.isList (by simpa using hints) (by unfold scanBound; omega) fun g tk c hS hk => ?_
  refine PyProof.Rows.args_nil ?_
  have I2 : Inv X pins σ H1 { s1 with heap := g, toks := tk } := I1.kept fun b o e => hk b o e
  have hS' : SetR X.w ({ s1 with heap := g, toks := tk } : Shared).heap s1.heap.objs.size (fun j => decide (j ∈ ns)) c := hS
  generalize ({ s1 with heap := g, toks := tk } : Shared) = s2 at I2 hS' ⊢
  refine sorted_of_set hS' (I2.ok.hd hc) fun s' p' out c' us k g o hp hg' hi hs hm' hl' => ?_
  have hlen : (us.map V.int).length ≤ sizeLine := by rw [List.length_map]; exact hl'
  have hn : H1 p' = none := I2.hok.fresh hp
  have J : Inv X pins σ (upd H1 p' (.lst (us.map V.int))) { s2 with heap := s'.heap, gens := s'.gens, drawn := s'.drawn, toks := s'.toks } :=
    I2.call (ch := []) (Un.laid k hp hn) (I2.hok.laid k hp ⟨hlen, out.toList, c', vals_of_ints hi, hg'⟩) (by rw [g]; exact I2.bare) (fun _ z => nomatch z)
  have e : s' = { s2 with heap := s'.heap, gens := s'.gens, drawn := s'.drawn, toks := s'.toks } := by
    cases s'
    cases o
    rfl
  rw [e]
  exact ⟨.ref p', _, J, rfl, q1 us p' hs (fun k => by rw [hm' k]; simp) hn⟩
def tLenSetA (K : PySem.W.Frag) (ta : TE) : TE := fun σ H Q => ta σ H fun x H1 => ∃ (l : Addr) (ns : List Int), x = V.ref l ∧ SqL K H1 l (ns.map V.int) ∧ ns.length ≤ 4000 ∧
  ∀ us : List Int, us.Nodup → (∀ k, k ∈ us ↔ k ∈ ns) → Q (.int (us.length : Nat)) H1
theorem pe_lenSetA {X : Cx} {a : Expr} {ta : TE} {p p2 q pos : Pos} (hg : Gl X "len") (hm : X.mg "len" = none) (hg2 : Gl X "set") (hm2 : X.mg "set" = none) (ha : PE X a ta) (hc : X.calm = true := by rfl)
    (na : starEach [a] X.env = (false, eval a X.env) :: starEach [] X.env := by rfl) : PE X (.Call (.Name "len" p) [.Call (.Name "set" p2) [a] [] q] [] pos) (tLenSetA X.K ta) := by
  refine ⟨fun pins s σ H Q I h => ?_⟩
  refine Call_ (ld_blt I hg hm bt_len ?_)
  refine PyProof.Rows.callWith_builtin1 (PyProof.Rows.args_cons ?_ rfl) rfl rfl
  refine Call_ (ld_blt I hg2 hm2 bt_set ?_)
  refine PyProof.Rows.callWith_type1 (PyProof.Rows.args_cons (thn (ha.run pins s σ H _ I h) fun v s1 ⟨x, H1, I1, r1, q1⟩ => PyProof.Rows.args_nil ?_) na) na rfl
  obtain ⟨l, ns, rfl, hq, hl, q1⟩ := q1
  cases r1
  obtain ⟨its, r, pl, hz⟩ := I1.list hq
  refine set_of_list ns (I1.ok.hd hc) pl.isList (by simpa using r.ints) (by unfold scanBound; omega) fun g tk c hS hk => ?_
  refine PyProof.Rows.args_nil ?_
  have I2 : Inv X pins σ H1 { s1 with heap := g, toks := tk } := I1.kept fun b o e => hk b o e
  obtain ⟨o, es, ep, t, h1, h2, h3, h4, h5, h6, h7, h8, h9, _⟩ := hS
  have hz2 : (es.size : Int) < 2 ^ 63 := by unfold scanBound at h7; omega
  refine call_len_set h1 h2 h3 h8 hz2 ⟨.int (es.size : Nat), H1, I2.tok _, ⟨_, rfl⟩, ?_⟩
  have := q1 (es.toList.map keyOf) h5 (fun k => by rw [← h6 k]; simp)
  rwa [List.length_map, Array.length_toList] at this
/-! ### what it comes to -/
theorem usort_mem {ns : List Int} {k : Int} : k ∈ usort ns ↔ k ∈ ns := by
  unfold usort
  rw [(isort_perm _).mem_iff]
  exact undup_mem
theorem usort_lt (ns : List Int) : (usort ns).Pairwise (· < ·) := by
  unfold usort
  refine lt_of_le_nodup _ (isort_sorted _) ((isort_perm _).nodup_iff.mpr ?_)
  exact undup_nodup _
theorem usort_uniq {us ns : List Int} (h1 : us.Pairwise (· < ·)) (h2 : ∀ k, k ∈ us ↔ k ∈ ns) : us = usort ns := by
  have nd : ∀ l : List Int, l.Pairwise (· < ·) → l.Nodup := fun l h => h.imp fun {a b} z e => by omega
  refine List.Perm.eq_of_pairwise (le := (· < ·)) (fun a b _ _ x y => by omega) h1 (usort_lt ns) ?_
  exact (List.perm_ext_iff_of_nodup (nd _ h1) (nd _ (usort_lt ns))).mpr fun k => by rw [h2, usort_mem]
def fSortSet (a : ME) : MF := fun δ m => (a δ m).bind fun x m => (rdQ m x).bind fun ds => (toInts ds).bind fun ns => if ns.length ≤ 4000 then DL.ret (FT.own ((usort ns).map D.int)) m else none
theorem so_sortSet {K : PySem.W.Frag} {W : WX} {ta : TE} {a : ME} (ha : So K W (RE K) ta a) : So K W (RF K) (tSortSet K ta) (fSortSet a) :=
  So.bind rf_mon ha (k := fun (x : D) δ m => (rdQ m x).bind fun ds => (toInts ds).bind fun ns => if ns.length ≤ 4000 then DL.ret (FT.own ((usort ns).map D.int)) m else none)
    (u := fun (x : V) σ H1 Q => ∃ (l : Addr) (ns : List Int), x = V.ref l ∧ SqL K H1 l (ns.map V.int) ∧ ns.length ≤ 4000 ∧
      ∀ (us : List Int) (p : Addr), us.Pairwise (· < ·) → (∀ k, k ∈ us ↔ k ∈ ns) → H1 p = none → Q (.ref p) (upd H1 p (.lst (us.map V.int)))) fun x δ m res m' e v r F H σ _ hr er rv => by
    cases h0 : rdQ m x with
    | none => rw [h0] at e; cases e
    | some ds =>
      rw [h0] at e
      simp only [Option.bind_some] at e
      cases h1 : toInts ds with
      | none => rw [h1] at e; cases e
      | some ns =>
        rw [h1] at e
        simp only [Option.bind_some] at e
        split at e
        · rename_i hl
          cases e
          cases toInts_eq h1
          obtain ⟨p, vs, rfl, hs, ra⟩ := rdQ_get h0 hr rv
          cases ra.ints
          refine fun Q q => ⟨p, ns, rfl, hs, hl, fun us p' z1 z2 hp' => ?_⟩
          rw [usort_uniq z1 z2]
          obtain ⟨q1, q2, q3⟩ := rf_new hr hp' (repAll_ints (usort ns))
          exact q _ r F _ q1 q2 q3
        · cases e
def pLenSet : D → Store → MX D := fun x m => (rdQ m x).bind fun ds => (toInts ds).bind fun ns => if ns.length ≤ 4000 then DL.ret (D.int ((usort ns).length : Nat)) m else none
theorem so_lenSet {K : PySem.W.Frag} {W : WX} {ta : TE} {a : ME} (ha : So K W (RE K) ta a) : So K W (RE K) (tLenSetA K ta) (eUn pLenSet a) :=
  So.bind re_mon ha (k := fun (x : D) δ m => pLenSet x m)
    (u := fun (x : V) σ H1 Q => ∃ (l : Addr) (ns : List Int), x = V.ref l ∧ SqL K H1 l (ns.map V.int) ∧ ns.length ≤ 4000 ∧
      ∀ us : List Int, us.Nodup → (∀ k, k ∈ us ↔ k ∈ ns) → Q (.int (us.length : Nat)) H1) fun x δ m res m' e v r F H σ _ hr er rv => by
    unfold pLenSet at e
    cases h0 : rdQ m x with
    | none => rw [h0] at e; cases e
    | some ds =>
      rw [h0] at e
      simp only [Option.bind_some] at e
      cases h1 : toInts ds with
      | none => rw [h1] at e; cases e
      | some ns =>
        rw [h1] at e
        simp only [Option.bind_some] at e
        split at e
        · rename_i hl
          cases e
          cases toInts_eq h1
          obtain ⟨p, vs, rfl, hs, ra⟩ := rdQ_get h0 hr rv
          cases ra.ints
          refine fun Q q => ⟨p, ns, rfl, hs, hl, fun us z1 z2 => ?_⟩
          have nd : (usort ns).Nodup := (usort_lt ns).imp fun {a b} z e => by omega
          have : us.length = (usort ns).length := ((List.perm_ext_iff_of_nodup z1 nd).mpr fun k => by rw [z2, usort_mem]).length_eq
          rw [this]
          exact q _ r F H hr (Ext.refl hr) (.int _)
        · cases e
end DL
/-! is True, list(range(..)), range of three -/
namespace DL
open PySem PySem.Spec PyProof.Rows L2
section
variable {K : PySem.W.Frag} {W : WX} {ta tb tc : TE} {tas : TA} {a b c : ME} {as : MA}
abbrev oIsB : R2 := fun x y H Q => ∃ a b, x = .bl a ∧ y = .bl b ∧ Q (.bl (decide (a = b))) H
abbrev oNotB : R2 := fun x y H Q => ∃ a b, x = .bl a ∧ y = .bl b ∧ Q (.bl (!decide (a = b))) H
def pIsB : D → D → Store → MX D := fun x y m => match x, y with
  | .bl a, .bl b => ret (.bl (decide (a = b))) m
  | _, _ => none
def pNotB : D → D → Store → MX D := fun x y m => match x, y with
  | .bl a, .bl b => ret (.bl (!decide (a = b))) m
  | _, _ => none
theorem s2_pIsB : S2 K W oIsB pIsB := fun x y m res m' e r F H σ vx vy hr px py => by
  unfold pIsB at e
  split at e
  · cases e; cases px; cases py
    exact fun Q q => ⟨_, _, rfl, rfl, q _ r F H hr (Ext.refl hr) (.bl _)⟩
  · cases e
theorem s2_pNotB : S2 K W oNotB pNotB := fun x y m res m' e r F H σ vx vy hr px py => by
  unfold pNotB at e
  split at e
  · cases e; cases px; cases py
    exact fun Q q => ⟨_, _, rfl, rfl, q _ r F H hr (Ext.refl hr) (.bl _)⟩
  · cases e
/-- list(range(n)), list(range(i, j)) -/
theorem repAll_rg (i j : Int) {r : List Addr} {F : Hp} : RepAll K r F (rgV i j) (rng i (j - i).toNat) := by
  have h := repAll_ints (K := K) (r := r) (F := F) ((List.range (j - i).toNat).map fun k : Nat => i + (k : Int))
  unfold rgV rng
  rw [List.map_map, List.map_map] at h
  exact h
open Classical in
noncomputable def fRg1 (a : ME) : MF := fun δ m => (a δ m).bind fun x m => match x with
  | .int n => if Rg62 n ∧ n ≤ 100000 then ret (.own (rng 0 n.toNat)) m else none
  | _ => none
open Classical in
theorem so_rg1 (ha : So K W (RE K) ta a) : So K W (RF K) (tLstRg (tRg1 ta)) (fRg1 a) :=
  So.bind rf_mon ha (k := fun (x : D) δ m => match x with
    | .int n => if Rg62 n ∧ n ≤ 100000 then ret (FT.own (rng 0 n.toNat)) m else none
    | _ => none) (u := fun (x : V) σ H1 Q => ∃ n, x = .int n ∧ RgOk 0 n ∧ ∀ q, H1 q = none → Q (.ref q) (upd H1 q (.lst (rgV 0 n)))) fun x δ m res m' e v r F H σ _ hr er rv => by
    split at e
    · rename_i n
      split at e
      · rename_i hn
        cases e
        cases rv
        have hh := hn.1
        unfold Rg62 at hh
        refine fun Q q => ⟨n, rfl, ⟨by omega, by omega, by omega, by omega, by omega⟩, fun p hp => ?_⟩
        obtain ⟨q1, q2, q3⟩ := rf_new (xs := rng 0 n.toNat) hr hp (by have := repAll_rg (K := K) (r := r) (F := F) 0 n; rwa [Int.sub_zero] at this)
        exact q _ r F _ q1 q2 q3
      · cases e
    · cases e
end
end DL
/-! sorted of tuples of ints -/
namespace SrtI
open PySem PyProof.Rows Srt SrtO
theorem lex_asym : ∀ {a b : List Int}, HT.lexLt a b = true → HT.lexLt b a = false
  | [], [], h => by cases h
  | [], _ :: _, _ => rfl
  | _ :: _, [], h => by cases h
  | x :: a, y :: b, h => by
    rw [HT.lexLt_cons] at *
    by_cases e : x = y
    · rw [if_pos e] at h; rw [if_pos e.symm]; exact lex_asym h
    · rw [if_neg e] at h; rw [if_neg (fun z => e z.symm)]
      have := of_decide_eq_true h
      exact decide_eq_false (by omega)
theorem lex_tr : ∀ {x y z : List Int}, x.length = y.length → y.length = z.length → HT.lexLt y x = false → HT.lexLt z y = false → HT.lexLt z x = false
  | [], [], [], _, _, _, _ => rfl
  | x :: a, y :: b, z :: c, l1, l2, h1, h2 => by
    rw [HT.lexLt_cons] at *
    have l1' : a.length = b.length := by simpa using l1
    have l2' : b.length = c.length := by simpa using l2
    by_cases e1 : y = x
    · rw [if_pos e1] at h1
      by_cases e2 : z = y
      · rw [if_pos e2] at h2
        rw [if_pos (e2.trans e1)]
        exact lex_tr l1' l2' h1 h2
      · rw [if_neg e2] at h2
        have := of_decide_eq_false h2
        rw [if_neg (by omega)]
        exact decide_eq_false (by omega)
    · rw [if_neg e1] at h1
      have q1 := of_decide_eq_false h1
      by_cases e2 : z = y
      · rw [if_neg (by omega)]; exact decide_eq_false (by omega)
      · rw [if_neg e2] at h2
        have q2 := of_decide_eq_false h2
        rw [if_neg (by omega)]; exact decide_eq_false (by omega)
def cut (d : Nat) (ns : List Int) : List Int := (ns ++ List.replicate d 0).take d
theorem cut_len {d : Nat} {ns : List Int} : (cut d ns).length = d := by simp [cut]
theorem cut_same {d : Nat} {ns : List Int} (h : ns.length = d) : cut d ns = ns := by subst h; simp [cut]
def ltC (d : Nat) (a b : List Int) : Bool := HT.lexLt (cut d a) (cut d b)
theorem swo_tup {α : Type} (d : Nat) (k : α → List Int) : Swo fun v u => ltC d (k v) (k u) :=
  ⟨fun x y h => lex_asym h, fun x y z h1 h2 => lex_tr (by rw [cut_len, cut_len]) (by rw [cut_len, cut_len]) h1 h2⟩
def IsTup (h : Heap) (v : Value) (ns : List Int) : Prop := ∃ a o xs n, v = .ref a ∧ h.get? a = some o ∧ o.cls = .type "tuple" ∧ o.data = .seq xs n ∧ IntsAre xs.toList ns
theorem IsTup.keeps {h h' : Heap} {v : Value} {ns : List Int} (p : IsTup h v ns) (k : ∀ b o, h.get? b = some o → o.cls = .type "tuple" → h'.get? b = some o) : IsTup h' v ns := by
  obtain ⟨a, o, xs, n, e, ho, hc, hd, hi⟩ := p
  exact ⟨a, o, xs, n, e, k _ _ ho hc, hc, hd, hi⟩
section
variable {prog : Program} {w : World} {A : Around} {E : Value → Shared → Prop} {s : Shared}
theorem lexs {b : Bool} {Q : Bool → Shared → Prop} {xs ys : List Value} {ns ms : List Int} (i : Nat) (hx : IntsAre xs ns) (hy : IntsAre ys ms) (hl : ns.length = ms.length)
    (h : Q (HT.lexLt ns ms) s) : PySem.W.KatLex prog w A b false Q (xs.zip ys) i s := by
  induction hx generalizing ys ms i with
  | nil =>
    cases hy with
    | nil => exact PySem.W.kat_nil h
    | cons q u hy => simp at hl
  | @cons p t xs ns hx ih =>
    cases hy with
    | nil => simp at hl
    | @cons q u ys ms hy =>
      have hl' : ns.length = ms.length := by simpa using hl
      show PySem.W.KatLex prog w A b false Q ((Value.int p t, Value.int q u) :: xs.zip ys) i s
      rw [HT.lexLt_cons] at h
      refine PySem.W.kat_cons (SeqAt.EqAt.int_int p t q u prog w _ _ ?_)
      refine PySem.W.kat_go (fun e1 => ?_) (fun e1 => ?_)
      · have e : p = q := by simpa using e1
        rw [if_pos e] at h
        exact PySem.W.kat_yes (ih (i + 1) hy hl' h)
      · have e : ¬ p = q := by simpa using e1
        rw [if_neg e] at h
        exact PySem.W.kat_no (TS.oneLt_ints _ h)
theorem tup_cmp {d : Nat} {vs : List Value} {k : Value → List Int} (hp : ∀ v ∈ vs, (k v).length = d ∧ IsTup s.heap v (k v)) : Cmp prog w A s (tuples' true) (fun p => p.1 ∈ vs) (lt2 fun v u => ltC d (k v) (k u)) := by
  intro p q hm hm'
  obtain ⟨l1, h1⟩ := hp _ hm
  obtain ⟨l2, h2⟩ := hp _ hm'
  show wpAny (model prog w) A (keyLt' (tuples' true) p.1 q.1) (fun r s' => s' = s ∧ r = ltC d (k p.1) (k q.1)) (fun _ _ => False) s
  unfold ltC
  rw [cut_same l1, cut_same l2]
  generalize k p.1 = ns at h1 l1 ⊢
  generalize k q.1 = ms at h2 l2 ⊢
  obtain ⟨a, o, xs, n, e, ho, hc, hd, hi⟩ := h1
  obtain ⟨a', o', xs', n', e', ho', hc', hd', hi'⟩ := h2
  rw [e, e']
  refine PySem.W.kat_lt ho hd ho' hd' ?_
  have z1 : xs.size = ns.length := by rw [← hi.length]; simp
  have z2 : xs'.size = ms.length := by rw [← hi'.length]; simp
  rw [show decide (xs.size < xs'.size) = false from decide_eq_false (by omega)]
  exact lexs 0 hi hi' (by omega) ⟨rfl, rfl⟩
theorem firsts {h : Heap} {d : Nat} {k : Value → List Int} (hd : 1 ≤ d) : ∀ {vs : List Value}, (∀ v ∈ vs, (k v).length = d ∧ IsTup h v (k v)) → ∃ fs : List Value, PySem.W.KatTups h vs fs ∧ fs.length = vs.length ∧ ∀ f ∈ fs, ∃ x t, f = Value.int x t
  | [], _ => ⟨[], PySem.W.KatTups.nil, rfl, fun _ hm => by simp at hm⟩
  | v :: vs, hp => by
    obtain ⟨fs, h1, h2, h3⟩ := firsts hd (vs := vs) fun v' hm => hp v' (List.mem_cons_of_mem _ hm)
    obtain ⟨l, a, o, xs, n, e, ho, hc, hdt, hi⟩ := hp v (List.mem_cons_self ..)
    generalize k v = ns at l hi
    subst e
    cases q : xs.toList with
    | nil => rw [q] at hi; cases hi; simp at l; omega
    | cons y ys =>
      rw [q] at hi
      cases hi with
      | cons x t hi' =>
        have h0 : xs[0]? = some (Value.int x t) := by
          rw [← Array.getElem?_toList, q]; rfl
        refine ⟨.int x t :: fs, PySem.W.KatTups.cons ho hc hdt h0 h1, by rw [List.length_cons, List.length_cons, h2], fun f hm => ?_⟩
        rcases List.mem_cons.mp hm with rfl | hm
        · exact ⟨x, t, rfl⟩
        · exact h3 f hm
theorem tups_sortable {a : Addr} {d : Nat} {vs : List Value} {k : Value → List Int} (hd : 1 ≤ d) (h0 : 0 < vs.length) (hp : ∀ v ∈ vs, (k v).length = d ∧ IsTup s.heap v (k v)) (ha : ∀ o, s.heap.get? a = some o → o.cls ≠ .type "tuple") : SortableO prog w A s a vs fun v u => ltC d (k v) (k u) := by
  intro h' keep
  have hp' : ∀ v ∈ vs, (k v).length = d ∧ IsTup h' v (k v) := fun v hm => ⟨(hp v hm).1, (hp v hm).2.keeps fun b o e c => keep b o (fun z => by subst z; exact ha o e c) e⟩
  obtain ⟨fs, h1, h2, h3⟩ := firsts hd hp'
  refine ⟨tuples' true, fun Q E hq => ?_, tup_cmp hp'⟩
  refine PySem.W.kat_kind (T := .type "int") h1 (by omega) (fun f hm => ?_) (by rfl) ?_
  · obtain ⟨x, t, rfl⟩ := h3 f hm
    exact PySem.W.Looks.now
  · have e : (Value.type "int" != Value.type "tuple") = true := by first | decide +kernel | rfl | decide
    rw [e]
    exact hq
theorem sorted_tups {l : Addr} {d : Nat} {vs : List Value} {k : Value → List Int} {Q : Value → Shared → Prop} (hd1 : 1 ≤ d) (hl : s.heap.IsList l vs.toArray) (hz : vs.length ≤ sizeLine) (hp : ∀ v ∈ vs, (k v).length = d ∧ IsTup s.heap v (k v))
    (h : ∀ (h' : Heap) (p : Addr) (out : List Value), Srtd (fun v u => ltC d (k v) (k u)) out → Stb (fun v u => ltC d (k v) (k u)) out vs → (∀ b o, s.heap.get? b = some o → h'.get? b = some o) → s.heap.objs.size ≤ p → (∃ n, h'.get? p = some (seqObj "list" out.toArray n)) → Q (.ref p) { s with heap := h' }) :
    wpAny (model prog w) A (call (.builtin "sorted") [.ref l]) Q E s := by
  refine sorted_ord (swo_tup d k) hl hz (fun h2 h₁ a ha kk => ?_) fun out hs hb => ?_
  · refine tups_sortable (s := { s with heap := h₁ }) hd1 (by omega) (fun v hm => ⟨(hp v hm).1, (hp v hm).2.keeps fun b o e _ => (kk b o e).2⟩) fun o e => ?_
    have e' : some o = some (seqObj "list" vs.toArray 0) := e.symm.trans ha
    cases e'
    intro c
    exact absurd (Value.type.inj c) (by decide)
  · exact h _ _ out hs hb (fun b o e => sortedAll_old e) (Nat.le_succ _) (sortedAll_at s.heap vs out.toArray)
end
end SrtI
namespace DL
open PySem PySem.Spec PyProof.Rows L2
def rSortedTI (K : PySem.W.Frag) : List V → Hp → VK → Prop := fun vs H Q => ∃ (a : Addr) (xs : List V) (d : Nat) (k : V → List Int), vs = [V.ref a] ∧ 1 ≤ d ∧ SqL K H a xs ∧ (∀ x ∈ xs, (k x).length = d ∧ ∃ t, x = V.ref t ∧ H t = some (.tup ((k x).map V.int))) ∧
  ∀ ys p, SrtO.Srtd (fun x y => SrtI.ltC d (k x) (k y)) ys → SrtO.Stb (fun x y => SrtI.ltC d (k x) (k y)) ys xs → H p = none → Q (.ref p) (upd H p (.lst ys))
theorem ints_of_vals : ∀ {ns : List Int} {us : List Value}, Vals (ns.map V.int) us → IntsAre us ns
  | [], _, .nil => .nil
  | n :: ns, _ :: us, .cons r t => by
    obtain ⟨tk, rfl⟩ := (show ∃ t, _ = Value.int n t from r)
    exact .cons n tk (ints_of_vals t)
section
variable {X : Cx}
theorem cr_sortedTI : CallR X (.builtin "sorted") (rSortedTI X.K) := by
  intro pins s σ H vs us Q I r h
  obtain ⟨a, xs, d, k, rfl, hd, hs, hx, q⟩ := h
  obtain ⟨its, rv, hl, hz⟩ := I.list hs
  obtain ⟨u, rfl, ru⟩ := vals1 r
  obtain rfl : u = Value.ref a := ru
  obtain ⟨e1, e2⟩ := refs_back rv fun x m => by
    obtain ⟨_, t, e, _⟩ := hx x m
    exact ⟨t, e⟩
  refine SrtI.sorted_tups (d := d) (k := fun u => k (backV u)) hd hl.isList (by rw [← rv.length]; exact hz) (fun v hv => ?_) fun h' p out h1 h2 kp hd' hn => ?_
  · obtain ⟨t, rfl⟩ := e2 v hv
    have hm : V.ref t ∈ xs := by rw [e1]; exact List.mem_map.mpr ⟨_, hv, rfl⟩
    obtain ⟨hlen, t', e, ht⟩ := hx _ hm
    cases e
    obtain ⟨_, its2, r2, o, ho, hc, n, hdt⟩ := I.hok _ _ ht
    exact ⟨hlen, t, o, _, n, rfl, ho, hc, hdt, by rw [List.toList_toArray]; exact ints_of_vals r2⟩
  · have h3 : ∀ u ∈ out, ∃ a, u = Value.ref a := fun u hu => e2 u (h2.perm.mem_iff.mp hu)
    obtain ⟨n, hn⟩ := hn
    have hb : SrtO.Stb (fun x y => SrtI.ltC d (k x) (k y)) (out.map backV) xs := by
      rw [e1]
      exact SrtO.Stb.map (SrtI.swo_tup d k) backV h2
    refine ⟨.ref p, upd H p (.lst (out.map backV)), I.laid (t' := s.toks) kp hd' ⟨?_, out, n, vals_back h3, hn⟩, rfl, q _ p (SrtO.srtd_map (lt := fun x y => SrtI.ltC d (k x) (k y)) h1) hb (I.hok.fresh hd')⟩
    rw [hb.len]
    exact hz
end
def eT (ns : List Int) : D := .tup (ns.map D.int)
def toTups (d : Nat) : List D → Option (List (List Int))
  | [] => some []
  | .tup xs :: ds => (toInts xs).bind fun ns => if ns.length = d then (toTups d ds).map fun ps => ns :: ps else none
  | _ :: _ => none
theorem toTups_eq {d : Nat} : ∀ {ds : List D} {ps : List (List Int)}, toTups d ds = some ps → ds = ps.map eT ∧ ∀ p ∈ ps, p.length = d
  | [], _, h => by cases h; exact ⟨rfl, fun p hp => nomatch hp⟩
  | x :: ds, ps, h => by
    unfold toTups at h
    split at h
    · rename_i e; cases e
    · rename_i xs ds' e
      cases e
      cases q : toInts xs with
      | none => rw [q] at h; cases h
      | some ns =>
        rw [q] at h
        simp only [Option.bind_some] at h
        split at h
        · rename_i hl
          cases q2 : toTups d ds with
          | none => rw [q2] at h; cases h
          | some qs =>
            rw [q2] at h; cases h
            obtain ⟨e1, e2⟩ := toTups_eq q2
            cases toInts_eq q
            refine ⟨by rw [e1]; rfl, fun p hp => ?_⟩
            rcases List.mem_cons.mp hp with rfl | hp
            · exact hl
            · exact e2 p hp
        · cases h
    · cases h
theorem toTups_map {d : Nat} : ∀ {ps : List (List Int)}, (∀ p ∈ ps, p.length = d) → toTups d (ps.map eT) = some ps
  | [], _ => rfl
  | p :: ps, h => by
    show (toInts (p.map D.int)).bind _ = _
    rw [toInts_map]
    simp only [Option.bind_some]
    rw [if_pos (h p List.mem_cons_self)]
    show (toTups d (ps.map eT)).map _ = _
    rw [toTups_map fun q hq => h q (List.mem_cons_of_mem _ hq)]; rfl
def tle (d : Nat) (p q : List Int) : Bool := !SrtI.ltC d q p
theorem tle_trans {d : Nat} (a b c : List Int) (h1 : tle d a b = true) (h2 : tle d b c = true) : tle d a c = true := by
  unfold tle at *
  have := (SrtI.swo_tup d (fun x : List Int => x)).tr a b c (by simpa using h1) (by simpa using h2)
  simp [this]
theorem tle_tot {d : Nat} (a b : List Int) : (tle d a b || tle d b a) = true := by
  unfold tle
  cases h : SrtI.ltC d b a with
  | false => rfl
  | true => rw [(SrtI.swo_tup d (fun x : List Int => x)).asym b a h]; rfl
theorem lex_eq : ∀ {x y : List Int}, x.length = y.length → HT.lexLt x y = false → HT.lexLt y x = false → x = y
  | [], [], _, _, _ => rfl
  | x :: a, y :: b, hl, h1, h2 => by
    rw [HT.lexLt_cons] at h1 h2
    by_cases e : x = y
    · rw [if_pos e] at h1; rw [if_pos e.symm] at h2
      rw [e, lex_eq (by simpa using hl) h1 h2]
    · rw [if_neg e] at h1; rw [if_neg (fun z => e z.symm)] at h2
      have := of_decide_eq_false h1
      have := of_decide_eq_false h2
      omega
def tsort (d : Nat) (ps : List (List Int)) : List (List Int) := ps.mergeSort (tle d)
theorem tsort_perm (d : Nat) (ps : List (List Int)) : (tsort d ps).Perm ps := List.mergeSort_perm _ _
theorem tsort_sorted (d : Nat) (ps : List (List Int)) : (tsort d ps).Pairwise fun p q => tle d p q = true := List.pairwise_mergeSort (le := tle d) tle_trans tle_tot ps
theorem tsort_uniq {d : Nat} {ps ps' : List (List Int)} (hd : ∀ p ∈ ps, p.length = d) (h1 : ps'.Perm ps) (h2 : ps'.Pairwise fun p q => tle d p q = true) : ps' = tsort d ps :=
  List.Perm.eq_of_pairwise (le := fun p q => tle d p q = true) (fun a b ha hb x y => by
    have la := hd a (h1.mem_iff.mp ha)
    have lb := hd b ((tsort_perm d ps).mem_iff.mp hb)
    unfold tle SrtI.ltC at x y
    rw [SrtI.cut_same la, SrtI.cut_same lb] at x y
    exact lex_eq (by omega) (by simpa using y) (by simpa using x)) h2 (tsort_sorted d ps) (h1.trans (tsort_perm d ps).symm)
theorem intsD_of {K : PySem.W.Frag} {r : List Addr} {F : Hp} {vs : List V} {ns : List Int} (h : RepAll K r F vs (ns.map D.int)) : vs = ns.map V.int := h.ints
def keyT (H : Hp) : V → List Int
  | .ref t => match H t with
    | some (.tup vs) => vs.map fun v => match v with
      | .int i => i
      | _ => 0
    | _ => []
  | _ => []
theorem keyT_rep {K : PySem.W.Frag} {r : List Addr} {F H : Hp} (s : Same F H) {v : V} {p : List Int} (h : Rep K r F v (eT p)) : keyT H v = p ∧ ∃ t, v = .ref t ∧ H t = some (.tup (p.map V.int)) := by
  cases h with
  | tup hs ha =>
    cases ha.ints
    have e := s _ _ hs
    refine ⟨?_, _, rfl, e⟩
    show (match H _ with | some (.tup vs) => vs.map _ | _ => []) = p
    rw [e]
    show List.map _ (List.map V.int p) = p
    rw [List.map_map]
    exact (List.map_congr_left (g := id) fun _ _ => rfl).trans (List.map_id p)
theorem keysT_rep {K : PySem.W.Frag} {r : List Addr} {F H : Hp} (s : Same F H) : ∀ {vs : List V} {ps : List (List Int)}, RepAll K r F vs (ps.map eT) → vs.map (keyT H) = ps ∧ ∀ v ∈ vs, Rep K r F v (eT (keyT H v))
  | [], [], _ => ⟨rfl, fun v hv => nomatch hv⟩
  | v :: vs, p :: ps, .cons h t => by
    obtain ⟨e1, e2⟩ := keysT_rep s t
    obtain ⟨e3, _⟩ := keyT_rep s h
    refine ⟨by rw [List.map_cons, e1, e3], fun w hw => ?_⟩
    rcases List.mem_cons.mp hw with rfl | hw
    · rw [e3]; exact h
    · exact e2 w hw
theorem repT_keys {K : PySem.W.Frag} {r : List Addr} {F : Hp} {k : V → List Int} : ∀ {vs : List V}, (∀ v ∈ vs, Rep K r F v (eT (k v))) → RepAll K r F vs ((vs.map k).map eT)
  | [], _ => .nil
  | v :: vs, h => .cons (h v List.mem_cons_self) (repT_keys fun w hw => h w (List.mem_cons_of_mem _ hw))
def pSortT (d : Nat) : List D → Store → MX FT := fun xs m => match xs with
  | [x] => if 1 ≤ d then (rdQ m x).bind fun ds => (toTups d ds).bind fun ps => ret (.own ((tsort d ps).map eT)) m else none
  | _ => none
theorem sc_pSortT {d : Nat} {K : PySem.W.Frag} {W : WX} : SC K W (RF K) (rSortedTI K) (pSortT d) := fun xs m res m' e r F H σ vs hr p => by
  unfold pSortT at e
  split at e
  · rename_i x
    split at e
    · rename_i hd
      cases h0 : rdQ m x with
      | none => rw [h0] at e; cases e
      | some ds =>
        rw [h0] at e
        simp only [Option.bind_some] at e
        cases h1 : toTups d ds with
        | none => rw [h1] at e; cases e
        | some ps =>
          rw [h1] at e; cases e
          obtain ⟨z1, z2⟩ := toTups_eq h1
          cases z1
          obtain ⟨v, rfl, pv⟩ := rep1 p
          obtain ⟨a, ws, rfl, hs, ra⟩ := rdQ_get h0 hr pv
          obtain ⟨e1, e2⟩ := keysT_rep hr.sub ra
          have hlen : ∀ x ∈ ws, (keyT H x).length = d := fun x hx => z2 _ (by rw [← e1]; exact List.mem_map.mpr ⟨x, hx, rfl⟩)
          refine fun Q q => ⟨_, ws, d, keyT H, rfl, hd, hs, fun x hx => ⟨hlen x hx, (keyT_rep hr.sub (e2 x hx)).2⟩, fun ys p' h2 h3 hp' => ?_⟩
          have hp : ys.Perm ws := h3.perm
          have e3 : ys.map (keyT H) = tsort d ps := by
            refine tsort_uniq z2 ?_ ?_
            · rw [← e1]; exact hp.map _
            · rw [List.pairwise_map]
              exact h2.imp fun {x y} z => by
                show (!SrtI.ltC d (keyT H y) (keyT H x)) = true
                rw [show SrtI.ltC d (keyT H y) (keyT H x) = false from z]; rfl
          have ra2 : RepAll K r F ys ((tsort d ps).map eT) := by
            rw [← e3]
            exact repT_keys fun y hy => e2 y (hp.mem_iff.mp hy)
          obtain ⟨q1, q2, q3⟩ := rf_new hr hp' ra2
          exact q _ r F _ q1 q2 q3
    · cases e
  · cases e
end DL
/-! a cell taken as data from here on; a list unpacked -/
namespace DL
open PySem PySem.Spec PyProof.Rows L2
section
variable {K : PySem.W.Frag} {r : List Addr} {F H : Hp} {m : Store}
theorem live_gone {k l : Nat} (h : live (m.set k .gone) l) : live m l ∧ l ≠ k := by
  obtain ⟨c, e, ng⟩ := h
  by_cases hk : k = l
  · subst hk
    have hlt : k < (m.set k .gone).length := (List.getElem?_eq_some_iff.mp e).1
    rw [List.getElem?_set_self (by simpa using hlt)] at e
    cases e
    cases ng
  · rw [List.getElem?_set_ne hk] at e
    exact ⟨⟨c, e, ng⟩, fun z => hk z.symm⟩
theorem HR.drop (h : HR K r F H m) (k : Nat) : HR K r F H (m.set k .gone) := by
  refine ⟨by simp [h.len], h.sub, fun l a c e1 e2 ng => ?_, fun l l' a e1 e2 l1 l2 => h.inj l l' a e1 e2 (live_gone l1).1 (live_gone l2).1, fun l a kvs e1 e2 => ?_, fun i j a x y e1 e2 z1 z2 => ?_⟩
  · obtain ⟨⟨c', e3, ng'⟩, hl⟩ := live_gone ⟨c, e2, ng⟩
    rw [List.getElem?_set_ne (fun z => hl z.symm)] at e2
    exact h.cell l a c e1 e2 ng
  · by_cases hl : k = l
    · subst hl
      have hlt : k < (m.set k .gone).length := (List.getElem?_eq_some_iff.mp e2).1
      rw [List.getElem?_set_self (by simpa using hlt)] at e2
      cases e2
    · rw [List.getElem?_set_ne hl] at e2
      exact h.fz l a kvs e1 e2
  · have old : ∀ (i : Nat) x, (m.set k .gone)[i]? = some (.fz x) → m[i]? = some (.fz x) := fun i x e2 => by
      by_cases hl : k = i
      · subst hl
        have hlt : k < (m.set k .gone).length := (List.getElem?_eq_some_iff.mp e2).1
        rw [List.getElem?_set_self (by simpa using hlt)] at e2
        cases e2
      · rw [List.getElem?_set_ne hl] at e2
        exact e2
    exact h.fzi i j a x y e1 e2 (old i x z1) (old j y z2)
theorem frz_ok (h : HR K r F H m) {k : Nat} {xs : List D} {v : V} (p : Rep K r F v (.cell k)) (hk : m[k]? = some (.lst xs)) : ∃ F', HR K r F' H (m.set k .gone) ∧ Ext r F H m r F' H (m.set k .gone) ∧ Rep K r F' v (.lst xs) := by
  cases p with
  | @cell _ a ha =>
    obtain ⟨fa, vs, hv, ra⟩ := h.cell k a _ ha hk rfl
    have lk : live m k := ⟨_, hk, rfl⟩
    have np : ∀ l : Nat, live (m.set k .gone) l → r[l]? ≠ some a := fun l ll e => (live_gone ll).2 (h.inj l k a e ha (live_gone ll).1 lk)
    have hd := (h.drop k).freeze fa np hv
    have sm : Same F (upd F a (.lst vs)) := fun b u e => by rw [upd_ne (ne_of_none e fa)]; exact e
    refine ⟨_, hd, ⟨Pre.refl r, sm, fun _ _ e _ => e, fun b fb e => ?_, fun l b hl e => ?_, fun l _ ll => (live_gone ll).1, by simp, fun _ o e => ⟨o, e⟩⟩, .lst upd_same (ra.mono (Pre.refl r) sm)⟩
    · by_cases hb : b = a
      · subst hb; exact .inr ⟨k, lk, ha⟩
      · rw [upd_ne hb] at e; exact absurd fb e
    · have := (List.getElem?_eq_some_iff.mp e).1
      rw [h.len] at this
      omega
end
def eFrz (a : ME) : ME := fun δ m => (a δ m).bind fun x m => match x with
  | .cell k => match m[k]? with
    | some (.lst xs) => ret (.lst xs) (m.set k .gone)
    | _ => none
  | d => ret d m
section
variable {K : PySem.W.Frag} {W : WX} {ta : TE} {a : ME}
theorem so_frz (ha : So K W (RE K) ta a) : So K W (RE K) ta (eFrz a) := fun δ m res m' e r F H σ hr er => by
  rcases bind_some e with ⟨x, m1, e1, e2⟩ | ⟨y, e1, rfl⟩
  · have h := ha δ m _ _ e1 r F H σ hr er
    cases x with
    | cell k =>
      dsimp only at e2
      split at e2
      · rename_i xs hk
        cases e2
        exact fun Q q => h Q fun v r' F' H' hr' x' rv => by
          obtain ⟨F2, q1, q2, q3⟩ := frz_ok hr' rv hk
          exact q v r' F2 H' q1 (x'.trans hr'.len hr.len q2) q3
      · cases e2
    | _ => cases e2; exact h
  · exact (ha δ m _ _ e1 r F H σ hr er)
/-- a list unpacked -/
def mLst (gs : MGs) : MG := fun d δ => match d with
  | .lst ds => gs ds δ
  | _ => none
theorem sg_lst {gs : TGs} {mgs : MGs} {n : Nat} (hm : Many mgs n) (hs : SGs K gs mgs) : SG K (gUnl K n gs) (mLst mgs) := fun d δ δ' e => by
  cases d with
  | lst ds =>
    intro r F H m σ v hr er p Q q
    cases p with
    | lst h ha => exact ⟨_, _, rfl, SqL.of (hr.sub _ _ h), ha.len.trans (hm.len e), hs ds δ δ' e r F H m σ _ hr er ha Q q⟩
  | _ => cases e
end
end DL
/-! texts of numbers, texts put together; int(truth); insert, index, count of lists -/
namespace DL
open PySem PySem.Spec PyProof.Rows L2
section
variable {K : PySem.W.Frag} {W : WX} {ta tb tc : TE} {tas : TA} {a b c : ME} {as : MA}
abbrev rStrI : List V → Hp → VK → Prop := fun xs H Q => ∃ i, xs = [.int i] ∧ i.natAbs.log2 < 1920 ∧ Q (.str (toString i)) H
def pStrI : List D → Store → MX D := fun xs m => match xs with
  | [.int i] => if i.natAbs.log2 < 1920 then ret (.str (toString i)) m else none
  | _ => none
theorem sc_pStrI : SC K W (RE K) rStrI pStrI := fun xs m res m' e r F H σ vs hr p => by
  unfold pStrI at e
  split at e
  · rename_i i
    split at e
    · rename_i hi
      cases e
      obtain ⟨v, rfl, pv⟩ := rep1 p
      cases pv
      exact fun Q q => ⟨i, rfl, hi, q _ r F H hr (Ext.refl hr) (.str _)⟩
    · cases e
  · cases e
abbrev rInt1 : List V → Hp → VK → Prop := fun xs H Q => (∃ i, xs = [.int i] ∧ Q (.int i) H) ∨ ∃ k, xs = [.bl k] ∧ Q (.int (if k then 1 else 0)) H
def pInt1 : List D → Store → MX D := fun xs m => match xs with
  | [.int i] => ret (.int i) m
  | [.bl k] => ret (.int (if k then 1 else 0)) m
  | _ => none
theorem sc_pInt1 : SC K W (RE K) rInt1 pInt1 := fun xs m res m' e r F H σ vs hr p => by
  unfold pInt1 at e
  split at e
  · cases e
    obtain ⟨v, rfl, pv⟩ := rep1 p
    cases pv
    exact fun Q q => .inl ⟨_, rfl, q _ r F H hr (Ext.refl hr) (.int _)⟩
  · cases e
    obtain ⟨v, rfl, pv⟩ := rep1 p
    cases pv
    exact fun Q q => .inr ⟨_, rfl, q _ r F H hr (Ext.refl hr) (.int _)⟩
  · cases e
abbrev oAddS : R2 := fun x y H Q => ∃ i j, x = .str i ∧ y = .str j ∧ i.length + j.length ≤ sizeLine ∧ Q (.str (i ++ j)) H
def pAddS : D → D → Store → MX D := fun x y m => match x, y with
  | .str i, .str j => if i.length + j.length ≤ 100000 then ret (.str (i ++ j)) m else none
  | _, _ => none
theorem s2_pAddS : S2 K W oAddS pAddS := fun x y m res m' e r F H σ vx vy hr px py => by
  unfold pAddS at e
  split at e
  · split at e
    · rename_i hl
      cases e; cases px; cases py
      exact fun Q q => ⟨_, _, rfl, rfl, Evl.sz_of hl, q _ r F H hr (Ext.refl hr) (.str _)⟩
    · cases e
  · cases e
/-- insert -/
abbrev rInsert : V → List V → Hp → VK → Prop := fun x vs H Q => ∃ (l : Addr) (xs : List V) (i : Int) (y : V), x = .ref l ∧ vs = [.int i, y] ∧ H l = some (.lst xs) ∧ xs.length < sizeLine ∧ 0 ≤ i ∧ i < 2 ^ 63 ∧ Q .non (upd H l (.lst (xs.take i.toNat ++ [y] ++ xs.drop i.toNat)))
open Classical in
noncomputable def pInsert : D → List D → Store → MX D := fun x as m => match as with
  | [.int i, d] => (cellL m x).bind fun p => if p.2.length < 100000 ∧ Rg62 i ∧ 0 ≤ i then ret .non (m.set p.1 (.lst (p.2.take i.toNat ++ [d] ++ p.2.drop i.toNat))) else none
  | _ => none
theorem RepAll.takeN {r : List Addr} {F : Hp} : ∀ {vs : List V} {xs : List D} (n : Nat), RepAll K r F vs xs → RepAll K r F (vs.take n) (xs.take n)
  | _, _, 0, _ => by rw [List.take_zero, List.take_zero]; exact .nil
  | _, _, n + 1, .nil => by rw [List.take_nil, List.take_nil]; exact .nil
  | _, _, n + 1, .cons h t => by rw [List.take_succ_cons, List.take_succ_cons]; exact .cons h (RepAll.takeN n t)
theorem RepAll.dropN {r : List Addr} {F : Hp} : ∀ {vs : List V} {xs : List D} (n : Nat), RepAll K r F vs xs → RepAll K r F (vs.drop n) (xs.drop n)
  | _, _, 0, h => by rw [List.drop_zero, List.drop_zero]; exact h
  | _, _, n + 1, .nil => by rw [List.drop_nil, List.drop_nil]; exact .nil
  | _, _, n + 1, .cons h t => by rw [List.drop_succ_cons, List.drop_succ_cons]; exact RepAll.dropN n t
open Classical in
theorem sm_pInsert : SM K W rInsert pInsert := fun x xs m res m' e r F H σ v vs hr px ps => by
  unfold pInsert at e
  split at e
  · rename_i i d
    cases h0 : cellL m x with
    | none => rw [h0] at e; cases e
    | some p =>
      obtain ⟨k, ys⟩ := p
      rw [h0] at e
      simp only [Option.bind_some] at e
      split at e
      · rename_i hl
        cases e
        obtain ⟨a, ws, rfl, ea, hk, h1, h2⟩ := cellL_get h0 hr px
        obtain ⟨y1, y, rfl, p1, py⟩ := rep2 ps
        cases p1
        obtain ⟨z1, z2⟩ := putL hr ea hk h1 (((h2.takeN i.toNat).app (.one py)).app (h2.dropN i.toNat))
        exact fun Q q => ⟨_, ws, i, y, rfl, rfl, h1, Evl.sz_lt (by rw [h2.len]; exact hl.1), hl.2.2, hl.2.1.wide.2, q _ r F _ z1 z2 .non⟩
      · cases e
  · cases e
/-- count of whole numbers -/
def pCount : D → List D → Store → MX D := fun x as m => match as with
  | [.int k] => (rdQ m x).bind fun ds => (toInts ds).bind fun ns => ret (.int (ns.count k : Nat)) m
  | _ => none
theorem sm_pCount : SM K W (rCntI K) pCount := fun x xs m res m' e r F H σ v vs hr px ps => by
  unfold pCount at e
  split at e
  · rename_i k
    cases h0 : rdQ m x with
    | none => rw [h0] at e; cases e
    | some ds =>
      rw [h0] at e
      simp only [Option.bind_some] at e
      cases h1 : toInts ds with
      | none => rw [h1] at e; cases e
      | some ns =>
        rw [h1] at e; cases e
        cases toInts_eq h1
        obtain ⟨p, ws, rfl, hs, ra⟩ := rdQ_get h0 hr px
        cases ra.ints
        obtain ⟨y, rfl, py⟩ := rep1 ps
        cases py
        exact fun Q q => ⟨_, _, _, rfl, rfl, hs, q _ r F H hr (Ext.refl hr) (.int _)⟩
  · cases e
end
end DL
/-! remove and count over data at any depth -/
namespace DL
open PySem PySem.Spec PyProof.Rows L2
section
variable {X : Cx}
/-- the first item alike goes -/
def rRemD (K : PySem.W.Frag) : V → List V → Hp → VK → Prop := fun x xs H Q => ∃ (l : Addr) (vs : List V) (v : V) (ds : List PyData) (d : PyData) (j : Nat), x = .ref l ∧ xs = [v] ∧ H l = some (.lst vs) ∧ DpAll K H vs ds ∧ Dp K H v d ∧ PyData.plainAll ds = true ∧ d.plain = true ∧ d.depth ≤ 61 ∧ SeqAt.dataPlace ds d = some j ∧ Q .non (upd H l (.lst (vs.eraseIdx j)))
theorem vals_erase : ∀ {vs : List V} {us : List Value} (j : Nat), Vals vs us → Vals (vs.eraseIdx j) (us.eraseIdx j)
  | _, _, _, .nil => .nil
  | _, _, 0, .cons _ h => h
  | _, _, j + 1, .cons r h => .cons r (vals_erase j h)
theorem mt_removeD (hu : X.A.units + 64 < cLine) : MtM X "list.remove" (rRemD X.K) := by
  intro pins s σ H x xs v us Q I rx rxs h
  obtain ⟨l, vs, w, ds, d, j, rfl, rfl, hH, hds, hd, pl, pd, dp, hj, q⟩ := h
  cases rx
  obtain ⟨u, rfl, ru⟩ := rxs.one
  obtain ⟨z, its, n, r, hl, e⟩ := I.lstM hH
  obtain ⟨as, r1⟩ := Dp.readsAll I ds _ its hds r
  obtain ⟨bs, r2⟩ := Dp.reads I d w u hd ru
  have m1 : min (PyData.depthAll ds) d.depth ≤ 61 := Nat.le_trans (Nat.min_le_right _ _) dp
  refine SeqAt.remove_list_data (vs := its.toArray) (xs := ds) (d := d) (j := j) ⟨_, e, rfl, n, rfl⟩ r1 r2 pl pd (by omega) hj (by rw [List.size_toArray]; omega) ?_
  refine ⟨.non, _, I.lset (its' := its.eraseIdx j) (t' := s.toks) hH e ?_ (vals_erase j r) ?_, rfl, q⟩
  · show its.toArray.eraseIdxIfInBounds j = (its.eraseIdx j).toArray
    rw [List.eraseIdxIfInBounds_toArray]
  · have := List.length_eraseIdx_le vs j
    omega
/-- how many are alike -/
def rCntD (K : PySem.W.Frag) : V → List V → Hp → VK → Prop := fun x xs H Q => ∃ (l : Addr) (vs : List V) (v : V) (ds : List PyData) (d : PyData), x = .ref l ∧ xs = [v] ∧ SqL K H l vs ∧ DpAll K H vs ds ∧ Dp K H v d ∧ PyData.plainAll ds = true ∧ d.plain = true ∧ d.depth ≤ 61 ∧ Q (.int ((ds.countP fun y => PyData.eqv y d : Nat) : Int)) H
theorem mt_countD (hu : X.A.units + 64 < cLine) : MtR X "list.count" (rCntD X.K) := by
  intro pins s σ H x xs v us Q I rx rxs h
  obtain ⟨l, vs, w, ds, d, rfl, rfl, hs, hds, hd, pl, pd, dp, q⟩ := h
  cases rx
  obtain ⟨u, rfl, ru⟩ := rxs.one
  obtain ⟨its, rv, ⟨o, n, ho, hc, hdn, hdd⟩, hlen⟩ := I.list hs
  obtain ⟨as, r1⟩ := Dp.readsAll I ds _ its hds rv
  obtain ⟨bs, r2⟩ := Dp.reads I d w u hd ru
  have m1 : min (PyData.depthAll ds) d.depth ≤ 61 := Nat.le_trans (Nat.min_le_right _ _) dp
  exact SeqAt.count_list_data (vs := its.toArray) (xs := ds) (d := d) ⟨o, ho, hc, n, hdd⟩ r1 r2 pl pd (by omega) ⟨.int _, H, I.tok _, ⟨s.toks, rfl⟩, q⟩
end
mutual
theorem plain_toPy : ∀ d : D, d.toPy.plain = true
  | .non => rfl
  | .bl b => rfl
  | .int i => rfl
  | .str x => rfl
  | .lst xs => plain_toPys xs
  | .tup xs => plain_toPys xs
  | .cell _ => rfl
  | .scr ns => by
    show PyData.plainAll (ns.map PyData.int) = true
    induction ns with
    | nil => rfl
    | cons n ns ih => exact ih
  | .exc _ => rfl
theorem plain_toPys : ∀ ds : List D, PyData.plainAll (D.toPys ds) = true
  | [] => rfl
  | d :: ds => by
    show (d.toPy.plain && PyData.plainAll (D.toPys ds)) = true
    rw [plain_toPy d, plain_toPys ds]; rfl
end
section
variable {K : PySem.W.Frag} {W : WX}
/-- where the first one alike stands -/
def plcD (ds : List D) (d : D) : Option Nat := ds.findIdx? fun y => eqb y d
theorem toPys_map : ∀ ds : List D, D.toPys ds = ds.map D.toPy
  | [] => rfl
  | d :: ds => congrArg (d.toPy :: ·) (toPys_map ds)
theorem plc_py (ds : List D) (d : D) : SeqAt.dataPlace (D.toPys ds) d.toPy = plcD ds d := by
  unfold SeqAt.dataPlace plcD
  rw [toPys_map, List.findIdx?_map]; rfl
theorem rep_erase {r : List Addr} {F : Hp} : ∀ {vs : List V} {ds : List D} (j : Nat), RepAll K r F vs ds → RepAll K r F (vs.eraseIdx j) (ds.eraseIdx j)
  | _, _, _, .nil => .nil
  | _, _, 0, .cons _ h => h
  | _, _, j + 1, .cons p h => .cons p (rep_erase j h)
open Classical in
noncomputable def pRemD : D → List D → Store → MX D := fun x as m => match as with
  | [d] => (cellL m x).bind fun p => if Sh 60 (.lst p.2) ∧ Sh 60 d then (plcD p.2 d).bind fun j => ret .non (m.set p.1 (.lst (p.2.eraseIdx j))) else none
  | _ => none
theorem sm_pRemD : SM K W (rRemD K) pRemD := fun x xs m res m' e r F H σ v vs hr px ps => by
  unfold pRemD at e
  split at e
  · rename_i d
    cases h0 : cellL m x with
    | none => rw [h0] at e; cases e
    | some p =>
      obtain ⟨k, ys⟩ := p
      rw [h0] at e
      simp only [Option.bind_some] at e
      split at e
      · rename_i hs
        cases h1 : plcD ys d with
        | none => rw [h1] at e; cases e
        | some j =>
          rw [h1] at e; cases e
          obtain ⟨a, ws, rfl, ea, hk, h2, h3⟩ := cellL_get h0 hr px
          obtain ⟨y, rfl, py⟩ := rep1 ps
          obtain ⟨z1, z2⟩ := putL hr ea hk h2 (rep_erase j h3)
          have p1 : D.pures ys = true := hs.1.pure
          exact fun Q q => ⟨_, ws, y, D.toPys ys, d.toPy, j, rfl, rfl, h2, h3.dp hr.sub p1, py.dp hr.sub hs.2.pure, plain_toPys ys, plain_toPy d, by have := (Sh.all 60 d hs.2).2.2; omega, by rw [plc_py]; exact h1, q _ r F _ z1 z2 .non⟩
      · cases e
  · cases e
open Classical in
noncomputable def pCntD : D → List D → Store → MX D := fun x as m => match as with
  | [d] => (rdQ m x).bind fun ds => if Sh 60 (.lst ds) ∧ Sh 60 d then ret (.int ((ds.countP fun y => eqb y d : Nat) : Int)) m else none
  | _ => none
theorem sm_pCntD : SM K W (rCntD K) pCntD := fun x xs m res m' e r F H σ v vs hr px ps => by
  unfold pCntD at e
  split at e
  · rename_i d
    cases h0 : rdQ m x with
    | none => rw [h0] at e; cases e
    | some ds =>
      rw [h0] at e
      simp only [Option.bind_some] at e
      split at e
      · rename_i hs
        cases e
        obtain ⟨p, ws, rfl, hq, ra⟩ := rdQ_get h0 hr px
        obtain ⟨y, rfl, py⟩ := rep1 ps
        have p1 : D.pures ds = true := hs.1.pure
        have ec : (D.toPys ds).countP (fun y => PyData.eqv y d.toPy) = ds.countP fun y => eqb y d := by
          rw [toPys_map, List.countP_map]; rfl
        exact fun Q q => ⟨_, ws, y, D.toPys ds, d.toPy, rfl, rfl, hq, ra.dp hr.sub p1, py.dp hr.sub hs.2.pure, plain_toPys ds, plain_toPy d, by have := (Sh.all 60 d hs.2).2.2; omega, by rw [ec]; exact q _ r F H hr (Ext.refl hr) (.int _)⟩
      · cases e
  · cases e
/-- two names at once -/
def par2 (i j : Nat) (xs : List D) (δ : En) (m : Store) : Option OT := match xs with
  | [x, y] => some (.nx ((δ.set i (some x)).set j (some y)) m)
  | _ => none
def sPar (i j : Nat) (as : MA) : MS := fun δ m => (as δ m).run δ fun xs m => par2 i j xs δ m
theorem ss_par {i j : Nat} {tas : WX → TA} {as : MA} (hs : ∀ W, So K W (RA K) (tas W) as) : SS K (fun W => tPar i j (tas W)) (sPar i j as) :=
  SS.run hs (u := fun W vs D σ H => ∃ v w, vs = [v, w] ∧ D.nx ((σ.set i (some v)).set j (some w)) H) (k := fun xs δ m => par2 i j xs δ m) fun W xs δ m o q vs r F H σ H0 D hr er rv h => by
    unfold par2 at q
    split at q
    · rename_i x y
      cases q
      obtain ⟨v, w, rfl, p1, p2⟩ := rep2 rv
      exact ⟨v, w, rfl, sg_name (i := i) x δ _ rfl r F H m σ v hr er p1 (fun σ1 H1 => D.nx (σ1.set j (some w)) H1) fun σ1 er1 => sg_name (i := j) y _ _ rfl r F H m σ1 w hr er1 p2 _ fun σ2 er2 => h σ2 r F H hr er2 (Ext.refl hr)⟩
    · cases q
end
end DL
/-! dicts in cells: made anew, looked up, put into -/
namespace DL
open PySem PySem.Spec PyProof.Rows L2
def cellK (m : Store) (d : D) : Option (Nat × List (Key × D)) := match d with
  | .cell k => match m[k]? with
    | some (.dK kvs) => some (k, kvs)
    | _ => none
  | _ => none
def keyD : D → Option Key
  | .int i => some (.inl i)
  | .str x => some (.inr x)
  | _ => none
def valD (kvs : List (Key × D)) (k : Key) : Option D := (kvs.find? fun kv => decide (kv.1 = k)).map (·.2)
def putD (kvs : List (Key × D)) (k : Key) (v : D) : List (Key × D) :=
  if (kvs.any fun kv => decide (kv.1 = k)) = true then kvs.map (fun kv => if kv.1 = k then (kv.1, v) else kv) else kvs ++ [(k, v)]
section
variable {K : PySem.W.Frag} {W : WX} {r : List Addr} {F H : Hp} {m : Store} {v : V} {d : D} {k : Key}
theorem keyD_get (h : keyD d = some k) (p : Rep K r F v d) : v = kV k := by
  cases d with
  | int i => cases h; cases p; rfl
  | str x => cases h; cases p; rfl
  | _ => cases h
theorem cellK_get {j : Nat} {kvs : List (Key × D)} (h : cellK m d = some (j, kvs)) (hr : HR K r F H m) (p : Rep K r F v d) : ∃ a gs, v = .ref a ∧ r[j]? = some a ∧ m[j]? = some (.dK kvs) ∧ H a = some (.dK gs) ∧ RepK K r F gs kvs := by
  cases d with
  | cell k' =>
    unfold cellK at h
    dsimp only at h
    split at h
    · rename_i ys e
      cases h
      cases p with
      | cell ea =>
        obtain ⟨_, gs, h1, h2⟩ := hr.cell _ _ _ ea e rfl
        exact ⟨_, _, rfl, ea, e, h1, h2⟩
    · cases h
  | _ => cases h
/-- a dict that is read: it may be locked -/
def cellR (m : Store) (d : D) : Option (Nat × List (Key × D)) := match d with
  | .cell k => match m[k]? with
    | some (.dK kvs) => some (k, kvs)
    | some (.fz kvs) => some (k, kvs)
    | _ => none
  | _ => none
theorem cellR_get {j : Nat} {kvs : List (Key × D)} (h : cellR m d = some (j, kvs)) (hr : HR K r F H m) (p : Rep K r F v d) : ∃ a gs, v = .ref a ∧ r[j]? = some a ∧ L2.Rd H a (.dK gs) ∧ RepK K r F gs kvs := by
  cases d with
  | cell k' =>
    unfold cellR at h
    dsimp only at h
    split at h
    · rename_i ys e
      cases h
      cases p with
      | cell ea =>
        obtain ⟨_, gs, h1, h2⟩ := hr.cell _ _ _ ea e rfl
        exact ⟨_, _, rfl, ea, .inl h1, h2⟩
    · rename_i ys e
      cases h
      cases p with
      | cell ea =>
        obtain ⟨od, gs, h1, h2⟩ := hr.fz _ _ _ ea e
        exact ⟨_, _, rfl, ea, .inr ⟨od, hr.sub _ _ h1⟩, h2⟩
    · cases h
  | _ => cases h
theorem rep_len : ∀ {gs : List (Key × V)} {kvs : List (Key × D)}, RepK K r F gs kvs → gs.length = kvs.length
  | [], [], _ => rfl
  | _ :: _, _ :: _, h => congrArg Nat.succ (rep_len h.2.2)
  | [], _ :: _, h => h.elim
  | _ :: _, [], h => h.elim
theorem rep_any : ∀ {gs : List (Key × V)} {kvs : List (Key × D)}, RepK K r F gs kvs → (gs.any fun kv => decide (kv.1 = k)) = kvs.any fun kv => decide (kv.1 = k)
  | [], [], _ => rfl
  | (x, _) :: gs, (y, _) :: fs, h => by
    have e : x = y := h.1
    rw [List.any_cons, List.any_cons, rep_any h.2.2, e]
  | [], _ :: _, h => h.elim
  | _ :: _, [], h => h.elim
theorem rep_val : ∀ {gs : List (Key × V)} {kvs : List (Key × D)}, RepK K r F gs kvs → (∃ v d, valV gs k = some v ∧ valD kvs k = some d ∧ Rep K r F v d) ∨ (valV gs k = none ∧ valD kvs k = none)
  | [], [], _ => .inr ⟨rfl, rfl⟩
  | (x, v) :: gs, (y, d) :: fs, h => by
    obtain ⟨e, p, q⟩ := h
    subst e
    by_cases hx : x = k
    · exact .inl ⟨v, d, by simp [valV, List.find?_cons, hx], by simp [valD, List.find?_cons, hx], p⟩
    · rcases rep_val q with ⟨v', d', e1, e2, p'⟩ | ⟨e1, e2⟩
      · exact .inl ⟨v', d', by rw [valV_neg hx]; exact e1, by unfold valD at e2 ⊢; rw [List.find?_cons, decide_eq_false hx]; exact e2, p'⟩
      · exact .inr ⟨by rw [valV_neg hx]; exact e1, by unfold valD at e2 ⊢; rw [List.find?_cons, decide_eq_false hx]; exact e2⟩
  | [], _ :: _, h => h.elim
  | _ :: _, [], h => h.elim
theorem rep_upd {w : V} {e : D} (p : Rep K r F w e) : ∀ {gs : List (Key × V)} {kvs : List (Key × D)}, RepK K r F gs kvs → RepK K r F (gs.map fun kv => if kv.1 = k then (kv.1, w) else kv) (kvs.map fun kv => if kv.1 = k then (kv.1, e) else kv)
  | [], [], _ => trivial
  | (x, v) :: gs, (y, d) :: fs, h => by
    obtain ⟨ex, q, t⟩ := h
    subst ex
    have ih := rep_upd p t
    rw [List.map_cons, List.map_cons]
    by_cases hx : x = k
    · rw [if_pos hx, if_pos hx]; exact ⟨rfl, p, ih⟩
    · rw [if_neg hx, if_neg hx]; exact ⟨rfl, q, ih⟩
  | [], _ :: _, h => h.elim
  | _ :: _, [], h => h.elim
theorem rep_snoc {w : V} {e : D} (p : Rep K r F w e) : ∀ {gs : List (Key × V)} {kvs : List (Key × D)}, RepK K r F gs kvs → RepK K r F (gs ++ [(k, w)]) (kvs ++ [(k, e)])
  | [], [], _ => ⟨rfl, p, trivial⟩
  | (x, v) :: gs, (y, d) :: fs, h => ⟨h.1, h.2.1, rep_snoc p h.2.2⟩
  | [], _ :: _, h => h.elim
  | _ :: _, [], h => h.elim
theorem rep_put {w : V} {e : D} (p : Rep K r F w e) {gs : List (Key × V)} {kvs : List (Key × D)} (h : RepK K r F gs kvs) : RepK K r F (putK gs k w) (putD kvs k e) := by
  unfold putK putD
  rw [rep_any h]
  split
  · exact rep_upd p h
  · exact rep_snoc p h
/-- {} -/
def eDNew : ME := fun δ m => ret (.cell m.length) (m ++ [.dK []])
theorem so_dnew : So K W (RE K) tDNewK eDNew := fun δ m res m' e r F H σ hr er => by
  cases e
  refine fun Q q p hp => ?_
  have h1 := hr.side (o := .dK []) hp
  have fp : F p = none := hr.sub.free hp
  have np : ∀ (k : Nat), live m k → r[k]? ≠ some p := fun k l e => hr.ne_new hp l e rfl
  have h2 : HR K (r ++ [p]) F (upd H p (.dK [])) (m ++ [.dK []]) := h1.toCell fp np ⟨[], upd_same, trivial⟩
  exact q _ _ _ _ h2 ((Ext.side hr hp).toCell hr.len hp) (.cell (by rw [← hr.len]; simp))
/-- d[y] -/
abbrev rDGet : R2 := fun x y H Q => ∃ a v, x = .ref a ∧ DGet H a y (some v) ∧ Q v H
def pDGet : D → D → Store → MX D := fun x y m => (cellR m x).bind fun p => (keyD y).bind fun k => (valD p.2 k).bind fun d => ret d m
theorem s2_pDGet : S2 K W rDGet pDGet := fun x y m res m' e r F H σ vx vy hr px py => by
  unfold pDGet at e
  cases h0 : cellR m x with
  | none => rw [h0] at e; cases e
  | some p =>
    obtain ⟨j, kvs⟩ := p
    rw [h0] at e
    simp only [Option.bind_some] at e
    cases h1 : keyD y with
    | none => rw [h1] at e; cases e
    | some k =>
      rw [h1] at e
      simp only [Option.bind_some] at e
      cases h2 : valD kvs k with
      | none => rw [h2] at e; cases e
      | some d =>
        rw [h2] at e; cases e
        obtain ⟨a, gs, rfl, ea, h3, h4⟩ := cellR_get h0 hr px
        cases keyD_get h1 py
        rcases rep_val (k := k) h4 with ⟨v, d', e1, e2, pv⟩ | ⟨_, e2⟩
        · rw [h2] at e2; cases e2
          exact fun Q q => ⟨a, v, rfl, by rw [← e1]; exact (Or.inl ⟨gs, k, h3, rfl, rfl⟩ : DGet H a (kV k) (valV gs k)), q _ r F H hr (Ext.refl hr) pv⟩
        · rw [h2] at e2; cases e2
/-- y in d, y not in d -/
abbrev rDIn (neg : Bool) : R2 := fun y x H Q => ∃ a o, x = .ref a ∧ DGet H a y o ∧ Q (.bl (if neg then !o.isSome else o.isSome)) H
def pDIn (neg : Bool) : D → D → Store → MX D := fun y x m => (cellR m x).bind fun p => (keyD y).bind fun k => ret (.bl (if neg then !(valD p.2 k).isSome else (valD p.2 k).isSome)) m
theorem s2_pDIn {neg : Bool} : S2 K W (rDIn neg) (pDIn neg) := fun y x m res m' e r F H σ vy vx hr py px => by
  unfold pDIn at e
  cases h0 : cellR m x with
  | none => rw [h0] at e; cases e
  | some p =>
    obtain ⟨j, kvs⟩ := p
    rw [h0] at e
    simp only [Option.bind_some] at e
    cases h1 : keyD y with
    | none => rw [h1] at e; cases e
    | some k =>
      rw [h1] at e; cases e
      obtain ⟨a, gs, rfl, ea, h3, h4⟩ := cellR_get h0 hr px
      cases keyD_get h1 py
      have hs : (valD kvs k).isSome = (valV gs k).isSome := by
        rcases rep_val (k := k) h4 with ⟨v, d', e1, e2, _⟩ | ⟨e1, e2⟩ <;> rw [e1, e2] <;> rfl
      exact fun Q q => ⟨a, _, rfl, (Or.inl ⟨gs, k, h3, rfl, rfl⟩ : DGet H a (kV k) (valV gs k)), by rw [← hs]; exact q _ r F H hr (Ext.refl hr) (.bl _)⟩
/-- d[y] = v -/
def sDPutI (e o i : ME) : MS := fun δ m => (e δ m).run δ fun v m => (o δ m).run δ fun x m => (i δ m).run δ fun y m => (cellK m x).bind fun p => (keyD y).bind fun k => if p.2.length < 100000 then some (.nx δ (m.set p.1 (.dK (putD p.2 k v)))) else none
theorem ss_dput {te to ti : WX → TE} {e o i : ME} (he : ∀ W, So K W (RE K) (te W) e) (ho : ∀ W, So K W (RE K) (to W) o) (hi : ∀ W, So K W (RE K) (ti W) i) : SS K (fun W => sDPut (to W) (ti W) (te W)) (sDPutI e o i) := fun W δ m out q r F H σ D hr er h => by
  show te W σ H fun v H1 => to W σ H1 fun o H2 => ti W σ H2 fun i H3 => ∃ a H4, o = .ref a ∧ DPut H3 a i v H4 ∧ D.nx σ H4
  rcases run_some q with ⟨d, m1, e1, q⟩ | ⟨y, m1, e1, rfl⟩
  · refine he W δ m _ _ e1 r F H σ hr er _ fun v r1 F1 H1 hr1 x1 rv => ?_
    have er1 := er.ext x1
    rcases run_some q with ⟨x, m2, e2, q⟩ | ⟨y, m2, e2, rfl⟩
    · refine ho W δ m1 _ _ e2 r1 F1 H1 σ hr1 er1 _ fun ov r2 F2 H2 hr2 x2 rx => ?_
      have er2 := er1.ext x2
      have x02 := x1.trans hr1.len hr.len x2
      rcases run_some q with ⟨y, m3, e3, q⟩ | ⟨y, m3, e3, rfl⟩
      · refine hi W δ m2 _ _ e3 r2 F2 H2 σ hr2 er2 _ fun iv r3 F3 H3 hr3 x3 ry => ?_
        have er3 := er2.ext x3
        have x03 := x02.trans hr2.len hr.len x3
        cases h0 : cellK m3 x with
        | none => rw [h0] at q; cases q
        | some p =>
          obtain ⟨kk, kvs⟩ := p
          rw [h0] at q
          simp only [Option.bind_some] at q
          cases h1 : keyD y with
          | none => rw [h1] at q; cases q
          | some k =>
            rw [h1] at q
            simp only [Option.bind_some] at q
            split at q
            · rename_i hlen
              cases q
              obtain ⟨a, gs, rfl, ea, hk, h3, h4⟩ := cellK_get h0 hr3 (rx.mono x3.pre x3.sub)
              cases keyD_get h1 ry
              have lv : live m3 kk := ⟨_, hk, rfl⟩
              have pv := (rv.mono x2.pre x2.sub).mono x3.pre x3.sub
              have z1 : HR K r3 F3 (upd H3 a (.dK (putK gs k v))) (m3.set kk (.dK (putD kvs k d))) := hr3.put lv ea (fun b z => by rw [h3] at z; cases z) ⟨_, upd_same, rep_put pv h4⟩
              exact ⟨a, _, rfl, DPut.k h3 (Evl.sz_lt (by rw [rep_len h4]; exact hlen)), h σ r3 F3 _ z1 er3 (x03.trans hr3.len hr.len (Ext.put hr3 lv ea))⟩
            · cases q
      · exact hi W δ m2 _ _ e3 r2 F2 H2 σ hr2 er2 (fun r' F' H' hr' x' => h σ r' F' H' hr' (er2.ext x') (x02.trans hr2.len hr.len x')) _
    · exact ho W δ m1 _ _ e2 r1 F1 H1 σ hr1 er1 (fun r' F' H' hr' x' => h σ r' F' H' hr' (er1.ext x') (x1.trans hr1.len hr.len x')) _
  · exact he W δ m _ _ e1 r F H σ hr er (fun r' F' H' hr' x' => h σ r' F' H' hr' (er.ext x') x') _
end
end DL
/-! {k: v}; a def that keeps its cells -/
namespace DL
open PySem PySem.Spec PyProof.Rows L2
section
variable {K : PySem.W.Frag} {W : WX}
def eDisp1 (k v : ME) : ME := fun δ m => (k δ m).sure fun x m => (v δ m).sure fun y m => (keyD x).bind fun kk => ret (.cell m.length) (m ++ [.dK [(kk, y)]])
theorem so_disp1 {tk tv : TE} {ek ev : ME} (hk : So K W (RE K) tk ek) (hv : So K W (RE K) tv ev) : So K W (RE K) (tDisp [(tk, tv)]) (eDisp1 ek ev) := fun δ m res m' e r F H σ hr er => by
  obtain ⟨x, m1, e1, e⟩ := sure_some e
  obtain ⟨y, m2, e2, e⟩ := sure_some e
  cases h1 : keyD x with
  | none => rw [h1] at e; cases e
  | some k =>
    rw [h1] at e
    cases e
    intro Q q p hp
    show tk σ (upd H p (.dK [])) fun x H1 => tv σ H1 fun y H2 => H2 p = some (.dK []) ∧ ∃ kvs : List (Key × V), [(x, y)] = kvs.map (fun kv => (kV kv.1, kv.2)) ∧ kvs.length ≤ 15 ∧ Q (.ref p) (upd H2 p (.dK (mergeK [] kvs)))
    have hs : HR K r F (upd H p (.dK [])) m := hr.side hp
    have x0 : Ext r F H m r F (upd H p (.dK [])) m := Ext.side hr hp
    refine hk δ m _ _ e1 r F _ σ hs er _ fun v r1 F1 H1 hr1 x1 rx => ?_
    refine hv δ m1 _ _ e2 r1 F1 H1 σ hr1 (er.ext x1) _ fun w r2 F2 H2 hr2 x2 ry => ?_
    have x12 := x1.trans hr1.len hr.len x2
    obtain ⟨g1, g2, g3⟩ := x12.side_keep hr.len upd_same (hr.sub.free hp) (fun k l e => hr.ne_new hp l e rfl)
    cases keyD_get h1 rx
    refine ⟨g1, [(k, w)], rfl, by show 1 ≤ 15; decide, ?_⟩
    have hh : HR K r2 F2 (upd H2 p (.dK [(k, w)])) m2 := hr2.sideSet g2 g3 (fun b z => by rw [g1] at z; cases z)
    have x02 := x0.trans hs.len hr.len x12
    exact q _ _ _ _ (hh.toCell g2 g3 ⟨[(k, w)], upd_same, rfl, ry, trivial⟩) ((x02.sideSet hp).toCell hr2.len hp) (.cell (by rw [← hr2.len]; simp))
end
theorem hu1 {k : Nat} {A : Around} (r : Room k A) : A.units + 1 < cLine := by have := r.units; omega
noncomputable def endA : Option OT → MX FT
  | some (.rt d m') => ret (.pl d) m'
  | some (.nx _ m') => ret (.pl .non) m'
  | some (.ex x _ m') => some (.ex x, m')
  | _ => none
/-- a def whose cells all go on to the caller -/
noncomputable def fnA (n N : Nat) (b : MS) : FnS := fun ds m => if ds.length = n then endA (b (st N ds) m) else none
theorem fn_okA {CX : CXT} {P : Program} {w : World} {K : PySem.W.Frag} {mg : Str → Option Value} {base : Heap} {x qual : Str} {params : Arguments} {body : List Stmt} {scope : Scope} {f : Addr} {fd : FuncData} {N ps : List Str} {k n kk : Nat} {b : MS} {ff : FnS}
    (F : FunD K x qual params body scope [] [] f fd) (sc : FnScope N ps scope) (t : WX → TS)
    (hP : ∀ (cdv : Value) (A : Around) (outer : List Env) (s : Shared) (H : Hp) (E : XK), Room k (A.deeper (envOfC qual scope s.heap.objs.size f cdv)) → PSs (cxOf CX P w K mg base N qual scope f cdv A outer s H E) body (t fun cls d _ H' => E cls d H'))
    (hS : SS K t b) (hf : ff = fnA n kk b) (hn : ps.length = n) (hk : N.length = kk) : FnOk P w K mg base CX (k + 1) f fd ps (spF K ff) := by
  subst hf hn hk
  refine F.ok sc (fun vs H Q E h => ?_) (fun cdv A outer s H vs Q E hr h => ?_)
  · obtain ⟨r, F, m, ds, res, m', _, p, hs, _⟩ := h
    rw [p.len]
    unfold fnA at hs
    split at hs
    · rename_i hl; exact hl
    · cases hs
  · obtain ⟨r, F, m, ds, res, m', hr0, p, hs, q⟩ := h
    unfold fnA at hs
    split at hs
    · refine ⟨_, hP cdv A outer s H E hr, ?_⟩
      cases ho : b (st N.length ds) m with
      | none => rw [ho] at hs; cases hs
      | some o =>
        rw [ho] at hs
        refine hS (fun cls d _ H' => E cls d H') _ _ _ ho r F H _ _ hr0 (er_start p) ?_
        cases o with
        | rt d m1 =>
            cases hs
            intro v r' F' H' h1 x1 p1
            exact q v r' F' H' h1 x1 ⟨[], ⟨p1, rfl⟩, .nil, fun a ha => nomatch ha⟩
        | nx δ m1 =>
            cases hs
            intro σ' r' F' H' h1 _ x1
            exact q .non r' F' H' h1 x1 ⟨[], ⟨.non, rfl⟩, .nil, fun a ha => nomatch ha⟩
        | ex y δ m1 =>
            cases hs
            intro σ' r' F' H' h1 _ x1
            exact q r' F' H' h1 x1
        | bk δ m1 => cases hs
        | ct δ m1 => cases hs
    · cases hs
theorem wp_fnA {n N : Nat} {b : MS} {ds : List D} {m : Store} {Q : RX FT → Store → Prop} (h : ds.length = n) (k : ws (b (st N ds) m) (fun o => wp (endA (some o)) Q)) : wp (fnA n N b ds m) Q := by
  unfold fnA
  rw [if_pos h]
  revert k
  cases b (st N ds) m with
  | none => exact fun k => k
  | some o => exact fun k => k
theorem endA_rt {m' : Store} {d : D} : endA (some (.rt d m')) = ret (.pl d) m' := rfl
theorem endA_nx {m' : Store} {δ : En} : endA (some (.nx δ m')) = ret (.pl .non) m' := rfl
end DL
/-! == of tuples and lists that hold cells -/
namespace DL
open PySem PySem.Spec PyProof.Rows L2
mutual
def dvw (m : Store) : D → Option D
  | .cell k => match m[k]? with
    | some (.lst xs) => some (.lst xs)
    | _ => none
  | .tup ds => (dvws m ds).map D.tup
  | .lst ds => (dvws m ds).map D.lst
  | d => some d
def dvws (m : Store) : List D → Option (List D)
  | [] => some []
  | d :: ds => (dvw m d).bind fun d' => (dvws m ds).map fun ds' => d' :: ds'
end
section
variable {K : PySem.W.Frag} {W : WX} {r : List Addr} {F H : Hp} {m : Store}
mutual
theorem dvw_dp (hr : HR K r F H m) : ∀ {v : V} {d d' : D} {n : Nat}, Rep K r F v d → dvw m d = some d' → Sh n d' → Dp K H v d'.toPy
  | _, _, _, n, .non, e, _ => by simp only [dvw, Option.some.injEq] at e; subst e; exact .non
  | _, _, _, n, .bl b, e, _ => by simp only [dvw, Option.some.injEq] at e; subst e; exact .bl b
  | _, _, _, n, .int i, e, _ => by simp only [dvw, Option.some.injEq] at e; subst e; exact .int i
  | _, _, _, n, .str x, e, _ => by simp only [dvw, Option.some.injEq] at e; subst e; exact .str x
  | _, _, _, n, .lst h t, e, s => by
    rw [dvw] at e
    cases q : dvws m _ with
    | none => rw [q] at e; cases e
    | some ds =>
      rw [q] at e; cases e
      refine .lst (SqL.of (hr.sub _ _ h)) (dvws_dp hr t q ?_ (n := n - 1))
      cases n with
      | zero => exact absurd s (by simp [Sh])
      | succ n => exact s
  | _, _, _, n, .tup h t, e, s => by
    rw [dvw] at e
    cases q : dvws m _ with
    | none => rw [q] at e; cases e
    | some ds =>
      rw [q] at e; cases e
      refine .tup (SqT.of (hr.sub _ _ h)) (dvws_dp hr t q ?_ (n := n - 1))
      cases n with
      | zero => exact absurd s (by simp [Sh])
      | succ n => exact s
  | _, _, _, n, .cell ea, e, s => by
    rw [dvw] at e
    split at e
    · rename_i xs hk
      cases e
      obtain ⟨_, vs, h1, h2⟩ := hr.cell _ _ _ ea hk rfl
      exact .lst (SqL.of h1) (h2.dp hr.sub s.pure)
    · cases e
  | _, _, _, n, .scr h, e, _ => by simp only [dvw, Option.some.injEq] at e; subst e; exact Rep.dp (r := r) hr.sub rfl (.scr h)
  | _, _, _, n, .exc h, e, s => by
    simp only [dvw, Option.some.injEq] at e
    subst e
    exact absurd s.pure (by simp [D.pure])
theorem dvws_dp (hr : HR K r F H m) : ∀ {vs : List V} {ds ds' : List D} {n : Nat}, RepAll K r F vs ds → dvws m ds = some ds' → (∀ x ∈ ds', Sh n x) → DpAll K H vs (D.toPys ds')
  | _, _, _, n, .nil, e, _ => by rw [dvws] at e; cases e; exact .nil
  | _, _, _, n, .cons p ps, e, s => by
    rw [dvws] at e
    cases q : dvw m _ with
    | none => rw [q] at e; cases e
    | some d' =>
      rw [q] at e
      simp only [Option.bind_some] at e
      cases q2 : dvws m _ with
      | none => rw [q2] at e; cases e
      | some ds' =>
        rw [q2] at e
        cases e
        exact .cons (dvw_dp hr p q (s _ List.mem_cons_self)) (dvws_dp hr ps q2 fun x hx => s x (List.mem_cons_of_mem _ hx))
end
open Classical in
noncomputable def pEqT : D → D → Store → MX D := fun x y m => (dvw m x).bind fun x => (dvw m y).bind fun y => if Sh 60 x ∧ Sh 60 y then ret (.bl (eqb x y)) m else none
theorem s2_pEqT : S2 K W (rEqD K) pEqT := fun x y m res m' e r F H σ vx vy hr px py => by
  unfold pEqT at e
  cases h1 : dvw m x with
  | none => rw [h1] at e; cases e
  | some x' =>
    rw [h1] at e
    cases h2 : dvw m y with
    | none => rw [h2] at e; cases e
    | some y' =>
      rw [h2] at e
      simp only [Option.bind_some] at e
      split at e
      · rename_i hs
        cases e
        exact fun Q q => ⟨_, _, dvw_dp hr px h1 hs.1, dvw_dp hr py h2 hs.2, hs.1.shaped (by omega), hs.2.shaped (by omega), q _ r F H hr (Ext.refl hr) (.bl _)⟩
      · cases e
open Classical in
noncomputable def pNeT : D → D → Store → MX D := fun x y m => (dvw m x).bind fun x => (dvw m y).bind fun y => if Sh 60 x ∧ Sh 60 y then ret (.bl (!eqb x y)) m else none
theorem s2_pNeT : S2 K W (rNeD K) pNeT := fun x y m res m' e r F H σ vx vy hr px py => by
  unfold pNeT at e
  cases h1 : dvw m x with
  | none => rw [h1] at e; cases e
  | some x' =>
    rw [h1] at e
    cases h2 : dvw m y with
    | none => rw [h2] at e; cases e
    | some y' =>
      rw [h2] at e
      simp only [Option.bind_some] at e
      split at e
      · rename_i hs
        cases e
        exact fun Q q => ⟨_, _, dvw_dp hr px h1 hs.1, dvw_dp hr py h2 hs.2, hs.1.shaped (by omega), hs.2.shaped (by omega), q _ r F H hr (Ext.refl hr) (.bl _)⟩
      · cases e
mutual
theorem dvw_sh {m : Store} : ∀ {n : Nat} (d : D), Sh n d → dvw m d = some d
  | n, .non, _ => by simp only [dvw]
  | n, .bl _, _ => by simp only [dvw]
  | n, .int _, _ => by simp only [dvw]
  | n, .str _, _ => by simp only [dvw]
  | n, .lst ds, s => by
    rw [dvw, dvws_sh (n := n - 1) ds (by
      cases n with
      | zero => exact absurd s (by simp [Sh])
      | succ n => exact s)]; rfl
  | n, .tup ds, s => by
    rw [dvw, dvws_sh (n := n - 1) ds (by
      cases n with
      | zero => exact absurd s (by simp [Sh])
      | succ n => exact s)]; rfl
  | n, .cell k, s => absurd s.pure (by simp [D.pure])
  | n, .scr _, _ => by simp only [dvw]
  | n, .exc _, _ => by simp only [dvw]
theorem dvws_sh {m : Store} : ∀ {n : Nat} (ds : List D), (∀ x ∈ ds, Sh n x) → dvws m ds = some ds
  | n, [], _ => by rw [dvws]
  | n, d :: ds, s => by
    rw [dvws, dvw_sh d (s _ List.mem_cons_self), dvws_sh ds fun x hx => s x (List.mem_cons_of_mem _ hx)]; rfl
end
end
end DL
/-! three comparisons in a row; a def that calls itself -/
namespace DL
open PySem PySem.Spec PyProof.Rows L2
def tChain3 (r r' r'' : R2) (ta tb tc td : TE) : TE := fun σ H Q => ta σ H fun x H1 => tb σ H1 fun y H2 => r x y H2 fun z H3 => ∃ k, z = .bl k ∧
  (if k = true then tc σ H3 (fun w H4 => r' y w H4 fun z2 H5 => ∃ k2, z2 = .bl k2 ∧ if k2 = true then td σ H5 (fun u H6 => r'' w u H6 Q) else Q (.bl false) H5) else Q (.bl false) H3)
theorem pt_chain3 {X : Cx} {a b c d : Expr} {ta tb tc td : TE} {pos : Pos} {op op' op'' : CmpOp} {r r' r'' : R2} (ho : OpR X (compareOp op) r) (ho' : OpR X (compareOp op') r') (ho'' : OpR X (compareOp op'') r'') (ha : PE X a ta) (hb : PE X b tb) (hc : PE X c tc) (hd : PE X d td)
    (hm : lastMarks [op, op', op''] [b, c, d] = false := by with_unfolding_all rfl) : PT X (.Compare a [op, op', op''] [b, c, d] pos) (tTest (tChain3 r r' r'' ta tb tc td)) := by
  refine ⟨fun pins s σ H Q I h => ?_⟩
  refine isTrue_chain (thn (ha.run pins s σ H _ I h) fun v s1 ⟨x, H1, I1, r1, q1⟩ => test_link (thn (hb.run pins s1 σ H1 _ I1 q1) fun u s2 ⟨y, H2, I2, r2, q2⟩ =>
    thn (ho pins s2 σ H2 x y v u _ I2 r1 r2 q2) fun d' s3 ⟨z, H3, I3, r3, k, e, q3⟩ => ?_)) hm
  subst e
  cases r3
  refine wpAny_truthy_bool ?_
  cases k with
  | false =>
    obtain ⟨k', e', q'⟩ := q3
    cases e'
    exact ite_ff ⟨H3, I3, q'⟩
  | true =>
    refine ite_tt (test_link (thn (hc.run pins s3 σ H3 _ I3 q3) fun w' s4 ⟨z', H4, I4, r4, q4⟩ => thn (ho' pins s4 σ H4 y z' u w' _ I4 r2 r4 q4) fun d' s5 ⟨z2, H5, I5, r5, k2, e2, q5⟩ => ?_))
    subst e2
    cases r5
    refine wpAny_truthy_bool ?_
    cases k2 with
    | false =>
      obtain ⟨k', e', q'⟩ := q5
      cases e'
      exact ite_ff ⟨H5, I5, q'⟩
    | true =>
      refine ite_tt (test_last (thn (hd.run pins s5 σ H5 _ I5 q5) fun w2 s6 ⟨z3, H6, I6, r6, q6⟩ => thn (ho'' pins s6 σ H6 z' z3 w' w2 _ I6 r4 r6 q6) fun d' s7 ⟨z4, H7, I7, r7, k3, e3, q7⟩ => ?_))
      subst e3
      cases r7
      exact wpAny_truthy_bool ⟨H7, I7, q7⟩
def eChain3 (o1 o2 o3 : D → D → Store → MX D) (a b c d : ME) : ME := fun δ m => (a δ m).bind fun x m => (b δ m).bind fun y m => (o1 x y m).bind fun z m => match z with
  | .bl k => cond k ((c δ m).bind fun w m => (o2 y w m).bind fun z2 m => match z2 with
    | .bl k2 => cond k2 ((d δ m).bind fun u m => o3 w u m) (ret (.bl false) m)
    | _ => none) (ret (.bl false) m)
  | _ => none
section
variable {K : PySem.W.Frag} {W : WX} {ta tb tc td : TE} {a b c d : ME}
theorem so_chain3 {q1 q2 q3 : R2} {o1 o2 o3 : D → D → Store → MX D} (h1 : S2 K W q1 o1) (h2 : S2 K W q2 o2) (h3 : S2 K W q3 o3) (ha : So K W (RE K) ta a) (hb : So K W (RE K) tb b) (hc : So K W (RE K) tc c) (hd : So K W (RE K) td d) : So K W (RE K) (tChain3 q1 q2 q3 ta tb tc td) (eChain3 o1 o2 o3 a b c d) := fun δ m res m' e r F H σ hr er => by
  show JAt K W (RE K) r F H σ m (fun H Q => ta σ H fun x H1 => tb σ H1 fun y H2 => q1 x y H2 fun z H3 => ∃ k, z = .bl k ∧ if k = true then tc σ H3 (fun w H4 => q2 y w H4 fun z2 H5 => ∃ k2, z2 = .bl k2 ∧ if k2 = true then td σ H5 (fun u H6 => q3 w u H6 Q) else Q (.bl false) H5) else Q (.bl false) H3) res m'
  rcases bind_some e with ⟨x, m1, e1, e2⟩ | ⟨y, e1, rfl⟩
  · refine (ha δ m _ _ e1 r F H σ hr er).bind re_mon hr fun v r1 F1 H1 hr1 x1 rv => ?_
    rcases bind_some e2 with ⟨y, m2, e3, e4⟩ | ⟨y, e3, rfl⟩
    · refine (hb δ m1 _ _ e3 r1 F1 H1 σ hr1 (er.ext x1)).bind re_mon hr1 fun w r2 F2 H2 hr2 x2 rw => ?_
      rcases bind_some e4 with ⟨z, m3, e5, e6⟩ | ⟨z, e5, rfl⟩
      · refine (h1 x y m2 _ m3 e5 r2 F2 H2 σ v w hr2 (rv.mono x2.pre x2.sub) rw).bind re_mon hr2 fun z' r3 F3 H3 hr3 x3 rz => ?_
        cases z with
        | bl k =>
          cases rz
          cases k with
          | false => cases e6; exact fun Q q => ⟨false, rfl, q _ r3 F3 H3 hr3 (Ext.refl hr3) (.bl false)⟩
          | true =>
            have er3 := ((er.ext x1).ext x2).ext x3
            have key : JAt K W (RE K) r3 F3 H3 σ m3 (fun H Q => tc σ H fun w' H4 => q2 w w' H4 fun z2 H5 => ∃ k2, z2 = .bl k2 ∧ if k2 = true then td σ H5 (fun u H6 => q3 w' u H6 Q) else Q (.bl false) H5) res m' := by
              rcases bind_some e6 with ⟨u, m4, e7, e8⟩ | ⟨u, e7, rfl⟩
              · refine (hc δ m3 _ _ e7 r3 F3 H3 σ hr3 er3).bind re_mon hr3 fun w' r4 F4 H4 hr4 x4 rw' => ?_
                rcases bind_some e8 with ⟨z2, m5, e9, e10⟩ | ⟨z2, e9, rfl⟩
                · refine (h2 y u m4 _ m5 e9 r4 F4 H4 σ w w' hr4 (rw.mono (x3.pre.trans x4.pre) (x3.sub.trans x4.sub)) rw').bind re_mon hr4 fun z2' r5 F5 H5 hr5 x5 rz2 => ?_
                  cases z2 with
                  | bl k2 =>
                    cases rz2
                    cases k2 with
                    | false => cases e10; exact fun Q q => ⟨false, rfl, q _ r5 F5 H5 hr5 (Ext.refl hr5) (.bl false)⟩
                    | true =>
                      have er5 := (er3.ext x4).ext x5
                      have key2 : JAt K W (RE K) r5 F5 H5 σ m5 (fun H Q => td σ H fun w2 H6 => q3 w' w2 H6 Q) res m' := by
                        rcases bind_some e10 with ⟨u2, m6, e11, e12⟩ | ⟨u2, e11, rfl⟩
                        · exact (hd δ m5 _ _ e11 r5 F5 H5 σ hr5 er5).bind re_mon hr5 fun w2 r6 F6 H6 hr6 x6 rw2 => h3 u u2 m6 res m' e12 r6 F6 H6 σ w' w2 hr6 (rw'.mono (x5.pre.trans x6.pre) (x5.sub.trans x6.sub)) rw2
                        · exact (hd δ m5 _ _ e11 r5 F5 H5 σ hr5 er5).thrown
                      cases res with
                      | ok z => exact fun Q q => ⟨true, rfl, key2 Q q⟩
                      | ex z => exact fun q Q => ⟨true, rfl, key2 q Q⟩
                  | _ => cases e10
                · exact (h2 y u m4 _ _ e9 r4 F4 H4 σ w w' hr4 (rw.mono (x3.pre.trans x4.pre) (x3.sub.trans x4.sub)) rw').thrown
              · exact (hc δ m3 _ _ e7 r3 F3 H3 σ hr3 er3).thrown
            cases res with
            | ok z => exact fun Q q => ⟨true, rfl, key Q q⟩
            | ex z => exact fun q Q => ⟨true, rfl, key q Q⟩
        | _ => cases e6
      · exact (h1 x y m2 _ _ e5 r2 F2 H2 σ v w hr2 (rv.mono x2.pre x2.sub) rw).thrown
    · exact (hb δ m1 _ _ e3 r1 F1 H1 σ hr1 (er.ext x1)).thrown
  · exact (ha δ m _ _ e1 r F H σ hr er).thrown
end
/-- of a def whose evaluator says nothing nothing is asked -/
def f_none : FnS := fun _ _ => none
theorem fn_none {CX : CXT} {P : Program} {w : World} {K : PySem.W.Frag} {mg : Str → Option Value} {base : Heap} {f : Addr} {fd : FuncData} {ps : List Str} {k : Nat} : FnOk P w K mg base CX k f fd ps (spF K f_none) := by
  refine ⟨fun vs H Q E h => ?_, fun A outer s H args us vs Q E hr hv hI hs h => ?_⟩
  · obtain ⟨r, F, m, ds, res, m', _, p, hs, _⟩ := h
    cases hs
  · obtain ⟨r, F, m, ds, res, m', _, p, hs, _⟩ := h
    cases hs
end DL
/-! instances of a class in cells: a field read and put, a method called, one made anew; x[i] += e -/
namespace DL
open PySem PySem.Spec PyProof.Rows L2
def putFD (f : Str) (v : D) : List (Str × D) → List (Str × D)
  | [] => [(f, v)]
  | (g, x) :: r => if g = f then (g, v) :: r else (g, x) :: putFD f v r
def lkF (f : Str) : List (Str × D) → Option D
  | [] => none
  | (g, x) :: r => if g = f then some x else lkF f r
section
variable {K : PySem.W.Frag} {W : WX} {r : List Addr} {F H : Hp} {m : Store}
theorem look_cons {α : Type} {f g : Str} {x : α} {l : List (Str × α)} : List.lookup f ((g, x) :: l) = if g = f then some x else List.lookup f l := by
  rw [List.lookup_cons]
  by_cases h : g = f
  · subst h; rw [if_pos rfl]; simp
  · rw [if_neg h]
    have : (f == g) = false := by simpa using fun e => h e.symm
    rw [this]
theorem repF_some {f : Str} {d : D} : ∀ {gs : List (Str × V)} {fs : List (Str × D)}, RepF K r F gs fs → lkF f fs = some d → ∃ v, gs.lookup f = some v ∧ Rep K r F v d
  | [], [], _, h => nomatch h
  | [], _ :: _, h, _ => h.elim
  | _ :: _, [], h, _ => h.elim
  | (x, v) :: gs, (y, e) :: fs, h, hl => by
    obtain ⟨rfl, h2, h3⟩ := h
    unfold lkF at hl
    rw [look_cons]
    by_cases hx : x = f
    · rw [if_pos hx] at hl ⊢; cases hl; exact ⟨v, rfl, h2⟩
    · rw [if_neg hx] at hl ⊢; exact repF_some h3 hl
theorem repF_none {f : Str} : ∀ {gs : List (Str × V)} {fs : List (Str × D)}, RepF K r F gs fs → lkF f fs = none → gs.lookup f = none
  | [], [], _, _ => rfl
  | [], _ :: _, h, _ => h.elim
  | _ :: _, [], h, _ => h.elim
  | (x, v) :: gs, (y, e) :: fs, h, hl => by
    obtain ⟨rfl, h2, h3⟩ := h
    unfold lkF at hl
    rw [look_cons]
    by_cases hx : x = f
    · rw [if_pos hx] at hl; cases hl
    · rw [if_neg hx] at hl ⊢; exact repF_none h3 hl
theorem repF_put {f : Str} {v : V} {d : D} (p : Rep K r F v d) : ∀ {gs : List (Str × V)} {fs : List (Str × D)}, RepF K r F gs fs → RepF K r F (putF f v gs) (putFD f d fs)
  | [], [], _ => ⟨rfl, p, trivial⟩
  | [], _ :: _, h => h.elim
  | _ :: _, [], h => h.elim
  | (x, v') :: gs, (y, e) :: fs, h => by
    obtain ⟨rfl, h2, h3⟩ := h
    unfold putF putFD
    by_cases hx : x = f
    · rw [if_pos hx, if_pos hx]; exact ⟨rfl, p, h3⟩
    · rw [if_neg hx, if_neg hx]; exact ⟨rfl, h2, repF_put p h3⟩
theorem repF_len : ∀ {gs : List (Str × V)} {fs : List (Str × D)}, RepF K r F gs fs → gs.length = fs.length
  | [], [], _ => rfl
  | [], _ :: _, h => h.elim
  | _ :: _, [], h => h.elim
  | (x, v') :: gs, (y, e) :: fs, h => congrArg Nat.succ (repF_len h.2.2)
/-- the instance in a cell -/
def cellI (m : Store) (x : Str) (d : D) : Option (Nat × List (Str × D)) := match d with
  | .cell k => match m[k]? with
    | some (.ins C fs) => if C = x then some (k, fs) else none
    | _ => none
  | _ => none
theorem cellI_get {x : Str} {d : D} {v : V} {j : Nat} {fs : List (Str × D)} (h : cellI m x d = some (j, fs)) (hr : HR K r F H m) (p : Rep K r F v d) : ∃ a dx gs, v = .ref a ∧ d = .cell j ∧ r[j]? = some a ∧ m[j]? = some (.ins x fs) ∧ H a = some (.ins (He.ga K x) dx gs) ∧ H dx = some (.own a) ∧ RepF K r F gs fs := by
  cases d with
  | cell k' =>
    unfold cellI at h
    dsimp only at h
    split at h
    · rename_i C ys e
      split at h
      · rename_i hC
        cases h
        subst hC
        cases p with
        | cell ea =>
          obtain ⟨_, dx, gs, h1, h2, h3⟩ := hr.cell _ _ _ ea e rfl
          exact ⟨_, dx, gs, rfl, rfl, ea, e, h1, h2, h3⟩
      · cases h
    · cases h
  | _ => cases h
/-- e.f -/
def eFld (x f : Str) (a : ME) : ME := fun δ m => (a δ m).bind fun v m => (cellI m x v).bind fun p => (lkF f p.2).bind fun d => ret d m
theorem so_fld {x f : Str} {ta : TE} {a : ME} (c : Cls K (He.ga K x)) (n : NoAttr K (He.ga K x) f) (ha : So K W (RE K) ta a) : So K W (RE K) (tFld K ta f) (eFld x f a) :=
  So.bind re_mon ha (k := fun v δ m => (cellI m x v).bind fun p => (lkF f p.2).bind fun d => ret d m) (u := fun v σ H1 Q => ∃ a C dx fs w, v = .ref a ∧ H1 a = some (.ins C dx fs) ∧ Cls K C ∧ NoAttr K C f ∧ fs.lookup f = some w ∧ Q w H1) fun d δ m res m' e v r F H σ H0 hr er rv => by
    cases h0 : cellI m x d with
    | none => rw [h0] at e; cases e
    | some p =>
      obtain ⟨j, fs⟩ := p
      rw [h0] at e
      simp only [Option.bind_some] at e
      cases h1 : lkF f fs with
      | none => rw [h1] at e; cases e
      | some w =>
        rw [h1] at e
        cases e
        obtain ⟨a, dx, gs, rfl, _, ea, hk, h2, h3, h4⟩ := cellI_get h0 hr rv
        obtain ⟨u, l, p⟩ := repF_some h4 h1
        exact fun Q q => ⟨a, _, dx, gs, u, rfl, h2, c, n, l, q _ r F H hr (Ext.refl hr) p⟩
/-- e.f = v -/
def sFldI (x f : Str) (e o : ME) : MS := fun δ m => (e δ m).run δ fun v m => (o δ m).run δ fun w m => (cellI m x w).bind fun p => if p.2.length < 1000 then some (.nx δ (m.set p.1 (.ins x (putFD f v p.2)))) else none
theorem ss_fld {x f : Str} {te to : WX → TE} {e o : ME} (c : Cls K (He.ga K x)) (n : NoAttr K (He.ga K x) f) (he : ∀ W, So K W (RE K) (te W) e) (ho : ∀ W, So K W (RE K) (to W) o) : SS K (fun W => sFld K (to W) (te W) f) (sFldI x f e o) := fun W δ m out q r F H σ D hr er h => by
  show te W σ H fun y H1 => to W σ H1 fun w H2 => ∃ a C dx fs, w = .ref a ∧ H2 a = some (.ins C dx fs) ∧ Cls K C ∧ NoAttr K C f ∧ fs.length < 1000 ∧ D.nx σ (upd H2 a (.ins C dx (putF f y fs)))
  rcases run_some q with ⟨d, m1, e1, q⟩ | ⟨y, m1, e1, rfl⟩
  · refine he W δ m _ _ e1 r F H σ hr er _ fun v r1 F1 H1 hr1 x1 rv => ?_
    have er1 := er.ext x1
    rcases run_some q with ⟨w, m2, e2, q⟩ | ⟨y, m2, e2, rfl⟩
    · refine ho W δ m1 _ _ e2 r1 F1 H1 σ hr1 er1 _ fun ov r2 F2 H2 hr2 x2 rx => ?_
      have er2 := er1.ext x2
      have x02 := x1.trans hr1.len hr.len x2
      cases h0 : cellI m2 x w with
      | none => rw [h0] at q; cases q
      | some p =>
        obtain ⟨j, fs⟩ := p
        rw [h0] at q
        simp only [Option.bind_some] at q
        split at q
        · rename_i hlen
          cases q
          obtain ⟨a, dx, gs, rfl, _, ea, hk, h2, h3, h4⟩ := cellI_get h0 hr2 rx
          have lv : live m2 j := ⟨_, hk, rfl⟩
          have na : dx ≠ a := fun z => by rw [z, h2] at h3; cases h3
          have z1 : HR K r2 F2 (upd H2 a (.ins (He.ga K x) dx (putF f v gs))) (m2.set j (.ins x (putFD f d fs))) := hr2.put lv ea (fun b z => by rw [h2] at z; cases z) ⟨dx, _, upd_same, by rw [upd_ne na]; exact h3, repF_put (rv.mono x2.pre x2.sub) h4⟩
          exact ⟨a, _, dx, gs, rfl, h2, c, n, by rw [repF_len h4]; exact hlen, h σ r2 F2 _ z1 er2 (x02.trans hr2.len hr.len (Ext.put hr2 lv ea))⟩
        · cases q
    · exact ho W δ m1 _ _ e2 r1 F1 H1 σ hr1 er1 (fun r' F' H' hr' x' => h σ r' F' H' hr' (er1.ext x') (x1.trans hr1.len hr.len x')) _
  · exact he W δ m _ _ e1 r F H σ hr er (fun r' F' H' hr' x' => h σ r' F' H' hr' (er.ext x') x') _
/-- o.m(..) -/
def fMeth (x mm : Str) (f : FnS) (o : ME) (as : MA) : MF := fun δ m => (o δ m).bind fun w m => (cellI m x w).bind fun p => match lkF mm p.2 with
  | some _ => none
  | none => (as δ m).bind fun ds m => (f (w :: ds) m).sure ret
theorem so_meth {x mm : Str} {f : FnS} {to : TE} {o : ME} {tas : TA} {as : MA} (ho : So K W (RE K) to o) (hs : So K W (RA K) tas as) : So K W (RF K) (tMeth (He.ga K x) mm (spF K f) [] E0 to tas) (fMeth x mm f o as) := fun δ m res m' e r F H σ hr er => by
  show JAt K W (RF K) r F H σ m (fun H Q => to σ H fun v H1 => ∃ a dx fs, v = .ref a ∧ H1 a = some (.ins (He.ga K x) dx fs) ∧ fs.lookup mm = none ∧ tas σ H1 fun vs H2 => spF K f (v :: (vs ++ [])) H2 Q E0) res m'
  rcases bind_some e with ⟨w, m1, e1, e2⟩ | ⟨y, e1, rfl⟩
  · refine (ho δ m _ _ e1 r F H σ hr er).bind rf_mon hr fun v r1 F1 H1 hr1 x1 rv => ?_
    cases h0 : cellI m1 x w with
    | none => rw [h0] at e2; cases e2
    | some p =>
      obtain ⟨j, fs⟩ := p
      rw [h0] at e2
      simp only [Option.bind_some] at e2
      cases h1 : lkF mm fs with
      | some _ => rw [h1] at e2; cases e2
      | none =>
        rw [h1] at e2
        obtain ⟨a, dx, gs, rfl, rfl, ea, hk, h2, h3, h4⟩ := cellI_get h0 hr1 rv
        have l := repF_none h4 h1
        have key : JAt K W (RF K) r1 F1 H1 σ m1 (fun H Q => tas σ H fun vs H2 => spF K f (.ref a :: (vs ++ [])) H2 Q E0) res m' := by
          rcases bind_some e2 with ⟨ds, m2, e3, e4⟩ | ⟨y, e3, rfl⟩
          · refine (hs δ m1 _ _ e3 r1 F1 H1 σ hr1 (er.ext x1)).bind rf_mon hr1 fun vs r2 F2 H2 hr2 x2 rs => ?_
            obtain ⟨ft, m3, e5, e6⟩ := sure_some e4
            cases e6
            intro Q q
            rw [List.append_nil]
            exact ⟨r2, F2, m2, _, .ok ft, m', hr2, .cons (rv.mono x2.pre x2.sub) rs, e5, fun v r' F' H' h1 h2 h3 => q v r' F' H' h1 h2 h3⟩
          · exact (hs δ m1 _ _ e3 r1 F1 H1 σ hr1 (er.ext x1)).thrown
        cases res with
        | ok z => exact fun Q q => ⟨a, dx, gs, rfl, h2, l, key Q q⟩
        | ex z => exact fun q Q => ⟨a, dx, gs, rfl, h2, l, key q Q⟩
  · exact (ho δ m _ _ e1 r F H σ hr er).thrown
/-- C(..) -/
def eMake (x : Str) (f : FnS) (as : MA) : ME := fun δ m => (as δ m).bind fun ds m => (f (.cell m.length :: ds) (m ++ [.ins x []])).sure fun ft m2 => match ft with
  | .pl .non => ret (.cell m.length) m2
  | _ => none
theorem so_make {x : Str} {f : FnS} {tas : TA} {as : MA} (hs : So K W (RA K) tas as) : So K W (RE K) (tMake (He.ga K x) (spF K f) [] E0 tas) (eMake x f as) := fun δ m res m' e r F H σ hr er => by
  show JAt K W (RE K) r F H σ m (fun H Q => tas σ H fun vs H1 => ∀ y dx, H1 y = none → H1 dx = none → dx ≠ y → spF K f (.ref y :: (vs ++ [])) (upd (upd H1 dx (.own y)) y (.ins (He.ga K x) dx [])) (fun v H2 => v = .non ∧ Q (.ref y) H2) E0) res m'
  rcases bind_some e with ⟨ds, m1, e1, e2⟩ | ⟨y, e1, rfl⟩
  · refine (hs δ m _ _ e1 r F H σ hr er).bind re_mon hr fun vs r1 F1 H1 hr1 x1 rs => ?_
    obtain ⟨ft, m2, e3, e4⟩ := sure_some e2
    split at e4
    · cases e4
      intro Q q y dx hy hd ne
      have hs1 : HR K r1 F1 (upd H1 dx (.own y)) m1 := hr1.side hd
      have y1 : Ext r1 F1 H1 m1 r1 F1 (upd H1 dx (.own y)) m1 := Ext.side hr1 hd
      have hy' : upd H1 dx (.own y) y = none := by rw [upd_ne (Ne.symm ne)]; exact hy
      have hs2 : HR K r1 F1 (upd (upd H1 dx (.own y)) y (.ins (He.ga K x) dx [])) m1 := hs1.side hy'
      have y2 := y1.trans hs1.len hr1.len (Ext.side (o := .ins (He.ga K x) dx []) hs1 hy')
      have fy : F1 y = none := hr1.sub.free hy
      have np : ∀ (k : Nat), live m1 k → r1[k]? ≠ some y := fun k l e => hr1.ne_new hy l e rfl
      have hs3 : HR K (r1 ++ [y]) F1 (upd (upd H1 dx (.own y)) y (.ins (He.ga K x) dx [])) (m1 ++ [.ins x []]) := hs2.toCell fy np ⟨dx, [], upd_same, by rw [upd_ne ne, upd_same], trivial⟩
      have y3 := y2.toCell (c := .ins x []) hs2.len hy
      rw [List.append_nil]
      refine ⟨r1 ++ [y], F1, _, _, .ok (.pl .non), m', hs3, .cons (.cell (by rw [← hr1.len]; simp)) (rs.mono (Pre.app _ _) (Same.refl _)), e3, fun v r' F' H' h1 h2 h3 => ?_⟩
      obtain ⟨as', ho, _⟩ := h3
      have ev : v = .non := by
        obtain ⟨p, _⟩ := ho
        cases p; rfl
      refine ⟨ev, q _ r' F' H' h1 (y3.trans hs3.len hr1.len h2) (.cell (h2.pre _ _ (by rw [← hr1.len]; simp)))⟩
    · cases e4
  · exact (hs δ m _ _ e1 r F H σ hr er).thrown
end
/-- x[i] op= e, i from 0 on -/
def rIxP (K : PySem.W.Frag) : V → V → Hp → VK → Prop := fun x y H Q => ∃ p xs i v, x = .ref p ∧ y = .int i ∧ 0 ≤ i ∧ SqL K H p xs ∧ atI xs i = some v ∧ Q v H
theorem pget_list {X : Cx} : PGet X (rIxP X.K) := by
  intro pins s σ H o i ov iv Q I ro ri h
  obtain ⟨p, xs, k, z, rfl, rfl, h0, hq, he, q⟩ := h
  cases ro
  obtain ⟨t, rfl⟩ := ri
  obtain ⟨its, r, pl, hz⟩ := I.list hq
  obtain ⟨j, h1, h2, h3, h4, h5⟩ := atI_get he
  obtain ⟨w, ew, rw'⟩ := r.get h2
  have hl := r.length
  have hn := line63
  have hj : k.toNat = j := by
    rw [seqIndex_of h0 h5] at h1
    exact Option.some.inj h1
  exact wpAny_getItem_list pl.isList h0 (by omega) (by rw [hj]; simpa using ew) ⟨z, H, I, rw', q⟩
def sAugI (f : Int → Int → Int) (o i e : ME) : MS := fun δ m => (o δ m).run δ fun x m => (i δ m).run δ fun y m => match y with
  | .int k => (cellL m x).bind fun p => if 0 ≤ k then match L2.atI p.2 k with
    | some (.int a) => (e δ m).run δ fun z m2 => match z with
      | .int b => (cellL m2 x).bind fun p2 => (ixN p2.2.length k).bind fun j => some (.nx δ (m2.set p2.1 (.lst (p2.2.set j (.int (f a b))))))
      | _ => none
    | _ => none else none
  | _ => none
theorem ss_augI {K : PySem.W.Frag} {to ti te : WX → TE} {o i e : ME} {f : Int → Int → Int} (ho : ∀ W, So K W (RE K) (to W) o) (hi : ∀ W, So K W (RE K) (ti W) i) (he : ∀ W, So K W (RE K) (te W) e) : SS K (fun W => tAugS (to W) (ti W) (te W) (rIxP K) (ipI f) rSetL) (sAugI f o i e) := fun W δ m out q r F H σ D hr er h => by
  show to W σ H fun o H1 => ti W σ H1 fun i H2 => rIxP K o i H2 fun x H3 => te W σ H3 fun y H4 => ipI f x y H4 fun z H5 => rSetL o i z H5 fun H6 => D.nx σ H6
  rcases run_some q with ⟨x, m1, e1, q⟩ | ⟨y, m1, e1, rfl⟩
  · refine ho W δ m _ _ e1 r F H σ hr er _ fun ov r1 F1 H1 hr1 x1 rx => ?_
    have er1 := er.ext x1
    rcases run_some q with ⟨y, m2, e2, q⟩ | ⟨y, m2, e2, rfl⟩
    · refine hi W δ m1 _ _ e2 r1 F1 H1 σ hr1 er1 _ fun iv r2 F2 H2 hr2 x2 ry => ?_
      have er2 := er1.ext x2
      have x02 := x1.trans hr1.len hr.len x2
      cases y with
      | int k =>
        dsimp only at q
        cases h0 : cellL m2 x with
        | none => rw [h0] at q; cases q
        | some p =>
          obtain ⟨kk, ys⟩ := p
          rw [h0] at q
          simp only [Option.bind_some] at q
          split at q
          · rename_i hk0
            cases hat : L2.atI ys k with
            | none => rw [hat] at q; cases q
            | some d =>
              rw [hat] at q
              cases d with
              | int a =>
                cases ry
                dsimp only at q
                obtain ⟨pa, ws, rfl, ea, hk, h1, h2⟩ := cellL_get h0 hr2 (rx.mono x2.pre x2.sub)
                obtain ⟨v, ev, pv⟩ := h2.atI hat
                cases pv
                refine ⟨pa, ws, k, _, rfl, rfl, hk0, .inl (.inl h1), ev, ?_⟩
                rcases run_some q with ⟨z, m3, e3, q⟩ | ⟨y, m3, e3, rfl⟩
                · refine he W δ m2 _ _ e3 r2 F2 H2 σ hr2 er2 _ fun w r3 F3 H3 hr3 x3 rz => ?_
                  have er3 := er2.ext x3
                  have x03 := x02.trans hr2.len hr.len x3
                  cases z with
                  | int b =>
                    cases rz
                    dsimp only at q
                    cases h5 : cellL m3 x with
                    | none => rw [h5] at q; cases q
                    | some p2 =>
                      obtain ⟨kk2, ys2⟩ := p2
                      rw [h5] at q
                      simp only [Option.bind_some] at q
                      cases hj : ixN ys2.length k with
                      | none => rw [hj] at q; cases q
                      | some j =>
                        rw [hj] at q
                        cases q
                        obtain ⟨pa2, ws2, ee, ea2, hk2, h12, h22⟩ := cellL_get h5 hr3 ((rx.mono x2.pre x2.sub).mono x3.pre x3.sub)
                        cases ee
                        obtain ⟨z1, z2⟩ := putL hr3 ea2 hk2 h12 (h22.set (.int (f a b)) j)
                        exact ⟨a, b, rfl, rfl, pa, ws2, k, j, rfl, rfl, h12, by rw [h22.len]; exact hj, h σ r3 F3 _ z1 er3 (x03.trans hr3.len hr.len z2)⟩
                  | _ => cases q
                · exact he W δ m2 _ _ e3 r2 F2 H2 σ hr2 er2 (fun r' F' H' hr' x' => h σ r' F' H' hr' (er2.ext x') (x02.trans hr2.len hr.len x')) _
              | _ => cases q
          · cases q
      | _ => cases q
    · exact hi W δ m1 _ _ e2 r1 F1 H1 σ hr1 er1 (fun r' F' H' hr' x' => h σ r' F' H' hr' (er1.ext x') (x1.trans hr1.len hr.len x')) _
  · exact ho W δ m _ _ e1 r F H σ hr er (fun r' F' H' hr' x' => h σ r' F' H' hr' (er.ext x') x') _
/-- xs.index(k) of whole numbers, k there -/
def pIndex : D → List D → Store → MX D := fun x as m => match as with
  | [.int k] => (rdQ m x).bind fun ds => (toInts ds).bind fun ns => if ns.idxOf k < ns.length then ret (.int (ns.idxOf k : Nat)) m else none
  | _ => none
theorem sm_pIndex {K : PySem.W.Frag} {W : WX} : SM K W (rIndex K) pIndex := fun x xs m res m' e r F H σ v vs hr px ps => by
  unfold pIndex at e
  split at e
  · rename_i k
    cases h0 : rdQ m x with
    | none => rw [h0] at e; cases e
    | some ds =>
      rw [h0] at e
      simp only [Option.bind_some] at e
      cases h1 : toInts ds with
      | none => rw [h1] at e; cases e
      | some ns =>
        rw [h1] at e
        simp only [Option.bind_some] at e
        split at e
        · rename_i hlt
          cases e
          cases toInts_eq h1
          obtain ⟨p, ws, rfl, hs, ra⟩ := rdQ_get h0 hr px
          cases ra.ints
          obtain ⟨y, rfl, py⟩ := rep1 ps
          cases py
          refine fun Q q => ⟨p, ns.map V.int, .int k, ns.idxOf k, .int k, rfl, rfl, hs, rfl, by simp [flatV], ?_, by simp [eqV], fun j z hj hz => ?_, q _ r F H hr (Ext.refl hr) (.int _)⟩
          · rw [List.getElem?_map, List.getElem?_eq_getElem hlt]
            simp
          · rw [List.getElem?_map] at hz
            cases hn : ns[j]? with
            | none => rw [hn] at hz; cases hz
            | some a =>
              rw [hn] at hz
              cases hz
              have hjl : j < ns.length := (List.getElem?_eq_some_iff.mp hn).1
              have : ns[j] = a := (List.getElem?_eq_some_iff.mp hn).2
              have ne : a ≠ k := fun e => by
                have := List.not_of_lt_findIdx (p := (· == k)) (xs := ns) (i := j) hj
                simp_all
              simp [eqV, ne]
        · cases e
  · cases e
/-- a method that can be called, a class that can be made -/
def CalM (P : Program) (w : World) (K : PySem.W.Frag) (mg : Str → Option Value) (base : Heap) (x mm : Str) (k : Nat) (ps : List Str) (f : FnS) : Prop :=
  ∃ fd, FnOk P w K mg base (L2.CX P w) k (He.ma K (He.ga K x) mm) fd ps (spF K f) ∧ Binds K fd ps [] ∧ Meth K (He.ga K x) mm (He.ma K (He.ga K x) mm)
def CalI (P : Program) (w : World) (K : PySem.W.Frag) (mg : Str → Option Value) (base : Heap) (x : Str) (k : Nat) (ps : List Str) (f : FnS) : Prop :=
  ∃ fd, FnOk P w K mg base (L2.CX P w) k (He.ma K (He.ga K x) "__init__") fd ps (spF K f) ∧ Binds K fd ps [] ∧ Mk K (He.ga K x) (He.ma K (He.ga K x) "__init__") ∧ mg x = some (.ref (He.ga K x))
section
variable {X : Cx} {k : Nat} {ps : List Str} {f : FnS} {x mm : Str} {p pos apos : Pos} {o e : Expr} {es : List Expr} {t : TA} {ta : TE}
theorem pc_meth {j : Nat} {pl : Sem Bool} (C : CalM X.prog X.w X.K X.mg X.base x mm j ps f) (c : Cls X.K (He.ga X.K x)) (hr : Room j X.A) (ho : PE X o ta) (ha : PA X (e :: es) t)
    (hst : starEach (e :: es) X.env = (false, eval e X.env) :: starEach es X.env := by rfl) (hpl : (backTo pos (starEach es X.env)).any (·.1) = false := by rfl)
    (ht : eval (.Call (.Attribute o mm apos) (e :: es) [] pos) X.env = (do
      let ov ← eval o X.env
      standAt apos.atName
      let (f, first) ← holding [ov] (getMethod ov mm pl)
      callWith pos f first (backTo pos (starEach (e :: es) X.env)) (backToKw pos (keywordEach [] X.env))) := by rfl) : PE X (.Call (.Attribute o mm apos) (e :: es) [] pos) (tMeth (He.ga X.K x) mm (spF X.K f) [] E0 ta t) := by
  obtain ⟨fd, F, b, m⟩ := C
  exact pe_meth (pl := pl) ho c m F hr b .nil passL ha hst hpl ht
theorem pc_meth0 {j : Nat} {pl : Sem Bool} (C : CalM X.prog X.w X.K X.mg X.base x mm j ps f) (c : Cls X.K (He.ga X.K x)) (hr : Room j X.A) (ho : PE X o ta)
    (ht : eval (.Call (.Attribute o mm apos) [] [] pos) X.env = (do
      let ov ← eval o X.env
      standAt apos.atName
      let (f, first) ← holding [ov] (getMethod ov mm pl)
      callWith pos f first (backTo pos (starEach [] X.env)) (backToKw pos (keywordEach [] X.env))) := by rfl) : PE X (.Call (.Attribute o mm apos) [] [] pos) (tMeth (He.ga X.K x) mm (spF X.K f) [] E0 ta tNil) := by
  obtain ⟨fd, F, b, m⟩ := C
  exact pe_meth0 (pl := pl) ho c m F hr b .nil passL ht
theorem pc_make {j : Nat} (C : CalI X.prog X.w X.K X.mg X.base x j ps f) (hr : Room (j + 1) X.A) (hg : Gl X x) (ha : PA X (e :: es) t) (hdb : (x == ("__debug__" : Str)) = false := by decide)
    (he : starEach (e :: es) X.env = (false, eval e X.env) :: starEach es X.env := by rfl) (hpl : (backTo pos (starEach es X.env)).any (·.1) = false := by rfl) : PE X (.Call (.Name x p) (e :: es) [] pos) (tMake (He.ga X.K x) (spF X.K f) [] E0 t) := by
  obtain ⟨fd, F, b, mk, m⟩ := C
  exact pe_make mk F hr hg m b .nil passL ha hdb he hpl
theorem pc_make0 {j : Nat} (C : CalI X.prog X.w X.K X.mg X.base x j ps f) (hr : Room (j + 1) X.A) (hg : Gl X x) (hdb : (x == ("__debug__" : Str)) = false := by decide) : PE X (.Call (.Name x p) [] [] pos) (tMake (He.ga X.K x) (spF X.K f) [] E0 tNil) := by
  obtain ⟨fd, F, b, mk, m⟩ := C
  exact pe_make0 mk F hr hg m b .nil passL hdb
end
end DL
/-! texts: signs, parts, length, joined; dicts copied, sorted, counted; methods that raise -/
namespace DL
open PySem PySem.Spec PyProof.Rows L2
section
variable {K : PySem.W.Frag} {W : WX} {ta tb tc to : TE} {tas : TA} {a b c o : ME} {as : MA}
def chS (c : Nat) : D := .str ⟨#[c]⟩
def pIxS : D → D → Store → MX D := fun x y m => match x, y with
  | .str z, .int i => if z.length ≤ 100000 then (L2.atI z.cps.toList i).bind fun c => ret (chS c) m else none
  | _, _ => none
theorem s2_pIxS : S2 K W rIxS pIxS := fun x y m res m' e r F H σ vx vy hr px py => by
  unfold pIxS at e
  split at e
  · split at e
    · rename_i z i hl
      cases h0 : L2.atI z.cps.toList i with
      | none => rw [h0] at e; cases e
      | some c =>
        rw [h0] at e
        cases e; cases px; cases py
        exact fun Q q => ⟨z, i, c, rfl, rfl, Evl.sz_of hl, h0, q _ r F H hr (Ext.refl hr) (.str _)⟩
    · cases e
  · cases e
/-- a part of a text -/
def eSlS (a : ME) (l h : MO) : ME := fun δ m => (a δ m).bind fun x m => (l δ m).bind fun lo m => (h δ m).bind fun hi m => match x with
  | .str z => if z.length ≤ 100000 then ret (.str (L2.cutS z lo hi)) m else none
  | _ => none
theorem so_slS {tl th : TO} {l h : MO} (ha : So K W (RE K) ta a) (hl : So K W RO tl l) (hh : So K W RO th h) : So K W (RE K) (tSl rSlS ta tl th) (eSlS a l h) := fun δ m res m' e r F H σ hr er => by
  show JAt K W (RE K) r F H σ m (fun H Q => ta σ H fun x H1 => tl σ H1 fun lo H2 => th σ H2 fun hi H3 => rSlS x lo hi H3 Q) res m'
  rcases bind_some e with ⟨x, m1, e1, e2⟩ | ⟨y, e1, rfl⟩
  · refine (ha δ m _ _ e1 r F H σ hr er).bind re_mon hr fun v r1 F1 H1 hr1 x1 rv => ?_
    rcases bind_some e2 with ⟨lo, m2, e3, e4⟩ | ⟨y, e3, rfl⟩
    · refine (hl δ m1 _ _ e3 r1 F1 H1 σ hr1 (er.ext x1)).bind re_mon hr1 fun lo' r2 F2 H2 hr2 x2 rlo => ?_
      cases rlo
      rcases bind_some e4 with ⟨hi, m3, e5, e6⟩ | ⟨y, e5, rfl⟩
      · refine (hh δ m2 _ _ e5 r2 F2 H2 σ hr2 ((er.ext x1).ext x2)).bind re_mon hr2 fun hi' r3 F3 H3 hr3 x3 rhi => ?_
        cases rhi
        cases x with
        | str z =>
          dsimp only at e6
          split at e6
          · rename_i hz
            cases e6; cases rv
            exact fun Q q => ⟨z, rfl, Evl.sz_of hz, q _ r3 F3 _ hr3 (Ext.refl hr3) (.str _)⟩
          · cases e6
        | _ => cases e6
      · exact (hh δ m2 _ _ e5 r2 F2 H2 σ hr2 ((er.ext x1).ext x2)).thrown
    · exact (hl δ m1 _ _ e3 r1 F1 H1 σ hr1 (er.ext x1)).thrown
  · exact (ha δ m _ _ e1 r F H σ hr er).thrown
abbrev rLenTx : List V → Hp → VK → Prop := fun xs H Q => ∃ z, xs = [.str z] ∧ z.length ≤ sizeLine ∧ Q (.int z.length) H
def pLenS : List D → Store → MX D := fun xs m => match xs with
  | [.str z] => if z.length ≤ 100000 then ret (.int z.length) m else none
  | _ => none
theorem sc_pLenS : SC K W (RE K) rLenTx pLenS := fun xs m res m' e r F H σ vs hr p => by
  unfold pLenS at e
  split at e
  · rename_i z
    split at e
    · rename_i hz
      cases e
      obtain ⟨v, rfl, pv⟩ := rep1 p
      cases pv
      exact fun Q q => ⟨z, rfl, Evl.sz_of hz, q _ r F H hr (Ext.refl hr) (.int _)⟩
    · cases e
  · cases e
/-- a sign among the signs of a text -/
abbrev rInSg (neg : Bool) : R2 := fun x y H Q => ∃ (c : Nat) (z : Str), x = .str ⟨#[c]⟩ ∧ y = .str z ∧ Q (.bl (if neg then !decide (c ∈ z.cps.toList) else decide (c ∈ z.cps.toList))) H
def pInSg (neg : Bool) : D → D → Store → MX D := fun x y m => match x, y with
  | .str ⟨⟨[c]⟩⟩, .str z => ret (.bl (if neg then !decide (c ∈ z.cps.toList) else decide (c ∈ z.cps.toList))) m
  | _, _ => none
theorem s2_pInSg {neg : Bool} : S2 K W (rInSg neg) (pInSg neg) := fun x y m res m' e r F H σ vx vy hr px py => by
  unfold pInSg at e
  split at e
  · rename_i c z
    cases e; cases px; cases py
    exact fun Q q => ⟨c, z, rfl, rfl, q _ r F H hr (Ext.refl hr) (.bl _)⟩
  · cases e
/-- over the signs of a text -/
def wStr (a : ME) : MI := fun δ m => (a δ m).bind fun x m => match x with
  | .str z => ret ⟨z.cps.toList.map chS, []⟩ m
  | _ => none
theorem its_ok {C : Store → Prop} {r : List Addr} {F : Hp} {z : Str} : ItOk K C (Its z) r F (z.cps.toList.map chS) := fun r' F' H' m' h1 h2 h3 _ i => by
  constructor
  · intro d hd
    rw [List.getElem?_map] at hd
    cases h0 : z.cps.toList[i]? with
    | none => rw [h0] at hd; cases hd
    | some c =>
      rw [h0] at hd
      cases hd
      have hi : i < z.cps.toList.length := (List.getElem?_eq_some_iff.mp h0).1
      refine ⟨by show i < z.cps.size; simpa using hi, fun x H'' hy => ?_⟩
      obtain ⟨rfl, c', hc, rfl⟩ := hy
      have : c' = c := by
        rw [← Array.getElem?_toList, h0] at hc
        cases hc; rfl
      subst this
      exact ⟨F', h3, Ext.refl h3, .str _⟩
  · intro hl
    show z.cps.size ≤ i
    simpa using hl
theorem so_wStr (ha : So K W (RE K) ta a) : So K W (RI K) (iStr ta) (wStr a) :=
  So.bind ri_mon ha (k := fun (x : D) δ m => match x with
    | .str z => ret (Wk.mk (z.cps.toList.map chS) []) m
    | _ => none) (u := fun (v : V) σ H R => ∃ x, v = .str x ∧ R (Its x) H) fun x δ m res m' e v r F H σ _ hr er rv => by
    cases x with
    | str z => cases e; cases rv; exact fun Q q => ⟨z, rfl, q _ r F H hr (Ext.refl hr) its_ok⟩
    | _ => cases e
/-- texts joined -/
def toStrs : List D → Option (List Str)
  | [] => some []
  | .str z :: ds => (toStrs ds).map (z :: ·)
  | _ :: _ => none
theorem toStrs_map (zs : List Str) : toStrs (zs.map D.str) = some zs := by
  induction zs with
  | nil => rfl
  | cons z zs ih => rw [List.map_cons, toStrs, ih]; rfl
theorem toStrs_eq : ∀ {ds : List D} {zs : List Str}, toStrs ds = some zs → ds = zs.map D.str
  | [], zs, h => by cases h; rfl
  | d :: ds, zs, h => by
    cases d with
    | str z =>
      unfold toStrs at h
      cases h0 : toStrs ds with
      | none => rw [h0] at h; cases h
      | some ys => rw [h0] at h; cases h; rw [toStrs_eq h0]; rfl
    | _ => cases h
theorem repStrs {r : List Addr} {F : Hp} : ∀ {zs : List Str} {vs : List V}, RepAll K r F vs (zs.map D.str) → vs = zs.map V.str
  | [], _, .nil => rfl
  | z :: zs, _, .cons p q => by cases p; rw [repStrs q]; rfl
abbrev rJoin (K : PySem.W.Frag) : V → List V → Hp → VK → Prop := fun x xs H Q => ∃ a p, ∃ ys : List Str, x = .str a ∧ xs = [.ref p] ∧ (SqL K H p (ys.map V.str) ∨ SqT K H p (ys.map V.str)) ∧ (ys.map (·.length)).sum + ys.length * a.length ≤ 16777216 ∧ Q (.str (Txt.join a ys)) H
def eJoin (o a : ME) : ME := fun δ m => (o δ m).bind fun x m => match x with
  | .str z => (a δ m).bind fun y m => (rdQ m y).bind fun ds => (toStrs ds).bind fun ys => if (ys.map (·.length)).sum + ys.length * z.length ≤ 16777216 then ret (.str (Txt.join z ys)) m else none
  | _ => none
theorem so_join (ho : So K W (RE K) to o) (ha : So K W (RE K) ta a) : So K W (RE K) (tM1 (rJoin K) to ta) (eJoin o a) := fun δ m res m' e r F H σ hr er => by
  show JAt K W (RE K) r F H σ m (fun H Q => to σ H fun x H1 => (∃ a, x = .str a) ∧ ta σ H1 fun y H2 => rJoin K x [y] H2 Q) res m'
  rcases bind_some e with ⟨x, m1, e1, e2⟩ | ⟨y, e1, rfl⟩
  · refine (ho δ m _ _ e1 r F H σ hr er).bind re_mon hr fun v r1 F1 H1 hr1 x1 rv => ?_
    cases x with
    | str z =>
      cases rv
      dsimp only at e2
      have key : JAt K W (RE K) r1 F1 H1 σ m1 (fun H Q => ta σ H fun y H2 => rJoin K (.str z) [y] H2 Q) res m' := by
        rcases bind_some e2 with ⟨y, m2, e3, e4⟩ | ⟨y, e3, rfl⟩
        · refine (ha δ m1 _ _ e3 r1 F1 H1 σ hr1 (er.ext x1)).bind re_mon hr1 fun vy r2 F2 H2 hr2 x2 ry => ?_
          cases h0 : rdQ m2 y with
          | none => rw [h0] at e4; cases e4
          | some ds =>
            rw [h0] at e4
            simp only [Option.bind_some] at e4
            cases h1 : toStrs ds with
            | none => rw [h1] at e4; cases e4
            | some ys =>
              rw [h1] at e4
              simp only [Option.bind_some] at e4
              split at e4
              · rename_i hb
                cases e4
                cases toStrs_eq h1
                obtain ⟨p, ws, rfl, hs, ra⟩ := rdQ_get h0 hr2 ry
                cases repStrs ra
                exact fun Q q => ⟨z, p, ys, rfl, rfl, .inl hs, hb, q _ r2 F2 H2 hr2 (Ext.refl hr2) (.str _)⟩
              · cases e4
        · exact (ha δ m1 _ _ e3 r1 F1 H1 σ hr1 (er.ext x1)).thrown
      cases res with
      | ok w => exact fun Q q => ⟨⟨z, rfl⟩, key Q q⟩
      | ex w => exact fun q Q => ⟨⟨z, rfl⟩, key q Q⟩
    | _ => cases e2
  · exact (ho δ m _ _ e1 r F H σ hr er).thrown
end
theorem bt_dict : bootBuiltins ("dict" : Str) = some (.type "dict") := rfl
/-! the order of texts -/
def leS (a b : Str) : Prop := ltCps b.cps.toList a.cps.toList = false
theorem lt_no : ∀ {a b c : List Nat}, ltCps b a = false → ltCps c b = false → ltCps c a = false
  | [], b, [], _, _ => rfl
  | [], b, _ :: _, _, _ => rfl
  | z :: a, [], c, h1, _ => by simp [ltCps] at h1
  | z :: a, y :: b, [], _, h2 => by simp [ltCps] at h2
  | z :: a, y :: b, x :: c, h1, h2 => by
    simp only [ltCps, Bool.or_eq_false_iff, Bool.and_eq_false_iff, decide_eq_false_iff_not, beq_eq_false_iff_ne] at h1 h2 ⊢
    refine ⟨by omega, ?_⟩
    by_cases hx : x = z
    · have e1 : y = z := by omega
      have e2 : x = y := by omega
      refine .inr (lt_no (h1.2.resolve_left fun n => n e1) (h2.2.resolve_left fun n => n e2))
    · exact .inl hx
theorem lt_anti : ∀ {a b : List Nat}, ltCps b a = false → ltCps a b = false → a = b
  | [], [], _, _ => rfl
  | [], _ :: _, _, h => by simp [ltCps] at h
  | _ :: _, [], h, _ => by simp [ltCps] at h
  | x :: a, y :: b, h1, h2 => by
    simp only [ltCps, Bool.or_eq_false_iff, Bool.and_eq_false_iff, decide_eq_false_iff_not, beq_eq_false_iff_ne] at h1 h2
    have e : x = y := by omega
    subst e
    rw [lt_anti (h1.2.resolve_left fun n => n rfl) (h2.2.resolve_left fun n => n rfl)]
theorem lt_tot : ∀ (a b : List Nat), ltCps b a = false ∨ ltCps a b = false
  | [], [] => .inl rfl
  | [], _ :: _ => .inl rfl
  | _ :: _, [] => .inr rfl
  | x :: a, y :: b => by
    simp only [ltCps, Bool.or_eq_false_iff, Bool.and_eq_false_iff, decide_eq_false_iff_not, beq_eq_false_iff_ne]
    rcases Nat.lt_trichotomy x y with h | h | h
    · exact .inl ⟨by omega, .inl (by omega)⟩
    · subst h
      rcases lt_tot a b with h | h
      · exact .inl ⟨by omega, .inr h⟩
      · exact .inr ⟨by omega, .inr h⟩
    · exact .inr ⟨by omega, .inl (by omega)⟩
theorem leS_anti {a b : Str} (h1 : leS a b) (h2 : leS b a) : a = b := by
  have := lt_anti h1 h2
  cases a; cases b
  congr
  exact Array.toList_inj.mp this
def insS (x : Str) : List Str → List Str
  | [] => [x]
  | y :: r => if ltCps y.cps.toList x.cps.toList = true then y :: insS x r else x :: y :: r
def ssort : List Str → List Str
  | [] => []
  | x :: r => insS x (ssort r)
theorem insS_perm (x : Str) : ∀ l, (insS x l).Perm (x :: l)
  | [] => List.Perm.refl _
  | y :: r => by
    unfold insS
    split
    · exact ((insS_perm x r).cons y).trans (List.Perm.swap _ _ _)
    · exact List.Perm.refl _
theorem ssort_perm : ∀ l, (ssort l).Perm l
  | [] => List.Perm.refl _
  | x :: r => (insS_perm x (ssort r)).trans ((ssort_perm r).cons x)
theorem insS_le (x : Str) : ∀ {l : List Str}, l.Pairwise leS → (insS x l).Pairwise leS
  | [], _ => List.pairwise_singleton _ _
  | y :: r, h => by
    obtain ⟨h1, h2⟩ := List.pairwise_cons.mp h
    unfold insS
    split
    · rename_i hl
      refine List.pairwise_cons.mpr ⟨fun z hz => ?_, insS_le x h2⟩
      rcases List.mem_cons.mp ((insS_perm x r).mem_iff.mp hz) with rfl | hz
      · rcases lt_tot y.cps.toList z.cps.toList with q | q
        · exact q
        · rw [q] at hl; cases hl
      · exact h1 z hz
    · rename_i hl
      have hxy : leS x y := Bool.eq_false_iff.mpr hl
      refine List.pairwise_cons.mpr ⟨fun z hz => ?_, h⟩
      rcases List.mem_cons.mp hz with rfl | hz
      · exact hxy
      · exact lt_no hxy (h1 z hz)
theorem ssort_le : ∀ l : List Str, (ssort l).Pairwise leS
  | [] => .nil
  | x :: r => insS_le x (ssort_le r)
theorem rising_le : ∀ {l : List Str} {p : Str}, risingS p l = true → (p :: l).Pairwise leS
  | [], p, _ => List.pairwise_singleton _ _
  | x :: r, p, h => by
    unfold risingS at h
    rw [Bool.and_eq_true] at h
    have ih := rising_le h.2
    have hx : leS p x := by simpa [leS] using h.1
    refine List.pairwise_cons.mpr ⟨fun z hz => ?_, ih⟩
    rcases List.mem_cons.mp hz with rfl | hz
    · exact hx
    · exact lt_no hx ((List.pairwise_cons.mp ih).1 z hz)
theorem sorted_le : ∀ {l : List Str}, sortedS l = true → l.Pairwise leS
  | [], _ => .nil
  | _ :: _, h => rising_le h
theorem leS_uniq : ∀ {a b : List Str}, a.Perm b → a.Pairwise leS → b.Pairwise leS → a = b
  | [], b, p, _, _ => (List.nil_perm.mp p).symm
  | x :: a, [], p, _, _ => by have := p.length_eq; simp at this
  | x :: a, y :: b, p, h1, h2 => by
    obtain ⟨p1, p2⟩ := List.pairwise_cons.mp h1
    obtain ⟨q1, q2⟩ := List.pairwise_cons.mp h2
    have e : x = y := by
      rcases List.mem_cons.mp (p.mem_iff.mp List.mem_cons_self) with e | hx
      · exact e
      · rcases List.mem_cons.mp (p.mem_iff.mpr List.mem_cons_self) with e | hy
        · exact e.symm
        · exact leS_anti (p1 y hy) (q1 x hx)
    subst e
    rw [leS_uniq ((List.perm_cons x).mp p) p2 q2]
theorem ssort_uniq {ys ks : List Str} (p : ys.Perm ks) (h : sortedS ys = true) : ys = ssort ks := leS_uniq (p.trans (ssort_perm ks).symm) (sorted_le h) (ssort_le ks)
section
variable {K : PySem.W.Frag} {W : WX} {ta tb tc to : TE} {tas : TA} {a b c o : ME} {as : MA}
/-- a dict copied -/
abbrev rDictD : List V → Hp → VK → Prop := fun xs H Q => ∃ (a : Addr) (kvs : List (Key × V)), xs = [.ref a] ∧ L2.Rd H a (.dK kvs) ∧ ∀ p, H p = none → Q (.ref p) (upd H p (.dK kvs))
def pDictD : List D → Store → MX D := fun xs m => match xs with
  | [x] => (cellR m x).bind fun p => ret (.cell m.length) (m ++ [.dK p.2])
  | _ => none
theorem sc_pDictD : SC K W (RE K) rDictD pDictD := fun xs m res m' e r F H σ vs hr p => by
  unfold pDictD at e
  split at e
  · rename_i x
    cases h0 : cellR m x with
    | none => rw [h0] at e; cases e
    | some q =>
      obtain ⟨j, kvs⟩ := q
      rw [h0] at e
      cases e
      obtain ⟨v, rfl, pv⟩ := rep1 p
      obtain ⟨a, gs, rfl, ea, h3, h4⟩ := cellR_get h0 hr pv
      refine fun Q q => ⟨a, gs, rfl, h3, fun p hp => ?_⟩
      have h1 := hr.side (o := .dK gs) hp
      have fp : F p = none := hr.sub.free hp
      have np : ∀ (k : Nat), live m k → r[k]? ≠ some p := fun k l e => hr.ne_new hp l e rfl
      have h2 : HR K (r ++ [p]) F (upd H p (.dK gs)) (m ++ [.dK kvs]) := h1.toCell fp np ⟨gs, upd_same, h4⟩
      exact q _ _ _ _ h2 ((Ext.side hr hp).toCell hr.len hp) (.cell (by rw [← hr.len]; simp))
  · cases e
abbrev rLenDK : List V → Hp → VK → Prop := fun xs H Q => ∃ a kvs, xs = [V.ref a] ∧ L2.Rd H a (.dK kvs) ∧ Q (.int kvs.length) H
def pLenD : List D → Store → MX D := fun xs m => match xs with
  | [x] => (cellR m x).bind fun p => ret (.int p.2.length) m
  | _ => none
theorem sc_pLenD : SC K W (RE K) rLenDK pLenD := fun xs m res m' e r F H σ vs hr p => by
  unfold pLenD at e
  split at e
  · rename_i x
    cases h0 : cellR m x with
    | none => rw [h0] at e; cases e
    | some q =>
      obtain ⟨j, kvs⟩ := q
      rw [h0] at e
      cases e
      obtain ⟨v, rfl, pv⟩ := rep1 p
      obtain ⟨a, gs, rfl, ea, h3, h4⟩ := cellR_get h0 hr pv
      refine fun Q q => ⟨a, gs, rfl, h3, ?_⟩
      rw [rep_len h4]
      exact q _ r F H hr (Ext.refl hr) (.int _)
  · cases e
/-- the keys of a dict, sorted -/
def keysS : List (Key × D) → Option (List Str)
  | [] => some []
  | (.inr x, _) :: r => (keysS r).map (x :: ·)
  | _ :: _ => none
theorem keysS_rep {r : List Addr} {F : Hp} : ∀ {kvs : List (Key × D)} {gs : List (Key × V)} {ks : List Str}, keysS kvs = some ks → RepK K r F gs kvs → gs.map (·.1) = ks.map Sum.inr
  | [], [], ks, h, _ => by cases h; rfl
  | [], _ :: _, _, _, h => h.elim
  | _ :: _, [], _, _, h => h.elim
  | (.inr x, d) :: kvs, (y, v) :: gs, ks, h, hr => by
    obtain ⟨e, _, t⟩ := hr
    unfold keysS at h
    cases h0 : keysS kvs with
    | none => rw [h0] at h; cases h
    | some l =>
      rw [h0] at h
      cases h
      have e' : y = .inr x := e
      subst e'
      rw [List.map_cons, List.map_cons, keysS_rep h0 t]
  | (.inl _, _) :: _, _, _, h, _ => by cases h
abbrev rSortDK : List V → Hp → VK → Prop := fun xs H Q => ∃ (a : Addr) (kvs : List (Key × V)) (ks : List Str), xs = [.ref a] ∧ L2.Rd H a (.dK kvs) ∧ kvs.map (·.1) = ks.map Sum.inr ∧ ks.length < 64 ∧ ∀ ys p, ys.Perm ks → sortedS ys = true → H p = none → Q (.ref p) (upd H p (.lst (ys.map V.str)))
def pSortD : List D → Store → MX FT := fun xs m => match xs with
  | [x] => (cellR m x).bind fun p => (keysS p.2).bind fun ks => if ks.length < 64 then ret (.own ((ssort ks).map D.str)) m else none
  | _ => none
theorem repAllStr {r : List Addr} {F : Hp} : ∀ zs : List Str, RepAll K r F (zs.map V.str) (zs.map D.str)
  | [] => .nil
  | z :: zs => .cons (.str z) (repAllStr zs)
theorem sc_pSortD : SC K W (RF K) rSortDK pSortD := fun xs m res m' e r F H σ vs hr p => by
  unfold pSortD at e
  split at e
  · rename_i x
    cases h0 : cellR m x with
    | none => rw [h0] at e; cases e
    | some q =>
      obtain ⟨j, kvs⟩ := q
      rw [h0] at e
      simp only [Option.bind_some] at e
      cases h1 : keysS kvs with
      | none => rw [h1] at e; cases e
      | some ks =>
        rw [h1] at e
        simp only [Option.bind_some] at e
        split at e
        · rename_i hl
          cases e
          obtain ⟨v, rfl, pv⟩ := rep1 p
          obtain ⟨a, gs, rfl, ea, h3, h4⟩ := cellR_get h0 hr pv
          refine fun Q q => ⟨a, gs, ks, rfl, h3, keysS_rep h1 h4, hl, fun ys p' py sy hp' => ?_⟩
          rw [ssort_uniq py sy]
          obtain ⟨q1, q2, q3⟩ := rf_new hr hp' (repAllStr (ssort ks))
          exact q _ r F _ q1 q2 q3
        · cases e
  · cases e
/-- o.m(..), raising -/
def tMethX (C : Addr) (mm : Str) (sp : Sp) (E : L2.St → XK) (to : TE) (t : TA) : TE := fun σ H Q => to σ H fun x H1 => ∃ a dx fs, x = .ref a ∧ H1 a = some (.ins C dx fs) ∧ fs.lookup mm = none ∧ t σ H1 fun vs H2 => sp (x :: vs) H2 Q (E σ)
def fMethS (x mm : Str) (f : FnS) (o : ME) (as : MA) : MF := fun δ m => (o δ m).bind fun w m => (cellI m x w).bind fun p => match lkF mm p.2 with
  | some _ => none
  | none => (as δ m).bind fun ds m => f (w :: ds) m
theorem so_methS {x mm : Str} {f : FnS} (ho : So K W (RE K) to o) (hs : So K W (RA K) tas as) : So K W (RF K) (tMethX (He.ga K x) mm (spF K f) (WE W) to tas) (fMethS x mm f o as) := fun δ m res m' e r F H σ hr er => by
  show JAt K W (RF K) r F H σ m (fun H Q => to σ H fun v H1 => ∃ a dx fs, v = .ref a ∧ H1 a = some (.ins (He.ga K x) dx fs) ∧ fs.lookup mm = none ∧ tas σ H1 fun vs H2 => spF K f (v :: vs) H2 Q (WE W σ)) res m'
  rcases bind_some e with ⟨w, m1, e1, e2⟩ | ⟨y, e1, rfl⟩
  · refine (ho δ m _ _ e1 r F H σ hr er).bind rf_mon hr fun v r1 F1 H1 hr1 x1 rv => ?_
    cases h0 : cellI m1 x w with
    | none => rw [h0] at e2; cases e2
    | some p =>
      obtain ⟨j, fs⟩ := p
      rw [h0] at e2
      simp only [Option.bind_some] at e2
      cases h1 : lkF mm fs with
      | some _ => rw [h1] at e2; cases e2
      | none =>
        rw [h1] at e2
        obtain ⟨a, dx, gs, rfl, rfl, ea, hk, h2, h3, h4⟩ := cellI_get h0 hr1 rv
        have l := repF_none h4 h1
        have key : JAt K W (RF K) r1 F1 H1 σ m1 (fun H Q => tas σ H fun vs H2 => spF K f (.ref a :: vs) H2 Q (WE W σ)) res m' := by
          rcases bind_some e2 with ⟨ds, m2, e3, e4⟩ | ⟨y, e3, rfl⟩
          · refine (hs δ m1 _ _ e3 r1 F1 H1 σ hr1 (er.ext x1)).bind rf_mon hr1 fun vs r2 F2 H2 hr2 x2 rs => ?_
            cases res with
            | ok ft => exact fun Q q => ⟨r2, F2, m2, _, .ok ft, m', hr2, .cons (rv.mono x2.pre x2.sub) rs, e4, fun v r' F' H' h1 h2 h3 => q v r' F' H' h1 h2 h3⟩
            | ex z => exact fun q Q => ⟨r2, F2, m2, _, .ex z, m', hr2, .cons (rv.mono x2.pre x2.sub) rs, e4, fun r' F' H' h1 h2 => q r' F' H' h1 h2⟩
          · exact (hs δ m1 _ _ e3 r1 F1 H1 σ hr1 (er.ext x1)).thrown
        cases res with
        | ok z => exact fun Q q => ⟨a, dx, gs, rfl, h2, l, key Q q⟩
        | ex z => exact fun q Q => ⟨a, dx, gs, rfl, h2, l, key q Q⟩
  · exact (ho δ m _ _ e1 r F H σ hr er).thrown
end
theorem call_lenR {X : Cx} : CallR X (.builtin "len") rLenDK := fun pins s σ H xs us Q I r h => by
  obtain ⟨a, kvs, rfl, ha, q⟩ := h
  obtain ⟨u, rfl, ru⟩ := vals1 r
  cases ru
  exact d_len I ha fun t s' I' => ⟨.int kvs.length, H, I', ⟨t, rfl⟩, q⟩
section
variable {X : Cx} {ps : List Str} {f : FnS} {x mm : Str} {p pos apos : Pos} {o e : Expr} {es : List Expr} {t : TA} {ta : TE} {W : WX} {j : Nat}
theorem pc_methS {pl : Sem Bool} (C : CalM X.prog X.w X.K X.mg X.base x mm j ps f) (c : Cls X.K (He.ga X.K x)) (tk : Takes X W) (hr : Room j X.A) (ho : PE X o ta) (ha : PA X (e :: es) t)
    (hst : starEach (e :: es) X.env = (false, eval e X.env) :: starEach es X.env := by rfl) (hpl : (backTo pos (starEach es X.env)).any (·.1) = false := by rfl)
    (ht : eval (.Call (.Attribute o mm apos) (e :: es) [] pos) X.env = (do
      let ov ← eval o X.env
      standAt apos.atName
      let (f, first) ← holding [ov] (getMethod ov mm pl)
      callWith pos f first (backTo pos (starEach (e :: es) X.env)) (backToKw pos (keywordEach [] X.env))) := by rfl) : PE X (.Call (.Attribute o mm apos) (e :: es) [] pos) (tMethX (He.ga X.K x) mm (spF X.K f) (WE W) ta t) := by
  obtain ⟨fd, F, b, m⟩ := C
  exact ⟨fun pins s σ H Q I h => PySem.W.methodCall_KW (pl := pl) (thn (ho.run pins s σ H _ I h) fun u s1 ⟨v, H1, I1, rx, a, dx, fs, ex, ea, l, q⟩ => by
    cases ex; cases rx
    exact getmeth_ok I1 ea c m l (PySem.W.callWith_K (first := [.ref a]) (h₀ := X.base) I.ok.mod.kin m.kp (thn (ha.run pos pins s1 σ H1 _ I1 q) fun us s2 ⟨vs, H2, I2, r, q2⟩ => ⟨I2.kIn, run_fnS (us := .ref a :: us) (vs := .ref a :: vs) (E := WE W) F hr b (passAt tk σ) I2 (.cons rfl r) q2⟩) hst hpl)) ht⟩
theorem pc_methS0 {pl : Sem Bool} (C : CalM X.prog X.w X.K X.mg X.base x mm j ps f) (c : Cls X.K (He.ga X.K x)) (tk : Takes X W) (hr : Room j X.A) (ho : PE X o ta)
    (ht : eval (.Call (.Attribute o mm apos) [] [] pos) X.env = (do
      let ov ← eval o X.env
      standAt apos.atName
      let (f, first) ← holding [ov] (getMethod ov mm pl)
      callWith pos f first (backTo pos (starEach [] X.env)) (backToKw pos (keywordEach [] X.env))) := by rfl) : PE X (.Call (.Attribute o mm apos) [] [] pos) (tMethX (He.ga X.K x) mm (spF X.K f) (WE W) ta tNil) := by
  obtain ⟨fd, F, b, m⟩ := C
  exact ⟨fun pins s σ H Q I h => PySem.W.methodCall_KW (pl := pl) (thn (ho.run pins s σ H _ I h) fun u s1 ⟨v, H1, I1, rx, a, dx, fs, ex, ea, l, q⟩ => by
    cases ex; cases rx
    exact getmeth_ok I1 ea c m l (PySem.W.callWith_K0 (first := [.ref a]) I1.kIn m.kp (run_fnS (us := [.ref a]) (vs := [.ref a]) (E := WE W) F hr b (passAt tk σ) I1 (.cons rfl .nil) q))) ht⟩
end
end DL
/-! a dict that is walked: locked while one walks -/
namespace DL
open PySem PySem.Spec PyProof.Rows L2
def delF (F : Hp) (a : Addr) : Hp := fun b => if b = a then none else F b
theorem delF_ne {F : Hp} {a b : Addr} (h : b ≠ a) : delF F a b = F b := if_neg h
theorem delF_same {F : Hp} {a : Addr} : delF F a a = none := if_pos rfl
section
variable {K : PySem.W.Frag} {r : List Addr} {F : Hp} {a : Addr} {od : Obj} {us : List (Key × V)}
theorem del_some (hf : F a = some (.frz od (.dK us))) {b : Addr} {o : HO} (h : F b = some o) (n : ∀ o' x, o ≠ .frz o' (.dK x)) : delF F a b = some o := by
  rw [delF_ne]
  · exact h
  · rintro rfl
    rw [hf] at h
    cases h
    exact n _ _ rfl
mutual
theorem Rep.del (hf : F a = some (.frz od (.dK us))) : ∀ {v : V} {d : D}, Rep K r F v d → Rep K r (delF F a) v d
  | _, _, .non => .non
  | _, _, .bl b => .bl b
  | _, _, .int i => .int i
  | _, _, .str x => .str x
  | _, _, .lst s h => .lst (del_some hf s fun _ _ z => nomatch z) (RepAll.del hf h)
  | _, _, .tup s h => .tup (del_some hf s fun _ _ z => nomatch z) (RepAll.del hf h)
  | _, _, .cell h => .cell h
  | _, _, .scr h => .scr (by
      rcases h with (h | ⟨o, h⟩) | h
      · exact .inl (.inl (del_some hf h fun _ _ z => nomatch z))
      · exact .inl (.inr ⟨o, del_some hf h fun _ _ z => nomatch z⟩)
      · exact .inr h)
  | _, _, .exc h => .exc (h.imp (fun h => del_some hf h fun _ _ z => nomatch z) (fun h => del_some hf h fun _ _ z => nomatch z))
theorem RepAll.del (hf : F a = some (.frz od (.dK us))) : ∀ {vs : List V} {ds : List D}, RepAll K r F vs ds → RepAll K r (delF F a) vs ds
  | _, _, .nil => .nil
  | _, _, .cons h t => .cons (Rep.del hf h) (RepAll.del hf t)
end
theorem RepF.del (hf : F a = some (.frz od (.dK us))) : ∀ {gs : List (Str × V)} {fs : List (Str × D)}, RepF K r F gs fs → RepF K r (delF F a) gs fs
  | [], [], _ => trivial
  | (_, _) :: _, (_, _) :: _, h => ⟨h.1, h.2.1.del hf, RepF.del hf h.2.2⟩
  | [], _ :: _, h => h.elim
  | _ :: _, [], h => h.elim
theorem RepK.del (hf : F a = some (.frz od (.dK us))) : ∀ {gs : List (Key × V)} {fs : List (Key × D)}, RepK K r F gs fs → RepK K r (delF F a) gs fs
  | [], [], _ => trivial
  | (_, _) :: _, (_, _) :: _, h => ⟨h.1, h.2.1.del hf, RepK.del hf h.2.2⟩
  | [], _ :: _, h => h.elim
  | _ :: _, [], h => h.elim
theorem CellOk.del {H : Hp} {b : Addr} (hf : F a = some (.frz od (.dK us))) : ∀ {c : Cell}, CellOk K r F H b c → CellOk K r (delF F a) H b c
  | .lst xs, ⟨vs, h, q⟩ => ⟨vs, h, q.del hf⟩
  | .ins C fs, ⟨dx, gs, h, h2, q⟩ => ⟨dx, gs, h, h2, q.del hf⟩
  | .dK kvs, ⟨gs, h, q⟩ => ⟨gs, h, q.del hf⟩
  | .gone, _ => trivial
  | .fz _, h => h.elim
theorem ER.del {σ : L2.St} {δ : En} (hf : F a = some (.frz od (.dK us))) (h : ER K r F σ δ) : ER K r (delF F a) σ δ := ⟨h.1, fun i d q => let ⟨v, x, y⟩ := h.2 i d q; ⟨v, x, y.del hf⟩⟩
end
section
variable {K : PySem.W.Frag} {r r' : List Addr} {F H F' H' : Hp} {m m' : Store} {k : Nat} {a : Addr} {kvs kvs' : List (Key × D)} {gs : List (Key × V)} {od : Obj}
theorem live_fz {l : Nat} (h : live (m.set k (.fz kvs)) l) : live m l ∧ l ≠ k := by
  obtain ⟨c, e, ng⟩ := h
  by_cases hk : k = l
  · subst hk
    have hlt : k < (m.set k (.fz kvs)).length := (List.getElem?_eq_some_iff.mp e).1
    rw [List.getElem?_set_self (by simpa using hlt)] at e
    cases e
    cases ng
  · rw [List.getElem?_set_ne hk] at e
    exact ⟨⟨c, e, ng⟩, fun z => hk z.symm⟩
theorem lock_in (hr : HR K r F H m) (ea : r[k]? = some a) (hk : m[k]? = some (.dK kvs)) (hg : H a = some (.dK gs)) (hq : RepK K r F gs kvs) (fa : F a = none) :
    HR K r (upd F a (.frz od (.dK gs))) (upd H a (.frz od (.dK gs))) (m.set k (.fz kvs)) ∧ Same F (upd F a (.frz od (.dK gs))) := by
  have s1 : Same F (upd F a (.frz od (.dK gs))) := fun b u e => by rw [upd_ne (ne_of_none e fa)]; exact e
  have lk : live m k := ⟨_, hk, rfl⟩
  have hkl : k < m.length := live_lt lk
  refine ⟨⟨by simp [hr.len], fun b u e => ?_, fun l b c e1 e2 ng => ?_, fun l l' b e1 e2 l1 l2 => hr.inj l l' b e1 e2 (live_fz l1).1 (live_fz l2).1, fun l b xs e1 e2 => ?_, fun i j b x y e1 e2 z1 z2 => ?_⟩, s1⟩
  · by_cases hb : b = a
    · subst hb; rw [upd_same] at e ⊢; exact e
    · rw [upd_ne hb] at e ⊢; exact hr.sub b u e
  · obtain ⟨ll, hl⟩ := live_fz ⟨c, e2, ng⟩
    rw [List.getElem?_set_ne (fun z => hl z.symm)] at e2
    have nb : b ≠ a := fun z => hl (hr.inj l k a (by rw [e1, z]) ea ll lk)
    obtain ⟨q1, q2⟩ := hr.cell l b c e1 e2 ng
    refine ⟨by rw [upd_ne nb]; exact q1, (q2.mono (Pre.refl r) s1).heap fun x o hx w => ?_⟩
    have : x ≠ a := by
      rintro rfl
      rcases w with w | w
      · exact nb w.symm
      · subst w; rw [hg] at hx; cases hx
    rw [upd_ne this]; exact hx
  · by_cases hl : k = l
    · subst hl
      rw [List.getElem?_set_self hkl] at e2
      cases e2
      rw [ea] at e1
      cases e1
      exact ⟨od, gs, upd_same, hq.mono (Pre.refl r) s1⟩
    · rw [List.getElem?_set_ne hl] at e2
      obtain ⟨od', gs', q1, q2⟩ := hr.fz l b xs e1 e2
      exact ⟨od', gs', s1 _ _ q1, q2.mono (Pre.refl r) s1⟩
  · have old : ∀ (i : Nat) x, r[i]? = some b → (m.set k (.fz kvs))[i]? = some (.fz x) → i = k ∧ b = a ∨ m[i]? = some (.fz x) ∧ b ≠ a := fun i x e1 e2 => by
      by_cases hl : k = i
      · subst hl
        rw [ea] at e1
        cases e1
        exact .inl ⟨rfl, rfl⟩
      · rw [List.getElem?_set_ne hl] at e2
        obtain ⟨_, _, q, _⟩ := hr.fz i b x e1 e2
        exact .inr ⟨e2, ne_of_none q fa⟩
    rcases old i x e1 z1 with ⟨w1, w2⟩ | ⟨w1, w2⟩ <;> rcases old j y e2 z2 with ⟨w3, w4⟩ | ⟨w3, w4⟩
    · rw [w1, w3]
    · exact absurd w2 w4
    · exact absurd w4 w2
    · exact hr.fzi i j b x y e1 e2 w1 w3
theorem lock_out (hr : HR K r F H m) (ea : r[k]? = some a) (hk : m[k]? = some (.dK kvs)) (hg : H a = some (.dK gs)) (fa : F a = none)
    (hr' : HR K r' F' H' m') (x : Ext r (upd F a (.frz od (.dK gs))) (upd H a (.frz od (.dK gs))) (m.set k (.fz kvs)) r' F' H' m') (hk' : m'[k]? = some (.fz kvs')) :
    F' a = some (.frz od (.dK gs)) ∧ H' a = some (.frz od (.dK gs)) ∧ HR K r' (delF F' a) (upd H' a (.dK gs)) (m'.set k (.dK kvs')) ∧ Ext r F H m r' (delF F' a) (upd H' a (.dK gs)) (m'.set k (.dK kvs')) := by
  have f1 : F' a = some (.frz od (.dK gs)) := x.sub _ _ upd_same
  have h1 : H' a = some (.frz od (.dK gs)) := hr'.sub _ _ f1
  have ea' : r'[k]? = some a := x.pre _ _ ea
  have hkl : k < m'.length := (List.getElem?_eq_some_iff.mp hk').1
  have lk : live m k := ⟨_, hk, rfl⟩
  have liv : ∀ l, live (m'.set k (.dK kvs')) l → l = k ∨ live m' l := fun l ⟨c, e, ng⟩ => by
    by_cases hl : k = l
    · exact .inl hl.symm
    · rw [List.getElem?_set_ne hl] at e; exact .inr ⟨c, e, ng⟩
  have nla : ∀ l : Nat, live m' l → r'[l]? ≠ some a := fun l ⟨c, e, ng⟩ e1 => by
    have := (hr'.cell l a c e1 e ng).1
    rw [f1] at this; cases this
  obtain ⟨od', gs', q1, q2⟩ := hr'.fz k a kvs' ea' hk'
  rw [f1] at q1
  cases q1
  refine ⟨f1, h1, ⟨by simp [hr'.len], fun b u e => ?_, fun l b c e1 e2 ng => ?_, fun l l' b e1 e2 l1 l2 => ?_, fun l b xs e1 e2 => ?_, fun i j b u w e1 e2 z1 z2 => ?_⟩, ⟨x.pre, fun b u e => ?_, fun b u e n => ?_, fun b n e => ?_, fun l b hl e => ?_, fun l hl ll => ?_, by simpa using x.mlen, fun b u e => ?_⟩⟩
  · by_cases hb : b = a
    · subst hb; rw [delF_same] at e; cases e
    · rw [delF_ne hb] at e; rw [upd_ne hb]; exact hr'.sub b u e
  · by_cases hl : k = l
    · subst hl
      rw [List.getElem?_set_self hkl] at e2
      cases e2
      rw [ea'] at e1
      cases e1
      exact ⟨delF_same, gs, upd_same, q2.del f1⟩
    · rw [List.getElem?_set_ne hl] at e2
      have nb : b ≠ a := fun z => nla l ⟨c, e2, ng⟩ (by rw [e1, z])
      obtain ⟨p1, p2⟩ := hr'.cell l b c e1 e2 ng
      refine ⟨by rw [delF_ne nb]; exact p1, (p2.del f1).heap fun y o hy w => ?_⟩
      have : y ≠ a := by
        rintro rfl
        rcases w with w | w
        · exact nb w.symm
        · subst w; rw [h1] at hy; cases hy
      rw [upd_ne this]; exact hy
  · rcases liv l l1 with rfl | z1
    · rcases liv l' l2 with rfl | z2
      · rfl
      · rw [ea'] at e1; cases e1; exact absurd e2 (nla l' z2)
    · rcases liv l' l2 with rfl | z2
      · rw [ea'] at e2; cases e2; exact absurd e1 (nla l z1)
      · exact hr'.inj l l' b e1 e2 z1 z2
  · by_cases hl : k = l
    · subst hl
      rw [List.getElem?_set_self hkl] at e2
      cases e2
    · rw [List.getElem?_set_ne hl] at e2
      obtain ⟨od2, gs2, p1, p2⟩ := hr'.fz l b xs e1 e2
      have nb : b ≠ a := fun z => hl (hr'.fzi k l a _ _ ea' (by rw [e1, z]) hk' e2)
      exact ⟨od2, gs2, by rw [delF_ne nb]; exact p1, p2.del f1⟩
  · have old : ∀ (i : Nat) x, (m'.set k (.dK kvs'))[i]? = some (.fz x) → m'[i]? = some (.fz x) := fun i x e2 => by
      by_cases hl : k = i
      · subst hl
        rw [List.getElem?_set_self hkl] at e2
        cases e2
      · rw [List.getElem?_set_ne hl] at e2
        exact e2
    exact hr'.fzi i j b u w e1 e2 (old i u z1) (old j w z2)
  · have nb : b ≠ a := ne_of_none e fa
    rw [delF_ne nb]
    exact x.sub b u (by rw [upd_ne nb]; exact e)
  · have nb : b ≠ a := fun z => n k lk (by rw [ea, z])
    rw [upd_ne nb]
    exact x.keep b u (by rw [upd_ne nb]; exact e) fun l ll => n l (live_fz ll).1
  · by_cases hb : b = a
    · subst hb; exact absurd delF_same e
    · rw [delF_ne hb] at e
      rcases x.new b (by rw [upd_ne hb]; exact n) e with z | ⟨l, ll, z⟩
      · rw [upd_ne hb] at z; exact .inl z
      · exact .inr ⟨l, (live_fz ll).1, z⟩
  · have := x.fresh l b (by simpa using hl) e
    by_cases hb : b = a
    · subst hb; rw [upd_same] at this; cases this
    · rw [upd_ne hb] at this; exact this
  · rcases liv l ll with rfl | z
    · exact lk
    · exact (live_fz (x.dead l (by simpa using hl) z)).1
  · by_cases hb : b = a
    · subst hb; exact ⟨_, upd_same⟩
    · obtain ⟨o', e'⟩ := x.trk b u (by rw [upd_ne hb]; exact e)
      exact ⟨o', by rw [upd_ne hb]; exact e'⟩
end
/-! ### the lock -/
def keyOf : Key → D
  | .inl i => .int i
  | .inr x => .str x
section
variable {K : PySem.W.Frag} {W : WX} {r r' : List Addr} {F H F' H' : Hp} {m m' : Store} {k : Nat} {a : Addr} {kvs kvs' : List (Key × D)} {gs : List (Key × V)} {od : Obj}
theorem rep_key (x : Key) : Rep K r F (kV x) (keyOf x) := by
  cases x with
  | inl i => exact .int i
  | inr x => exact .str x
theorem repK_at : ∀ {gs : List (Key × V)} {kvs : List (Key × D)} {i : Nat} {x : Key} {v : V}, RepK K r F gs kvs → gs[i]? = some (x, v) → ∃ d, kvs[i]? = some (x, d)
  | [], [], _, _, _, _, e => by simp at e
  | (x, v) :: gs, (y, d) :: fs, 0, _, _, h, e => by
    have := h.1
    subst this
    simp at e
    obtain ⟨rfl, rfl⟩ := e
    exact ⟨d, rfl⟩
  | (x, v) :: gs, (y, d) :: fs, i + 1, _, _, h, e => by
    obtain ⟨d', h'⟩ := repK_at (i := i) h.2.2 (by simpa using e)
    exact ⟨d', by simpa using h'⟩
  | [], _ :: _, _, _, _, h, _ => h.elim
  | _ :: _, [], _, _, _, h, _ => h.elim
/-- over the keys of a dict that is locked -/
def wKeys (a : ME) : MI := fun δ m => (a δ m).bind fun x m => match x with
  | .cell k => match m[k]? with
    | some (.fz kvs) => ret ⟨kvs.map fun kv => keyOf kv.1, []⟩ m
    | _ => none
  | _ => none
theorem itk_ok {C : Store → Prop} (hf : F a = some (.frz od (.dK gs))) (hq : RepK K r F gs kvs) : ItOk K C (Itk a od gs) r F (kvs.map fun kv => keyOf kv.1) := fun r' F' H' m' h1 h2 h3 _ i => by
  have hH : H' a = some (.frz od (.dK gs)) := h3.sub _ _ (h2 _ _ hf)
  have hl := rep_len hq
  constructor
  · intro d hd
    rw [List.getElem?_map] at hd
    cases h0 : kvs[i]? with
    | none => rw [h0] at hd; cases hd
    | some c =>
      rw [h0] at hd
      cases hd
      have hi : i < kvs.length := (List.getElem?_eq_some_iff.mp h0).1
      refine ⟨⟨hH, by omega⟩, fun x H'' hy => ?_⟩
      obtain ⟨rfl, y, v, e, rfl⟩ := hy
      obtain ⟨d', e'⟩ := repK_at hq e
      rw [h0] at e'
      cases e'
      exact ⟨F', h3, Ext.refl h3, rep_key y⟩
  · intro hl'
    rw [List.length_map] at hl'
    exact ⟨hH, by omega⟩
theorem so_wKeys {ta : TE} {a : ME} (ha : So K W (RE K) ta a) : So K W (RI K) (iKeys ta) (wKeys a) :=
  So.bind ri_mon ha (k := fun (x : D) δ m => match x with
    | .cell k => match m[k]? with
      | some (.fz kvs) => ret (Wk.mk (kvs.map fun kv => keyOf kv.1) []) m
      | _ => none
    | _ => none) (u := fun (x : V) σ H1 R => ∃ d o, x = .ref d ∧ ((∃ kvs, H1 d = some (.frz o (.dK kvs)) ∧ R (Itk d o kvs) H1) ∨ ∃ kvs, H1 d = some (.frz o (.dT kvs)) ∧ R (Itkt d o kvs) H1)) fun x δ m res m' e v r F H σ _ hr er rv => by
    cases x with
    | cell k =>
      dsimp only at e
      split at e
      · rename_i kvs hk
        cases e
        cases rv with
        | cell ea =>
          obtain ⟨od, gs, h1, h2⟩ := hr.fz _ _ _ ea hk
          exact fun Q q => ⟨_, od, rfl, .inl ⟨gs, hr.sub _ _ h1, q _ r F H hr (Ext.refl hr) (itk_ok h1 h2)⟩⟩
      · cases e
    | _ => cases e
theorem lock_ext (hr : HR K r F H m) (ea : r[k]? = some a) (hk : m[k]? = some (.dK kvs)) (fa : F a = none) : Ext r F H m r (upd F a (.frz od (.dK gs))) (upd H a (.frz od (.dK gs))) (m.set k (.fz kvs)) := by
  have lk : live m k := ⟨_, hk, rfl⟩
  refine ⟨Pre.refl r, fun b u e => by rw [upd_ne (ne_of_none e fa)]; exact e, fun b u e n => by rw [upd_ne (fun z => n k lk (by rw [ea, z]))]; exact e, fun b n e => ?_, fun l b hl e => ?_, fun l _ ll => (live_fz ll).1, by simp, fun b u e => ?_⟩
  · by_cases hb : b = a
    · subst hb; exact .inr ⟨k, lk, ea⟩
    · rw [upd_ne hb] at e; exact absurd n e
  · have := (List.getElem?_eq_some_iff.mp e).1
    rw [hr.len] at this
    omega
  · by_cases hb : b = a
    · subst hb; exact ⟨_, upd_same⟩
    · exact ⟨u, by rw [upd_ne hb]; exact e⟩
/-- which dict -/
def lockAt (e : ME) (δ : En) (m : Store) : Option (Nat × List (Key × D)) := match e δ m with
  | some (.ok d, _) => cellK m d
  | _ => none
def unlock (k : Nat) (m : Store) : Option Store := match m[k]? with
  | some (.fz kvs) => some (m.set k (.dK kvs))
  | _ => none
def OT.unlock (k : Nat) : OT → Option OT
  | .nx δ m => (DL.unlock k m).map fun m => .nx δ m
  | .rt d m => (DL.unlock k m).map fun m => .rt d m
  | .bk δ m => (DL.unlock k m).map fun m => .bk δ m
  | .ct δ m => (DL.unlock k m).map fun m => .ct δ m
  | .ex x δ m => (DL.unlock k m).map fun m => .ex x δ m
def sLock (e : ME) (s : MS) : MS := fun δ m => match lockAt e δ m with
  | some (k, kvs) => (s δ (m.set k (.fz kvs))).bind fun o => o.unlock k
  | none => none
def RX.unlock {α : Type} (k : Nat) : RX α × Store → MX α
  | (.ok a, m) => (DL.unlock k m).map fun m => (.ok a, m)
  | (.ex x, m) => some (.ex x, m)
def eLock (e : ME) (s : ME) : ME := fun δ m => match lockAt e δ m with
  | some (k, kvs) => Option.bind (s δ (m.set k (.fz kvs))) (RX.unlock k)
  | none => none
def fLock (e : ME) (s : MF) : MF := fun δ m => match lockAt e δ m with
  | some (k, kvs) => Option.bind (s δ (m.set k (.fz kvs))) (RX.unlock k)
  | none => none
theorem lockAt_get {e : ME} {δ : En} (h : lockAt e δ m = some (k, kvs)) (hr : HR K r F H m) : ∃ a gs, r[k]? = some a ∧ m[k]? = some (.dK kvs) ∧ F a = none ∧ H a = some (.dK gs) ∧ RepK K r F gs kvs := by
  unfold lockAt at h
  split at h
  · rename_i d m1 _
    cases d with
    | cell k' =>
      unfold cellK at h
      dsimp only at h
      split at h
      · rename_i ys e'
        cases h
        have hk : k < r.length := by rw [hr.len]; exact (List.getElem?_eq_some_iff.mp e').1
        obtain ⟨q0, gs, q1, q2⟩ := hr.cell k r[k] _ (List.getElem?_eq_getElem hk) e' rfl
        exact ⟨_, gs, List.getElem?_eq_getElem hk, e', q0, q1, q2⟩
      · cases h
    | _ => cases h
  · cases h
theorem unlock_get {m1 : Store} (h : unlock k m = some m1) : ∃ kvs, m[k]? = some (.fz kvs) ∧ m1 = m.set k (.dK kvs) := by
  unfold unlock at h
  split at h
  · rename_i kvs e
    cases h
    exact ⟨kvs, e, rfl⟩
  · cases h
/-- the lock, opened by an exception, too -/
def tLockX (t : WX → TS) (W : WX) : TS := fun D σ H => ∃ d u, H d = some u ∧ Mut (some u) ∧ ∀ od, t (fun C e σ' H' => H' d = some (.frz od u) ∧ W C e σ' (upd H' d u)) ⟨fun σ' H' => H' d = some (.frz od u) ∧ D.nx σ' (upd H' d u), fun v H' => H' d = some (.frz od u) ∧ D.rt v (upd H' d u), fun σ' H' => H' d = some (.frz od u) ∧ D.bk σ' (upd H' d u), fun σ' H' => H' d = some (.frz od u) ∧ D.ct σ' (upd H' d u)⟩ σ (upd H d (.frz od u))
theorem takes_lock {X : Cx} {W : WX} {d : Addr} {od : Obj} {u : HO} (tk : Takes X W) (hn : ∀ o' u', X.H_0 d ≠ some (.frz o' u')) : Takes X (fun C e σ H => H d = some (.frz od u) ∧ W C e σ (upd H d u)) := fun v s' ⟨a, B, sI, pins, σ, H, cls, e, e1, I, nb, up, sky, na, os, ag, hd, w⟩ =>
  tk v s' ⟨a, B, sI, pins, σ, upd H d u, cls, e, e1, I.unlock hd hn, nb, up, sky, by rw [upd_ne (fun z => by rw [z, hd] at na; cases na)]; exact na, os, ag, w⟩
theorem ps_lockX {X : Cx} {W : WX} {st : Stmt} {t : WX → TS} (tk : Takes X W) (h : ∀ W', Takes X W' → PS X st (t W')) : PS X st (tLockX t W) := by
  refine ⟨fun pins s σ H D I hw => ?_⟩
  obtain ⟨d, u, hd, mu, hw⟩ := hw
  obtain ⟨od, I1⟩ := I.lock hd mu
  have hn := I.nofrz hd mu
  refine thn ((h _ (takes_lock (od := od) (u := u) tk hn)).run pins s σ _ _ I1 (hw od)) fun f s1 q => ?_
  cases f with
  | next => obtain ⟨σ', H', I2, e, q⟩ := q; exact ⟨σ', _, I2.unlock e hn, q⟩
  | brk => obtain ⟨σ', H', I2, e, q⟩ := q; exact ⟨σ', _, I2.unlock e hn, q⟩
  | cont => obtain ⟨σ', H', I2, e, q⟩ := q; exact ⟨σ', _, I2.unlock e hn, q⟩
  | ret v => obtain ⟨x, σ', H', I2, r, e, q⟩ := q; exact ⟨x, σ', _, I2.unlock e hn, r, q⟩
theorem ss_lockX {t : WX → TS} {e : ME} {s : MS} (hs : SS K t s) : SS K (fun W => tLockX t W) (sLock e s) := fun W δ m o q r F H σ D hr er h => by
  unfold sLock at q
  split at q
  · rename_i k kvs hl
    obtain ⟨a, gs, ea, hk, fa, hg, hq⟩ := lockAt_get hl hr
    cases ho : s δ (m.set k (.fz kvs)) with
    | none => rw [ho] at q; cases q
    | some o1 =>
      rw [ho] at q
      refine ⟨a, .dK gs, hg, trivial, fun od => ?_⟩
      obtain ⟨hr1, sm⟩ := lock_in (od := od) hr ea hk hg hq fa
      have er1 := er.mono (Pre.refl r) sm
      refine hs _ δ _ o1 ho r _ _ σ _ hr1 er1 ?_
      cases o1 with
      | nx δ1 m1 =>
        cases hu : unlock k m1 with
        | none => simp [OT.unlock, hu] at q
        | some m2 =>
          simp [OT.unlock, hu] at q
          subst q
          obtain ⟨kvs', hk', rfl⟩ := unlock_get hu
          intro σ' r' F' H' hr' er' x
          obtain ⟨f1, h1, hr2, x2⟩ := lock_out hr ea hk hg fa hr' x hk'
          exact ⟨h1, h σ' r' _ _ hr2 (er'.del f1) x2⟩
      | rt d m1 =>
        cases hu : unlock k m1 with
        | none => simp [OT.unlock, hu] at q
        | some m2 =>
          simp [OT.unlock, hu] at q
          subst q
          obtain ⟨kvs', hk', rfl⟩ := unlock_get hu
          intro v r' F' H' hr' x p
          obtain ⟨f1, h1, hr2, x2⟩ := lock_out hr ea hk hg fa hr' x hk'
          exact ⟨h1, h v r' _ _ hr2 x2 (p.del f1)⟩
      | bk δ1 m1 =>
        cases hu : unlock k m1 with
        | none => simp [OT.unlock, hu] at q
        | some m2 =>
          simp [OT.unlock, hu] at q
          subst q
          obtain ⟨kvs', hk', rfl⟩ := unlock_get hu
          intro σ' r' F' H' hr' er' x
          obtain ⟨f1, h1, hr2, x2⟩ := lock_out hr ea hk hg fa hr' x hk'
          exact ⟨h1, h σ' r' _ _ hr2 (er'.del f1) x2⟩
      | ct δ1 m1 =>
        cases hu : unlock k m1 with
        | none => simp [OT.unlock, hu] at q
        | some m2 =>
          simp [OT.unlock, hu] at q
          subst q
          obtain ⟨kvs', hk', rfl⟩ := unlock_get hu
          intro σ' r' F' H' hr' er' x
          obtain ⟨f1, h1, hr2, x2⟩ := lock_out hr ea hk hg fa hr' x hk'
          exact ⟨h1, h σ' r' _ _ hr2 (er'.del f1) x2⟩
      | ex x δ1 m1 =>
        cases hu : unlock k m1 with
        | none => simp [OT.unlock, hu] at q
        | some m2 =>
          simp [OT.unlock, hu] at q
          subst q
          obtain ⟨kvs', hk', rfl⟩ := unlock_get hu
          intro σ' r' F' H' hr' er' x'
          obtain ⟨f1, h1, hr2, x2⟩ := lock_out hr ea hk hg fa hr' x' hk'
          exact ⟨h1, h σ' r' _ _ hr2 (er'.del f1) x2⟩
  · cases q
theorem OwnL.del {us : List (Key × V)} {u : HO} (hf : F a = some (.frz od (.dK us))) (hg : H a = some (.frz od (.dK us))) : ∀ {vs : List V} {fs : List F1} {as : List Addr}, OwnL K r F H vs fs as → OwnL K r (delF F a) (upd H a u) vs fs as
  | _, _, _, .nil => .nil
  | _, _, _, .pl h t => .pl (h.del hf) (t.del hf hg)
  | _, _, _, .own h q t => .own (by
      rw [upd_ne]
      · exact h
      · rintro rfl
        rw [hg] at h; cases h) (q.del hf) (t.del hf hg)
theorem OwnT.del {us : List (Key × V)} {u : HO} {v : V} {as : List Addr} (hf : F a = some (.frz od (.dK us))) (hg : H a = some (.frz od (.dK us))) : ∀ {ft : FT}, OwnT K r F H v ft as → OwnT K r (delF F a) (upd H a u) v ft as
  | .pl d, ⟨h, e⟩ => ⟨h.del hf, e⟩
  | .own xs, h => OwnL.del hf hg h
  | .tup fs, ⟨p, vs, e, h, q⟩ => ⟨p, vs, e, (del_some hf h fun _ _ z => nomatch z), OwnL.del hf hg q⟩
theorem so_eLock {t : TE} {e s : ME} (hs : So K W (RE K) t s) : So K W (RE K) (tLockE t) (eLock e s) := fun δ m res m' q r F H σ hr er => by
  unfold eLock at q
  split at q
  · rename_i k kvs hl
    obtain ⟨a, gs, ea, hk, fa, hg, hq⟩ := lockAt_get hl hr
    cases ho : s δ (m.set k (.fz kvs)) with
    | none => rw [ho] at q; cases q
    | some o1 =>
      rw [ho] at q
      obtain ⟨o1, m1⟩ := o1
      have key : ∀ od, HR K r (upd F a (.frz od (.dK gs))) (upd H a (.frz od (.dK gs))) (m.set k (.fz kvs)) ∧ Same F (upd F a (.frz od (.dK gs))) := fun od => lock_in hr ea hk hg hq fa
      cases o1 with
      | ok d =>
        cases hu : unlock k m1 with
        | none => simp [RX.unlock, hu] at q
        | some m2 =>
          simp [RX.unlock, hu] at q
          obtain ⟨rfl, rfl⟩ := q
          obtain ⟨kvs', hk', rfl⟩ := unlock_get hu
          intro Q h
          refine ⟨a, .dK gs, hg, trivial, fun od => ?_⟩
          obtain ⟨hr1, sm⟩ := key od
          refine hs δ _ _ _ ho r _ _ σ hr1 (er.mono (Pre.refl r) sm) _ fun v r' F' H' hr' x p => ?_
          obtain ⟨f1, h1, hr2, x2⟩ := lock_out hr ea hk hg fa hr' x hk'
          exact ⟨h1, h v r' _ _ hr2 x2 (Rep.del f1 p)⟩
      | ex x =>
        cases q
        intro h Q
        refine ⟨a, .dK gs, hg, trivial, fun od => ?_⟩
        obtain ⟨hr1, sm⟩ := key od
        exact hs δ _ _ _ ho r _ _ σ hr1 (er.mono (Pre.refl r) sm) (fun r' F' H' hr' x' => h r' F' H' hr' ((lock_ext hr ea hk fa).trans hr1.len hr.len x')) _
  · cases q
theorem so_fLock {t : TE} {e : ME} {s : MF} (hs : So K W (RF K) t s) : So K W (RF K) (tLockE t) (fLock e s) := fun δ m res m' q r F H σ hr er => by
  unfold fLock at q
  split at q
  · rename_i k kvs hl
    obtain ⟨a, gs, ea, hk, fa, hg, hq⟩ := lockAt_get hl hr
    cases ho : s δ (m.set k (.fz kvs)) with
    | none => rw [ho] at q; cases q
    | some o1 =>
      rw [ho] at q
      obtain ⟨o1, m1⟩ := o1
      have key : ∀ od, HR K r (upd F a (.frz od (.dK gs))) (upd H a (.frz od (.dK gs))) (m.set k (.fz kvs)) ∧ Same F (upd F a (.frz od (.dK gs))) := fun od => lock_in hr ea hk hg hq fa
      cases o1 with
      | ok d =>
        cases hu : unlock k m1 with
        | none => simp [RX.unlock, hu] at q
        | some m2 =>
          simp [RX.unlock, hu] at q
          obtain ⟨rfl, rfl⟩ := q
          obtain ⟨kvs', hk', rfl⟩ := unlock_get hu
          intro Q h
          refine ⟨a, .dK gs, hg, trivial, fun od => ?_⟩
          obtain ⟨hr1, sm⟩ := key od
          refine hs δ _ _ _ ho r _ _ σ hr1 (er.mono (Pre.refl r) sm) _ fun v r' F' H' hr' x ⟨as, p1, p2, p3⟩ => ?_
          obtain ⟨f1, h1, hr2, x2⟩ := lock_out hr ea hk hg fa hr' x hk'
          refine ⟨h1, h v r' _ _ hr2 x2 ⟨as, OwnT.del f1 h1 p1, p2, fun p hp => ?_⟩⟩
          obtain ⟨n1, n2, n3⟩ := p3 p hp
          have np : p ≠ a := by
            rintro rfl
            rw [upd_same] at n1; cases n1
          refine ⟨by rw [upd_ne np] at n1; exact n1, by rw [delF_ne np]; exact n2, fun l ll e => ?_⟩
          obtain ⟨c, e1, ng⟩ := ll
          by_cases hlk : k = l
          · subst hlk
            rw [x.pre _ _ ea] at e
            cases e
            exact np rfl
          · rw [List.getElem?_set_ne hlk] at e1
            exact n3 l ⟨c, e1, ng⟩ e
      | ex x =>
        cases q
        intro h Q
        refine ⟨a, .dK gs, hg, trivial, fun od => ?_⟩
        obtain ⟨hr1, sm⟩ := key od
        exact hs δ _ _ _ ho r _ _ σ hr1 (er.mono (Pre.refl r) sm) (fun r' F' H' hr' x' => h r' F' H' hr' ((lock_ext hr ea hk fa).trans hr1.len hr.len x')) _
  · cases q
end
end DL
/-! a dict's item taken out; a list of cells compared with [] -/
namespace PySem.SeqAt
open AutoSeq1 (wpAny_loadPart')
open MeetsSeq MeetsSeq2 MeetsSeq3 SeqRoads2
section
variable {prog : Program} {w : World}
theorem dl_list_neIn (l b : Addr) (items items2 : Array Value) (n n2 : Nat) (dd dd2 : Option Addr) (sl sl2 : Array (Option Value)) (hsz : items.size ≠ items2.size) :
    MeetsIn prog w (Builtin.«list.__eq__» ⟨[.ref l, .ref b], []⟩)
      (fun A R s => s.heap.get? l = some { cls := .type "list", dict := dd, data := .seq items n, slots := sl } ∧ s.heap.get? b = some { cls := .type "list", dict := dd2, data := .seq items2 n2, slots := sl2 } ∧
        R (.ok (.ret (.bool false))) s) := by
  intro A R s h
  obtain ⟨hp, g, d, tk, os⟩ := s; obtain ⟨hl, hb, h⟩ := h
  have f3 := AutoSeq1.sub_list_list
  have hne : (items.size != items2.size) = true := by simp [hsz]
  wp_walk using wpAny_loadPart' hl, wpAny_loadPart' hb
  exact h
theorem dl_rc_ne {A : Around} {s : Shared} {l b : Addr} {items items2 : Array Value} (hl : s.heap.IsList l items) (hb : s.heap.IsList b items2) (hsz : items.size ≠ items2.size) (hu : A.units < cLine)
    (E Q : Value → Shared → Prop) (h : Q (.bool false) s) : wpAny (model prog w) A (richCompare .Eq (.ref l) (.ref b)) Q E s := by
  obtain ⟨⟨cls, dd, data, sl⟩, ho, hc, n, hd⟩ := id hl
  obtain ⟨⟨cls2, dd2, data2, sl2⟩, ho2, hc2, n2, hd2⟩ := id hb
  simp only at hc hd hc2 hd2
  subst hc hd hc2 hd2
  have ta : s.TypeIs (.ref l) "list" := ⟨_, ho, rfl⟩
  have tb : s.TypeIs (.ref b) "list" := ⟨_, ho2, rfl⟩
  exact wpAny_richCompare_same_room (op := .Eq) ta tb F.slot_list_eq (call_meetsIn F.slot_list_eq ta F.entry_list_eq (F.args_list_eq_2 _ _) (dl_list_neIn l b items items2 n n2 dd dd2 sl sl2 hsz)
    ⟨ho, ho2, show Value.bool false ≠ Value.notImplemented ∧ Q (.bool false) s from ⟨(fun x => nomatch x), h⟩⟩) hu
end
end PySem.SeqAt
namespace DL
open PySem PySem.Spec PyProof.Rows L2
/-- a list, whatever stands in it, and [] -/
def rEqNl : R2 := fun x y H Q => ∃ a b xs, x = .ref a ∧ y = .ref b ∧ H a = some (.lst xs) ∧ H b = some (.lst []) ∧ Q (.bl xs.isEmpty) H
theorem op_eqNl {X : Cx} (hu : X.A.units + 64 < cLine) : OpR X (compareOp .Eq) rEqNl := by
  intro pins s σ H x y v u Q I rx ry h
  obtain ⟨a, b, xs, rfl, rfl, ha, hb, q⟩ := h
  cases (show v = Value.ref a from rx)
  cases (show u = Value.ref b from ry)
  obtain ⟨us, r1, p1, _⟩ := I.list (.inl (.inl ha))
  obtain ⟨ws, r2, p2, _⟩ := I.list (.inl (.inl hb))
  have l1 := r1.length
  have l2 := r2.length
  have l2' : ws.length = 0 := by rw [← l2]; rfl
  cases xs with
  | nil =>
    have l1' : us.length = 0 := by rw [← l1]; rfl
    refine SeqAt.rcP_lists (e := fun _ => true) p1.isList p2.isList (by simp [l1', l2']) (by omega) (fun j h1 h2 => ?_) _ _ ?_
    · simp [l1'] at h1
    · rw [show ((List.range us.toArray.size).all fun _ => true) = true from List.all_eq_true.mpr fun _ _ => rfl]
      exact ⟨.bl true, H, I, rfl, q⟩
  | cons x xs =>
    have l1' : us.length = xs.length + 1 := by rw [← l1]; rfl
    exact SeqAt.dl_rc_ne p1.isList p2.isList (by simp [l1', l2']) (by omega) _ _ ⟨.bl false, H, I, rfl, q⟩
def pEqNl : D → D → Store → MX D := fun x y m => match x, y with
  | .cell k, .lst [] => match m[k]? with
    | some (.lst xs) => ret (.bl xs.isEmpty) m
    | _ => none
  | _, _ => none
section
variable {K : PySem.W.Frag} {W : WX}
theorem s2_pEqNl : S2 K W rEqNl pEqNl := fun x y m res m' e r F H σ vx vy hr px py => by
  unfold pEqNl at e
  split at e
  · rename_i k
    split at e
    · rename_i xs hk
      cases e
      cases px with
      | cell ea =>
        cases py with
        | lst hs ra =>
          cases ra
          obtain ⟨_, vs, h1, h2⟩ := hr.cell _ _ _ ea hk rfl
          have : xs.isEmpty = vs.isEmpty := by cases h2 <;> rfl
          exact fun Q q => ⟨_, _, vs, rfl, rfl, h1, hr.sub _ _ hs, by rw [← this]; exact q _ r F H hr (Ext.refl hr) (.bl _)⟩
    · cases e
  · cases e
def dropD (kvs : List (Key × D)) (k : Key) : List (Key × D) := kvs.filter fun kv => decide (kv.1 ≠ k)
theorem rep_drop {r : List Addr} {F : Hp} {k : Key} : ∀ {gs : List (Key × V)} {kvs : List (Key × D)}, RepK K r F gs kvs → RepK K r F (dropK gs k) (dropD kvs k)
  | [], [], _ => trivial
  | (x, v) :: gs, (y, d) :: fs, h => by
    obtain ⟨e, p, q⟩ := h
    subst e
    have ih := rep_drop (k := k) q
    unfold dropK dropD at ih ⊢
    rw [List.filter_cons, List.filter_cons]
    by_cases hx : x = k
    · rw [if_neg (by simp [hx]), if_neg (by simp [hx])]; exact ih
    · rw [if_pos (by simp [hx]), if_pos (by simp [hx])]; exact ⟨rfl, p, ih⟩
  | [], _ :: _, h => h.elim
  | _ :: _, [], h => h.elim
/-- d.pop(y) of a key that is there -/
def eDPop (a b : ME) : ME := fun δ m => (a δ m).bind fun x m => match cellK m x with
  | some _ => (b δ m).bind fun y m => match cellK m x, keyD y with
    | some p, some k => match valD p.2 k with
      | some v => ret v (m.set p.1 (.dK (dropD p.2 k)))
      | none => none
    | _, _ => none
  | none => none
theorem so_dpop {ta tb : TE} {a b : ME} (ha : So K W (RE K) ta a) (hb : So K W (RE K) tb b) : So K W (RE K) (tDPop1 ta tb) (eDPop a b) := fun δ m res m' e r F H σ hr er => by
  show JAt K W (RE K) r F H σ m (fun H Q => ta σ H fun x H1 => ∃ a, x = .ref a ∧ IsD H1 a ∧ tb σ H1 fun y H2 => ∃ kvs k v, H2 a = some (.dK kvs) ∧ y = kV k ∧ valV kvs k = some v ∧ Q v (upd H2 a (.dK (dropK kvs k)))) res m'
  rcases bind_some e with ⟨x, m1, e1, e2⟩ | ⟨y, e1, rfl⟩
  · refine (ha δ m _ _ e1 r F H σ hr er).bind (u := fun x H1 Q => ∃ a, x = .ref a ∧ IsD H1 a ∧ tb σ H1 fun y H2 => ∃ kvs k v, H2 a = some (.dK kvs) ∧ y = kV k ∧ valV kvs k = some v ∧ Q v (upd H2 a (.dK (dropK kvs k)))) re_mon hr fun v r1 F1 H1 hr1 x1 rv => ?_
    split at e2
    · rename_i p1 h0
      obtain ⟨k1, kvs1⟩ := p1
      obtain ⟨ad, gs, rfl, ea, hk, h3, h4⟩ := cellK_get h0 hr1 rv
      have isd : IsD H1 ad := .inl ⟨gs, .inl h3⟩
      rcases bind_some e2 with ⟨y, m2, e3, e4⟩ | ⟨y, e3, rfl⟩
      · split at e4
        · rename_i p2 k h5 h6
          obtain ⟨k2, kvs2⟩ := p2
          split at e4
          · rename_i v h7
            cases e4
            intro Q q
            refine ⟨ad, rfl, isd, hb δ m1 _ _ e3 r1 F1 H1 σ hr1 (er.ext x1) _ fun yv r2 F2 H2 hr2 x2 ry => ?_⟩
            obtain ⟨ad2, gs2, e5, ea2, hk2, h8, h9⟩ := cellK_get h5 hr2 (rv.mono x2.pre x2.sub)
            cases e5
            cases keyD_get h6 ry
            rcases rep_val (k := k) h9 with ⟨v', d', e6, e7, p'⟩ | ⟨e6, e7⟩
            · rw [h7] at e7
              cases e7
              have lv : live m2 k2 := ⟨_, hk2, rfl⟩
              have z1 : HR K r2 F2 (upd H2 ad (.dK (dropK gs2 k))) (m2.set k2 (.dK (dropD kvs2 k))) := hr2.put lv ea2 (fun b z => by rw [h8] at z; cases z) ⟨_, upd_same, rep_drop h9⟩
              exact ⟨gs2, k, v', h8, rfl, e6, q v' r2 F2 _ z1 (x2.trans hr2.len hr1.len (Ext.put hr2 lv ea2)) p'⟩
            · rw [h7] at e7; cases e7
          · cases e4
        · cases e4
      · exact fun q Q => ⟨ad, rfl, isd, hb δ m1 _ _ e3 r1 F1 H1 σ hr1 (er.ext x1) q _⟩
    · cases e2
  · exact (ha δ m _ _ e1 r F H σ hr er).thrown (u := fun x H1 Q => ∃ a, x = .ref a ∧ IsD H1 a ∧ tb σ H1 fun y H2 => ∃ kvs k v, H2 a = some (.dK kvs) ∧ y = kV k ∧ valV kvs k = some v ∧ Q v (upd H2 a (.dK (dropK kvs k))))
end
end DL
/-! xs.clear(), d.copy(), tuple + tuple -/
namespace DL
open PySem PySem.Spec PyProof.Rows L2
section
variable {K : PySem.W.Frag} {W : WX}
def pClear : D → List D → Store → MX D := fun x as m => match as with
  | [] => (cellL m x).bind fun p => ret .non (m.set p.1 (.lst []))
  | _ => none
theorem sm_pClear : SM K W rClear pClear := fun x xs m res m' e r F H σ v vs hr px ps => by
  unfold pClear at e
  split at e
  · cases h0 : cellL m x with
    | none => rw [h0] at e; cases e
    | some p =>
      obtain ⟨k, ys⟩ := p
      rw [h0] at e
      cases e
      cases ps
      obtain ⟨a, ws, rfl, ea, hk, h3, h4⟩ := cellL_get h0 hr px
      have lv : live m k := ⟨_, hk, rfl⟩
      exact fun Q q => ⟨a, ws, rfl, rfl, h3, q _ r F _ (hr.put lv ea (fun b z => by rw [h3] at z; cases z) ⟨[], upd_same, .nil⟩) (Ext.put hr lv ea) .non⟩
  · cases e
/-- d.copy() -/
def rCopyD : V → List V → Hp → VK → Prop := fun x xs H Q => ∃ (a : Addr) (kvs : List (Key × V)), x = .ref a ∧ xs = [] ∧ H a = some (.dK kvs) ∧ ∀ p, H p = none → Q (.ref p) (upd H p (.dK kvs))
theorem mt_copyD {X : Cx} : MtM X "dict.copy" rCopyD := by
  intro pins s σ H x xs v us Q I rx rv h
  obtain ⟨a, kvs, rfl, rfl, hH, q⟩ := h
  cases rx
  have hus := rv.zero
  subst hus
  obtain ⟨z, lo, vs, rel, dd⟩ := dk_rd I.hok (.inl hH)
  have hm : (s.heap.objs.size == sysModules) = false := beq_eq_false_iff_ne.mpr (Nat.ne_of_gt I.big)
  refine call_meetsIn PySem.F.slot_dict_copy dd.typeIs PySem.F.entry_dict_copy (PySem.F.args_dict_copy_1 _) (meets_dict_copy (mixKind X.prog X.w) a lo) ⟨vs, dd, by rw [← rel.length]; exact z, fun h' d1 d2 hk => ?_⟩
  exact ⟨.ref s.heap.objs.size, upd H s.heap.objs.size (.dK kvs), I.laid (t' := s.toks) hk (Nat.le_refl _)
    (show ObjOk X.prog X.w _ _ _ (.dK kvs) from ⟨z, hm, vs, rel, d1⟩), rfl, q _ (I.hok.fresh (Nat.le_refl _))⟩
def eCopy (a : ME) : ME := fun δ m => (a δ m).bind fun x m => (cellK m x).bind fun p => ret (.cell m.length) (m ++ [.dK p.2])
theorem so_copy {ta : TE} {a : ME} (ha : So K W (RE K) ta a) : So K W (RE K) (tBM0 K "dict" rCopyD ta) (eCopy a) :=
  So.bind re_mon ha (k := fun (x : D) δ m => (cellK m x).bind fun p => ret (.cell m.length) (m ++ [.dK p.2])) (u := fun (x : V) σ H Q => tyV K "dict" x H ∧ rCopyD x [] H Q) fun x δ m res m' e v r F H σ _ hr er rv => by
    cases h0 : cellK m x with
    | none => rw [h0] at e; cases e
    | some q =>
      obtain ⟨j, kvs⟩ := q
      rw [h0] at e
      cases e
      obtain ⟨a, gs, rfl, ea, hk, h3, h4⟩ := cellK_get h0 hr rv
      refine fun Q q => ⟨.inr (.inr (.inl ⟨rfl, .inl ⟨gs, h3⟩⟩)), a, gs, rfl, rfl, h3, fun p hp => ?_⟩
      have h1 := hr.side (o := .dK gs) hp
      have fp : F p = none := hr.sub.free hp
      have np : ∀ (k : Nat), live m k → r[k]? ≠ some p := fun k l e => hr.ne_new hp l e rfl
      have h2 : HR K (r ++ [p]) F (upd H p (.dK gs)) (m ++ [.dK kvs]) := h1.toCell fp np ⟨gs, upd_same, h4⟩
      exact q _ _ _ _ h2 ((Ext.side hr hp).toCell hr.len hp) (.cell (by rw [← hr.len]; simp))
/-- t + u of tuples, the first not empty -/
def pCatT : D → D → Store → MX D := fun x y m => match x, y with
  | .tup xs, .tup ys => if xs ≠ [] ∧ xs.length + ys.length ≤ 100000 then ret (.tup (xs ++ ys)) m else none
  | _, _ => none
theorem s2_pCatT : S2 K W (rCatT K) pCatT := fun x y m res m' e r F H σ vx vy hr px py => by
  unfold pCatT at e
  split at e
  · rename_i xs ys
    split at e
    · rename_i hc
      cases e
      cases px with
      | tup h1 r1 =>
        cases py with
        | tup h2 r2 =>
          rename_i a1 vs1 a2 vs2
          refine fun Q q => ⟨_, _, vs1, vs2, rfl, rfl, SqT.of (hr.sub _ _ h1), SqT.of (hr.sub _ _ h2), ?_, Evl.sz_of (by rw [r1.len, r2.len]; exact hc.2), fun hn => ?_, fun _ p hp => ?_⟩
          · intro z
            rw [z] at r1
            cases r1
            exact hc.1 rfl
          · subst hn
            cases r2
            rw [List.append_nil] at q
            exact q _ r F H hr (Ext.refl hr) (.tup h1 r1)
          · have fp : F p = none := hr.sub.free hp
            have s1 : Same F (upd F p (.tup (vs1 ++ vs2))) := fun b u e => by rw [upd_ne (ne_of_none e fp)]; exact e
            exact q _ r _ _ (hr.laid hp) (Ext.laid hr hp) (.tup upd_same ((r1.app r2).mono (Pre.refl r) s1))
    · cases e
  · cases e
end
end DL
/-! text.index(sign), bools.index(b), d.update(e), xs == [] of data -/
namespace DL
open PySem PySem.Spec PyProof.Rows L2
/-- a < b < c < d as a value -/
theorem pe_chain3 {X : Cx} {a b c d : Expr} {ta tb tc td : TE} {pos : Pos} {op op' op'' : CmpOp} {r r' r'' : R2} (ho : OpR X (compareOp op) r) (ho' : OpR X (compareOp op') r') (ho'' : OpR X (compareOp op'') r'') (ha : PE X a ta) (hb : PE X b tb) (hc : PE X c tc) (hd : PE X d td)
    (hm : lastMarks [op, op', op''] [b, c, d] = false := by with_unfolding_all rfl) : PE X (.Compare a [op, op', op''] [b, c, d] pos) (tChain3 r r' r'' ta tb tc td) := by
  refine ⟨fun pins s σ H Q I h => ?_⟩
  refine Compare_chain (thn (ha.run pins s σ H _ I h) fun v s1 ⟨x, H1, I1, r1, q1⟩ => chain_link (thn (hb.run pins s1 σ H1 _ I1 q1) fun u s2 ⟨y, H2, I2, r2, q2⟩ =>
    thn (ho pins s2 σ H2 x y v u _ I2 r1 r2 q2) fun d' s3 ⟨z, H3, I3, r3, k, e, q3⟩ => ?_)) hm
  subst e
  cases r3
  refine wpAny_truthy_bool ?_
  cases k with
  | false => exact ite_ff ⟨.bl false, H3, I3, rfl, q3⟩
  | true =>
    refine ite_tt (chain_link (thn (hc.run pins s3 σ H3 _ I3 q3) fun w' s4 ⟨z', H4, I4, r4, q4⟩ => thn (ho' pins s4 σ H4 y z' u w' _ I4 r2 r4 q4) fun d' s5 ⟨z2, H5, I5, r5, k2, e2, q5⟩ => ?_))
    subst e2
    cases r5
    refine wpAny_truthy_bool ?_
    cases k2 with
    | false => exact ite_ff ⟨.bl false, H5, I5, rfl, q5⟩
    | true => exact ite_tt (chain_last (thn (hd.run pins s5 σ H5 _ I5 q5) fun w2 s6 ⟨z3, H6, I6, r6, q6⟩ => ho'' pins s6 σ H6 z' z3 w' w2 Q I6 r4 r6 q6))
abbrev rSIdx : V → List V → Hp → VK → Prop := fun x xs H Q => ∃ a b i rest, x = .str a ∧ xs = [.str b] ∧ Builtin.Str.occurrences a b 0 a.length 1 = i :: rest ∧ Q (.int (i : Nat)) H
theorem mt_sidx {X : Cx} : MtR X "str.index" rSIdx := mt_sindex
section
variable {K : PySem.W.Frag} {W : WX} {ta : TE} {tas : TA} {a : ME} {as : MA}
def eSIdx (o : ME) (as : MA) : ME := fun δ m => (o δ m).bind fun x m => match x with
  | .str z => (as δ m).bind fun xs m => match xs with
    | [.str y] => match Builtin.Str.occurrences z y 0 z.length 1 with
      | i :: _ => ret (.int (i : Nat)) m
      | [] => none
    | _ => none
  | _ => none
theorem so_sidx (ho : So K W (RE K) ta a) (hs : So K W (RA K) tas as) : So K W (RE K) (tBM K "str" rSIdx ta tas) (eSIdx a as) :=
  So.bind re_mon ho (k := fun (x : D) δ m => match x with
  | .str z => (as δ m).bind fun xs m => match xs with
    | [.str y] => match Builtin.Str.occurrences z y 0 z.length 1 with
      | i :: _ => ret (.int (i : Nat)) m
      | [] => none
    | _ => none
  | _ => none) (u := fun (x : V) σ H Q => tyV K "str" x H ∧ tas σ H fun xs H2 => rSIdx x xs H2 Q) fun x δ m res m' e v r F H σ _ hr er rv => by
    split at e
    · rename_i z
      cases rv
      refine jat_and (P := fun H => tyV K "str" (.str z) H) rfl ?_
      rcases bind_some e with ⟨xs, m1, e1, e2⟩ | ⟨y, e1, rfl⟩
      · refine (hs δ m _ _ e1 r F H σ hr er).bind re_mon hr fun vs r1 F1 H1 hr1 x1 rvs => ?_
        split at e2
        · rename_i y
          split at e2
          · rename_i i rest ho
            cases e2
            obtain ⟨w, rfl, pw⟩ := rep1 rvs
            cases pw
            exact fun Q q => ⟨z, y, i, rest, rfl, rfl, ho, q _ r1 F1 H1 hr1 (Ext.refl hr1) (.int _)⟩
          · cases e2
        · cases e2
      · exact (hs δ m _ _ e1 r F H σ hr er).thrown
    · cases e
def toBools : List D → Option (List Bool)
  | [] => some []
  | .bl b :: ds => (toBools ds).map (b :: ·)
  | _ :: _ => none
theorem toBools_map : ∀ bs : List Bool, toBools (bs.map D.bl) = some bs
  | [] => rfl
  | b :: bs => by
    show (toBools (bs.map D.bl)).map _ = _
    rw [toBools_map bs]; rfl
theorem toBools_eq : ∀ {ds : List D} {bs : List Bool}, toBools ds = some bs → ds = bs.map D.bl
  | [], _, h => by cases h; rfl
  | d :: ds, bs, h => by
    unfold toBools at h
    split at h
    · rename_i e; cases e
    · rename_i b ds' e
      cases e
      cases h1 : toBools ds with
      | none => rw [h1] at h; cases h
      | some cs =>
        rw [h1] at h
        cases h
        rw [toBools_eq h1]; rfl
    · cases h
theorem repAll_bools {r : List Addr} {F : Hp} : ∀ {bs : List Bool} {vs : List V}, RepAll K r F vs (bs.map D.bl) → vs = bs.map V.bl
  | [], _, h => by cases h; rfl
  | b :: bs, _, h => by
    cases h with
    | cons p q =>
      cases p
      rw [repAll_bools q]; rfl
def pIndexB : D → List D → Store → MX D := fun x as m => match as with
  | [.bl k] => (rdQ m x).bind fun ds => (toBools ds).bind fun ns => if ns.idxOf k < ns.length then ret (.int (ns.idxOf k : Nat)) m else none
  | _ => none
theorem sm_pIndexB : SM K W (rIndex K) pIndexB := fun x xs m res m' e r F H σ v vs hr px ps => by
  unfold pIndexB at e
  split at e
  · rename_i k
    cases h0 : rdQ m x with
    | none => rw [h0] at e; cases e
    | some ds =>
      rw [h0] at e
      simp only [Option.bind_some] at e
      cases h1 : toBools ds with
      | none => rw [h1] at e; cases e
      | some ns =>
        rw [h1] at e
        simp only [Option.bind_some] at e
        split at e
        · rename_i hlt
          cases e
          cases toBools_eq h1
          obtain ⟨p, ws, rfl, hs, ra⟩ := rdQ_get h0 hr px
          cases repAll_bools ra
          obtain ⟨y, rfl, py⟩ := rep1 ps
          cases py
          have hat : ns[ns.idxOf k]? = some k := by
            rw [List.getElem?_eq_getElem hlt]
            exact congrArg some (List.getElem_idxOf hlt)
          have ev : ∀ b c : Bool, eqV (.bl b) (.bl c) = decide (b = c) := fun b c => by cases b <;> cases c <;> rfl
          refine fun Q q => ⟨p, ns.map V.bl, .bl k, ns.idxOf k, .bl k, rfl, rfl, hs, rfl, by simp [flatV], ?_, by rw [ev]; simp, fun j z hj hz => ?_, q _ r F H hr (Ext.refl hr) (.int _)⟩
          · rw [List.getElem?_map, hat]; rfl
          · rw [List.getElem?_map] at hz
            obtain ⟨b, hb, rfl⟩ := Option.map_eq_some_iff.mp hz
            rw [ev]
            refine decide_eq_false fun hbk => ?_
            subst hbk
            have hj' : j < ns.length := (List.getElem?_eq_some_iff.mp hb).1
            have e2 : ns[j] = b := (List.getElem?_eq_some_iff.mp hb).2
            have := List.not_of_lt_findIdx (p := (· == b)) (xs := ns) hj
            simp [e2] at this
        · cases e
  · cases e
/-- xs == [] -/
def pEqNd : D → D → Store → MX D := fun x y m => match x, y with
  | .cell k, .lst [] => match m[k]? with
    | some (.lst xs) => ret (.bl xs.isEmpty) m
    | _ => none
  | .lst xs, .lst [] => ret (.bl xs.isEmpty) m
  | _, _ => none
theorem s2_pEqNd : S2 K W rEqNl pEqNd := fun x y m res m' e r F H σ vx vy hr px py => by
  unfold pEqNd at e
  split at e
  · exact s2_pEqNl _ _ m res m' (by unfold pEqNl; exact e) r F H σ vx vy hr px py
  · rename_i xs
    cases e
    cases px with
    | lst h1 r1 =>
      cases py with
      | lst h2 r2 =>
        cases r2
        rename_i a1 vs a2
        have : xs.isEmpty = vs.isEmpty := by cases r1 <;> rfl
        rw [this]
        exact fun Q q => ⟨_, _, vs, rfl, rfl, hr.sub _ _ h1, hr.sub _ _ h2, q _ r F H hr (Ext.refl hr) (.bl _)⟩
  · cases e
/-- d.update(e) -/
def rUpdD : V → List V → Hp → VK → Prop := fun x xs H Q => ∃ (a b : Addr) (kvs more : List (Key × V)), x = .ref a ∧ xs = [.ref b] ∧ a ≠ b ∧ H a = some (.dK kvs) ∧ H b = some (.dK more) ∧ kvs.length + more.length ≤ sizeLine ∧
  Q .non (upd H a (.dK (more.foldl (fun acc p => putK acc p.1 p.2) kvs)))
theorem KV.merge {κ : Type} [DecidableEq κ] {more : List (κ × V)} {ms : List (κ × Value)} (h : KV more ms) : ∀ {kvs : List (κ × V)} {vs : List (κ × Value)}, KV kvs vs → KV (more.foldl (fun acc p => putK acc p.1 p.2) kvs) (merged vs ms) := by
  unfold KV at h
  induction h with
  | nil => exact fun h => h
  | @cons p q ps qs hq t ih =>
    intro kvs vs hk
    obtain ⟨h1, h2⟩ := hq
    show KV (ps.foldl _ (putK kvs p.1 p.2)) (merged (stored vs q.1 q.2) qs)
    refine ih ?_
    rw [← h1]
    exact hk.put p.1 h2
theorem putK_len {κ : Type} [DecidableEq κ] (kvs : List (κ × V)) (k : κ) (v : V) : (putK kvs k v).length ≤ kvs.length + 1 := by
  unfold putK
  split <;> simp
theorem merge_len {κ : Type} [DecidableEq κ] : ∀ (more kvs : List (κ × V)), (more.foldl (fun acc p => putK acc p.1 p.2) kvs).length ≤ kvs.length + more.length
  | [], kvs => by simp
  | p :: more, kvs => by
    have h1 := merge_len more (putK kvs p.1 p.2)
    have h2 := putK_len kvs p.1 p.2
    simp only [List.foldl_cons, List.length_cons]
    omega
theorem mt_updD {X : Cx} : MtR X "dict.update" rUpdD := by
  intro pins s σ H x xs v us Q I rx rv h
  obtain ⟨a, b, kvs, more, rfl, rfl, hab, hH, hB, hz, q⟩ := h
  cases rx
  obtain ⟨u, rfl, ru⟩ := rv.one
  cases ru
  obtain ⟨z, hd, vs, rel, dd⟩ := dk_of I.hok hH
  obtain ⟨z2, hd2, vs2, rel2, dd2⟩ := dk_of I.hok hB
  refine call_meetsIn PySem.F.slot_dict_update dd.typeIs PySem.F.entry_dict_update (PySem.F.args_dict_update_2 _ _) (meets_dict_update (mixKind X.prog X.w) a b hab hd2)
    ⟨vs, vs2, dd, dd2, by rw [← rel.length, ← rel2.length]; exact hz, fun h' d1 d2 hs => ?_⟩
  have he : ∃ q, h'.get? a = some q := let ⟨q, _, _, hq, _⟩ := d1; ⟨q, hq⟩
  exact ⟨.non, _, d_write I (by rw [hH]; exact True.intro) hs he (dk_new (Nat.le_trans (merge_len more kvs) hz) hd (rel2.merge rel) d1), rfl, q⟩
theorem rep_merge {r : List Addr} {F : Hp} : ∀ {gs2 : List (Key × V)} {kvs2 : List (Key × D)}, RepK K r F gs2 kvs2 → ∀ {gs : List (Key × V)} {kvs : List (Key × D)}, RepK K r F gs kvs → RepK K r F (gs2.foldl (fun acc p => putK acc p.1 p.2) gs) (kvs2.foldl (fun acc p => putD acc p.1 p.2) kvs)
  | [], [], _, _, _, h => h
  | (x, v) :: gs2, (y, d) :: kvs2, h2, _, _, h => by
    obtain ⟨e, p, t⟩ := h2
    subst e
    exact rep_merge t (rep_put p h)
  | [], _ :: _, h, _, _, _ => h.elim
  | _ :: _, [], h, _, _, _ => h.elim
def eUpd (a b : ME) : ME := fun δ m => (a δ m).bind fun x m => match cellK m x with
  | some _ => (b δ m).bind fun y m => match cellK m x, cellK m y with
    | some (k, kvs), some (l, more) => if k ≠ l ∧ kvs.length + more.length ≤ 100000 then ret .non (m.set k (.dK (more.foldl (fun acc p => putD acc p.1 p.2) kvs))) else none
    | _, _ => none
  | none => none
theorem so_upd {tb : TE} {b : ME} (ha : So K W (RE K) ta a) (hb : So K W (RE K) tb b) : So K W (RE K) (tBM K "dict" rUpdD ta (tCons tb tNil)) (eUpd a b) := fun δ m res m' e r F H σ hr er => by
  show JAt K W (RE K) r F H σ m (fun H Q => ta σ H fun x H1 => tyV K "dict" x H1 ∧ tb σ H1 fun y H2 => rUpdD x [y] H2 Q) res m'
  rcases bind_some e with ⟨x, m1, e1, e2⟩ | ⟨y, e1, rfl⟩
  · refine (ha δ m _ _ e1 r F H σ hr er).bind (u := fun x H1 Q => tyV K "dict" x H1 ∧ tb σ H1 fun y H2 => rUpdD x [y] H2 Q) re_mon hr fun v r1 F1 H1 hr1 x1 rv => ?_
    split at e2
    · rename_i p1 h0
      obtain ⟨k1, kvs1⟩ := p1
      obtain ⟨ad, gs, rfl, ea, hk, h3, h4⟩ := cellK_get h0 hr1 rv
      have ty : tyV K "dict" (.ref ad) H1 := .inr (.inr (.inl ⟨rfl, .inl ⟨gs, h3⟩⟩))
      refine jat_and (P := fun H => tyV K "dict" (.ref ad) H) ty ?_
      rcases bind_some e2 with ⟨y, m2, e3, e4⟩ | ⟨y, e3, rfl⟩
      · refine (hb δ m1 _ _ e3 r1 F1 H1 σ hr1 (er.ext x1)).bind re_mon hr1 fun yv r2 F2 H2 hr2 x2 ry => ?_
        split at e4
        · rename_i k kvs l more h5 h6
          split at e4
          · rename_i hc
            cases e4
            obtain ⟨ad2, gs2, e5, ea2, hk2, h8, h9⟩ := cellK_get h5 hr2 (rv.mono x2.pre x2.sub)
            cases e5
            obtain ⟨bd, gs3, rfl, eb, hk3, h10, h11⟩ := cellK_get h6 hr2 ry
            have lv : live m2 k := ⟨_, hk2, rfl⟩
            have lb : live m2 l := ⟨_, hk3, rfl⟩
            have z1 : HR K r2 F2 (upd H2 ad (.dK (gs3.foldl (fun acc p => putK acc p.1 p.2) gs2))) (m2.set k (.dK (more.foldl (fun acc p => putD acc p.1 p.2) kvs))) := hr2.put lv ea2 (fun b z => by rw [h8] at z; cases z) ⟨_, upd_same, rep_merge h11 h9⟩
            refine fun Q q => ⟨ad, bd, gs2, gs3, rfl, rfl, fun z => ?_, h8, h10, ?_, q _ r2 F2 _ z1 (Ext.put hr2 lv ea2) .non⟩
            · rw [← z] at eb
              exact hc.1 (hr2.inj k l ad ea2 eb lv lb)
            · have := Evl.sz_of (show gs2.length + gs3.length ≤ 100000 by rw [rep_len h9, rep_len h11]; exact hc.2)
              exact this
          · cases e4
        · cases e4
      · exact (hb δ m1 _ _ e3 r1 F1 H1 σ hr1 (er.ext x1)).thrown
    · cases e2
  · exact (ha δ m _ _ e1 r F H σ hr er).thrown (u := fun x H1 Q => tyV K "dict" x H1 ∧ tb σ H1 fun y H2 => rUpdD x [y] H2 Q)
end
end DL
/-! a list, whatever stands in it, is not [] -/
namespace DL
open PySem PySem.Spec PyProof.Rows L2
def rNeNl : R2 := fun x y H Q => ∃ a b xs, x = .ref a ∧ y = .ref b ∧ H a = some (.lst xs) ∧ H b = some (.lst []) ∧ Q (.bl (!xs.isEmpty)) H
theorem op_neNl {X : Cx} (hu : X.A.units + 64 < cLine) : OpR X (compareOp .NotEq) rNeNl := by
  intro pins s σ H x y v u Q I rx ry h
  obtain ⟨a, b, xs, rfl, rfl, ha, hb, q⟩ := h
  cases (show v = Value.ref a from rx)
  cases (show u = Value.ref b from ry)
  obtain ⟨us, r1, p1, _⟩ := I.list (.inl (.inl ha))
  obtain ⟨ws, r2, p2, _⟩ := I.list (.inl (.inl hb))
  have l1 := r1.length
  have l2 := r2.length
  have l2' : ws.length = 0 := by rw [← l2]; rfl
  cases xs with
  | nil =>
    have l1' : us.length = 0 := by rw [← l1]; rfl
    refine SeqAt.RcNeAt.lists (e := fun _ => true) p1.isList p2.isList (by simp [l1', l2']) (by omega) (fun j h1 h2 => ?_) _ _ _ _ ?_
    · simp [l1'] at h1
    · rw [show ((List.range us.toArray.size).all fun _ => true) = true from List.all_eq_true.mpr fun _ _ => rfl]
      exact ⟨.bl false, H, I, rfl, q⟩
  | cons x xs =>
    have l1' : us.length = xs.length + 1 := by rw [← l1]; rfl
    exact SeqAt.RcNeAt.lists_lengths p1.isList p2.isList (by simp [l1', l2']) (by omega) _ _ _ _ ⟨.bl true, H, I, rfl, q⟩
def pNeNd : D → D → Store → MX D := fun x y m => match x, y with
  | .cell k, .lst [] => match m[k]? with
    | some (.lst xs) => ret (.bl (!xs.isEmpty)) m
    | _ => none
  | .lst xs, .lst [] => ret (.bl (!xs.isEmpty)) m
  | _, _ => none
section
variable {K : PySem.W.Frag} {W : WX}
theorem s2_pNeNd : S2 K W rNeNl pNeNd := fun x y m res m' e r F H σ vx vy hr px py => by
  unfold pNeNd at e
  split at e
  · rename_i k
    split at e
    · rename_i xs hk
      cases e
      cases px with
      | cell ea =>
        cases py with
        | lst hs ra =>
          cases ra
          obtain ⟨_, vs, h1, h2⟩ := hr.cell _ _ _ ea hk rfl
          have : xs.isEmpty = vs.isEmpty := by cases h2 <;> rfl
          exact fun Q q => ⟨_, _, vs, rfl, rfl, h1, hr.sub _ _ hs, by rw [← this]; exact q _ r F H hr (Ext.refl hr) (.bl _)⟩
    · cases e
  · rename_i xs
    cases e
    cases px with
    | lst h1 r1 =>
      cases py with
      | lst h2 r2 =>
        cases r2
        rename_i a1 vs a2
        have : xs.isEmpty = vs.isEmpty := by cases r1 <;> rfl
        rw [this]
        exact fun Q q => ⟨_, _, vs, rfl, rfl, hr.sub _ _ h1, hr.sub _ _ h2, q _ r F H hr (Ext.refl hr) (.bl _)⟩
  · cases e
end
end DL
/-! list(range(i, j)) -/
namespace DL
open PySem PySem.Spec PyProof.Rows L2
section
variable {K : PySem.W.Frag} {W : WX} {ta tb : TE}
open Classical in
noncomputable def fRg2 (a b : ME) : MF := fun δ m => (a δ m).bind fun x m => (b δ m).bind fun y m => match x, y with
  | .int i, .int j => if Rg62 i ∧ Rg62 j ∧ j - i ≤ 100000 then ret (.own (rng i (j - i).toNat)) m else none
  | _, _ => none
open Classical in
theorem so_rg2 {a b : ME} (ha : So K W (RE K) ta a) (hb : So K W (RE K) tb b) : So K W (RF K) (tLstRg (tRg2 ta tb)) (fRg2 a b) := fun δ m res m' e r F H σ hr er => by
  show JAt K W (RF K) r F H σ m (fun H Q => ta σ H fun x H1 => tb σ H1 fun y H2 => ∃ i j, x = .int i ∧ y = .int j ∧ (RgOk i j ∧ ∀ q, H2 q = none → Q (.ref q) (upd H2 q (.lst (rgV i j))))) res m'
  rcases bind_some e with ⟨x, m1, e1, e2⟩ | ⟨y, e1, rfl⟩
  · refine (ha δ m _ _ e1 r F H σ hr er).bind rf_mon hr fun v r1 F1 H1 hr1 x1 rv => ?_
    rcases bind_some e2 with ⟨y, m2, e3, e4⟩ | ⟨y, e3, rfl⟩
    · refine (hb δ m1 _ _ e3 r1 F1 H1 σ hr1 (er.ext x1)).bind rf_mon hr1 fun w r2 F2 H2 hr2 x2 rw2 => ?_
      split at e4
      · rename_i i j
        split at e4
        · rename_i hn
          cases e4
          cases rv
          cases rw2
          have h1 := hn.1
          have h2 := hn.2.1
          unfold Rg62 at h1 h2
          refine fun Q q => ⟨i, j, rfl, rfl, ⟨by omega, by omega, by omega, by omega, by omega⟩, fun p hp => ?_⟩
          obtain ⟨q1, q2, q3⟩ := rf_new (xs := rng i (j - i).toNat) hr2 hp (repAll_rg (K := K) (r := r2) (F := F2) i j)
          exact q _ r2 F2 _ q1 q2 q3
        · cases e4
      · cases e4
    · exact (hb δ m1 _ _ e3 r1 F1 H1 σ hr1 (er.ext x1)).thrown
  · exact (ha δ m _ _ e1 r F H σ hr er).thrown
end
end DL
/-! sorted of pairs of texts -/
namespace SrtQ
open PySem PyProof.Rows Srt SrtO
def ltN (a b : Str) : Bool := decide (a.cps.toList < b.cps.toList)
theorem ltN_irr {a : Str} : ltN a a = false := decide_eq_false (List.lt_irrefl _)
theorem ltN_asym {a b : Str} (h : ltN a b = true) : ltN b a = false := decide_eq_false (List.lt_asymm (of_decide_eq_true h))
theorem ltN_tr {a b c : Str} (h1 : ltN b a = false) (h2 : ltN c b = false) : ltN c a = false := by
  have x := List.not_lt.mp (of_decide_eq_false h1)
  have y := List.not_lt.mp (of_decide_eq_false h2)
  exact decide_eq_false (List.not_lt.mpr (List.le_trans x y))
theorem ltN_eq {a b : Str} (h1 : ltN a b = false) (h2 : ltN b a = false) : a = b := by
  have x := List.not_lt.mp (of_decide_eq_false h1)
  have y := List.not_lt.mp (of_decide_eq_false h2)
  have z := List.le_antisymm y x
  cases a; cases b
  congr
  exact Array.toList_inj.mp z
def ltQ (a b : Str × Str) : Bool := if a.1 = b.1 then ltN a.2 b.2 else ltN a.1 b.1
theorem ltQ_asym {a b : Str × Str} (h : ltQ a b = true) : ltQ b a = false := by
  unfold ltQ at *
  by_cases e : a.1 = b.1
  · rw [if_pos e] at h; rw [if_pos e.symm]; exact ltN_asym h
  · rw [if_neg e] at h; rw [if_neg (fun z => e z.symm)]; exact ltN_asym h
theorem ltQ_tr {a b c : Str × Str} (h1 : ltQ b a = false) (h2 : ltQ c b = false) : ltQ c a = false := by
  unfold ltQ at *
  by_cases e1 : b.1 = a.1
  · rw [if_pos e1] at h1
    by_cases e2 : c.1 = b.1
    · rw [if_pos e2] at h2
      rw [if_pos (e2.trans e1)]
      exact ltN_tr h1 h2
    · rw [if_neg e2] at h2
      rw [if_neg (fun z => e2 (z.trans e1.symm)), ← e1]
      exact h2
  · rw [if_neg e1] at h1
    by_cases e2 : c.1 = b.1
    · rw [e2, if_neg e1]; exact h1
    · rw [if_neg e2] at h2
      by_cases e3 : c.1 = a.1
      · exfalso
        rw [e3] at h2
        exact e1 (ltN_eq h1 h2)
      · rw [if_neg e3]
        exact ltN_tr h1 h2
theorem ltQ_eq {a b : Str × Str} (h1 : ltQ a b = false) (h2 : ltQ b a = false) : a = b := by
  unfold ltQ at *
  by_cases e : a.1 = b.1
  · rw [if_pos e] at h1; rw [if_pos e.symm] at h2
    exact Prod.ext e (ltN_eq h1 h2)
  · rw [if_neg e] at h1; rw [if_neg (fun z => e z.symm)] at h2
    exact absurd (ltN_eq h1 h2) e
theorem swo_q {α : Type} (k : α → Str × Str) : Swo fun v u => ltQ (k v) (k u) := ⟨fun _ _ h => ltQ_asym h, fun _ _ _ h1 h2 => ltQ_tr h1 h2⟩
def IsQ (h : Heap) (v : Value) (p : Str × Str) : Prop := ∃ a o xs n t u, v = .ref a ∧ h.get? a = some o ∧ o.cls = .type "tuple" ∧ o.data = .seq xs n ∧ xs.toList = [.str p.1 t, .str p.2 u]
theorem IsQ.keeps {h h' : Heap} {v : Value} {p : Str × Str} (q : IsQ h v p) (k : ∀ b o, h.get? b = some o → o.cls = .type "tuple" → h'.get? b = some o) : IsQ h' v p := by
  obtain ⟨a, o, xs, n, t, u, e, ho, hc, hd, hi⟩ := q
  exact ⟨a, o, xs, n, t, u, e, k _ _ ho hc, hc, hd, hi⟩
section
variable {prog : Program} {w : World} {A : Around} {E : Value → Shared → Prop} {s : Shared}
theorem lexq {b : Bool} {Q : Bool → Shared → Prop} {p q : Str × Str} {t t2 u u2 : Tok} (h : Q (ltQ p q) s) : PySem.W.KatLex prog w A b false Q ([(.str p.1 t, .str q.1 u), (.str p.2 t2, .str q.2 u2)]) 0 s := by
  unfold ltQ at h
  refine PySem.W.kat_cons (SeqAt.EqAt.str_str p.1 t q.1 u prog w _ _ ?_)
  refine PySem.W.kat_go (fun e1 => ?_) (fun e1 => ?_)
  · have e : p.1 = q.1 := by simpa using e1
    rw [if_pos e] at h
    refine PySem.W.kat_yes ?_
    refine PySem.W.kat_cons (SeqAt.EqAt.str_str p.2 t2 q.2 u2 prog w _ _ ?_)
    refine PySem.W.kat_go (fun e1 => ?_) (fun e1 => ?_)
    · have e2 : p.2 = q.2 := by simpa using e1
      rw [e2, ltN_irr] at h
      exact PySem.W.kat_yes (PySem.W.kat_nil h)
    · exact PySem.W.kat_no (oneLt_any_str h)
  · have e : ¬ p.1 = q.1 := by simpa using e1
    rw [if_neg e] at h
    exact PySem.W.kat_no (oneLt_any_str h)
theorem q_cmp {vs : List Value} {k : Value → Str × Str} (hp : ∀ v ∈ vs, IsQ s.heap v (k v)) : Cmp prog w A s (tuples' true) (fun p => p.1 ∈ vs) (lt2 fun v u => ltQ (k v) (k u)) := by
  intro p q hm hm'
  have h1 := hp _ hm
  have h2 := hp _ hm'
  show wpAny (model prog w) A (keyLt' (tuples' true) p.1 q.1) (fun r s' => s' = s ∧ r = ltQ (k p.1) (k q.1)) (fun _ _ => False) s
  generalize k p.1 = ns at h1 ⊢
  generalize k q.1 = ms at h2 ⊢
  obtain ⟨a, o, xs, n, t, u, e, ho, hc, hd, hi⟩ := h1
  obtain ⟨a', o', xs', n', t', u', e', ho', hc', hd', hi'⟩ := h2
  rw [e, e']
  refine PySem.W.kat_lt ho hd ho' hd' ?_
  have z1 : xs.size = 2 := by rw [← Array.length_toList, hi]; rfl
  have z2 : xs'.size = 2 := by rw [← Array.length_toList, hi']; rfl
  rw [show decide (xs.size < xs'.size) = false from decide_eq_false (by omega), hi, hi']
  exact lexq ⟨rfl, rfl⟩
theorem firstq {h : Heap} {k : Value → Str × Str} : ∀ {vs : List Value}, (∀ v ∈ vs, IsQ h v (k v)) → ∃ fs : List Value, PySem.W.KatTups h vs fs ∧ fs.length = vs.length ∧ ∀ f ∈ fs, ∃ x t, f = Value.str x t
  | [], _ => ⟨[], PySem.W.KatTups.nil, rfl, fun _ hm => by simp at hm⟩
  | v :: vs, hp => by
    obtain ⟨fs, h1, h2, h3⟩ := firstq (vs := vs) fun v' hm => hp v' (List.mem_cons_of_mem _ hm)
    obtain ⟨a, o, xs, n, t, u, e, ho, hc, hdt, hi⟩ := hp v (List.mem_cons_self ..)
    generalize k v = ns at hi
    subst e
    have h0 : xs[0]? = some (Value.str ns.1 t) := by
      rw [← Array.getElem?_toList, hi]; rfl
    refine ⟨.str ns.1 t :: fs, PySem.W.KatTups.cons ho hc hdt h0 h1, by rw [List.length_cons, List.length_cons, h2], fun f hm => ?_⟩
    rcases List.mem_cons.mp hm with rfl | hm
    · exact ⟨_, t, rfl⟩
    · exact h3 f hm
theorem q_sortable {a : Addr} {vs : List Value} {k : Value → Str × Str} (h0 : 0 < vs.length) (hp : ∀ v ∈ vs, IsQ s.heap v (k v)) (ha : ∀ o, s.heap.get? a = some o → o.cls ≠ .type "tuple") : SortableO prog w A s a vs fun v u => ltQ (k v) (k u) := by
  intro h' keep
  have hp' : ∀ v ∈ vs, IsQ h' v (k v) := fun v hm => (hp v hm).keeps fun b o e c => keep b o (fun z => by subst z; exact ha o e c) e
  obtain ⟨fs, h1, h2, h3⟩ := firstq hp'
  refine ⟨tuples' true, fun Q E hq => ?_, q_cmp hp'⟩
  refine PySem.W.kat_kind (T := .type "str") h1 (by omega) (fun f hm => ?_) (by rfl) ?_
  · obtain ⟨x, t, rfl⟩ := h3 f hm
    exact PySem.W.Looks.now
  · have e : (Value.type "str" != Value.type "tuple") = true := by first | decide +kernel | rfl | decide
    rw [e]
    exact hq
theorem sorted_q {l : Addr} {vs : List Value} {k : Value → Str × Str} {Q : Value → Shared → Prop} (hl : s.heap.IsList l vs.toArray) (hz : vs.length ≤ sizeLine) (hp : ∀ v ∈ vs, IsQ s.heap v (k v))
    (h : ∀ (h' : Heap) (p : Addr) (out : List Value), Srtd (fun v u => ltQ (k v) (k u)) out → Stb (fun v u => ltQ (k v) (k u)) out vs → (∀ b o, s.heap.get? b = some o → h'.get? b = some o) → s.heap.objs.size ≤ p → (∃ n, h'.get? p = some (seqObj "list" out.toArray n)) → Q (.ref p) { s with heap := h' }) :
    wpAny (model prog w) A (call (.builtin "sorted") [.ref l]) Q E s := by
  refine sorted_ord (swo_q k) hl hz (fun h2 h₁ a ha kk => ?_) fun out hs hb => ?_
  · refine q_sortable (s := { s with heap := h₁ }) (by omega) (fun v hm => (hp v hm).keeps fun b o e _ => (kk b o e).2) fun o e => ?_
    have e' : some o = some (seqObj "list" vs.toArray 0) := e.symm.trans ha
    cases e'
    intro c
    exact absurd (Value.type.inj c) (by decide)
  · exact h _ _ out hs hb (fun b o e => sortedAll_old e) (Nat.le_succ _) (sortedAll_at s.heap vs out.toArray)
end
end SrtQ
namespace DL
open PySem PySem.Spec PyProof.Rows L2
def rSortedQ (K : PySem.W.Frag) : List V → Hp → VK → Prop := fun vs H Q => ∃ (a : Addr) (xs : List V) (k : V → Str × Str), vs = [V.ref a] ∧ SqL K H a xs ∧ (∀ x ∈ xs, ∃ t, x = V.ref t ∧ H t = some (.tup [V.str (k x).1, V.str (k x).2])) ∧
  ∀ ys p, SrtO.Srtd (fun x y => SrtQ.ltQ (k x) (k y)) ys → SrtO.Stb (fun x y => SrtQ.ltQ (k x) (k y)) ys xs → H p = none → Q (.ref p) (upd H p (.lst ys))
section
variable {X : Cx}
theorem cr_sortedQ : CallR X (.builtin "sorted") (rSortedQ X.K) := by
  intro pins s σ H vs us Q I r h
  obtain ⟨a, xs, k, rfl, hs, hx, q⟩ := h
  obtain ⟨its, rv, hl, hz⟩ := I.list hs
  obtain ⟨u, rfl, ru⟩ := vals1 r
  obtain rfl : u = Value.ref a := ru
  obtain ⟨e1, e2⟩ := refs_back rv fun x m => by
    obtain ⟨t, e, _⟩ := hx x m
    exact ⟨t, e⟩
  refine SrtQ.sorted_q (k := fun u => k (backV u)) hl.isList (by rw [← rv.length]; exact hz) (fun v hv => ?_) fun h' p out h1 h2 kp hd' hn => ?_
  · obtain ⟨t, rfl⟩ := e2 v hv
    have hm : V.ref t ∈ xs := by rw [e1]; exact List.mem_map.mpr ⟨_, hv, rfl⟩
    obtain ⟨t', e, ht⟩ := hx _ hm
    cases e
    obtain ⟨_, its2, r2, o, ho, hc, n, hdt⟩ := I.hok _ _ ht
    cases r2 with
    | cons ra rb =>
      cases rb with
      | cons rb rc =>
        cases rc
        obtain ⟨ta, rfl⟩ := ra
        obtain ⟨tb, rfl⟩ := rb
        exact ⟨t, o, _, n, ta, tb, rfl, ho, hc, hdt, rfl⟩
  · have h3 : ∀ u ∈ out, ∃ a, u = Value.ref a := fun u hu => e2 u (h2.perm.mem_iff.mp hu)
    obtain ⟨n, hn⟩ := hn
    have hb : SrtO.Stb (fun x y => SrtQ.ltQ (k x) (k y)) (out.map backV) xs := by
      rw [e1]
      exact SrtO.Stb.map (SrtQ.swo_q k) backV h2
    refine ⟨.ref p, upd H p (.lst (out.map backV)), I.laid (t' := s.toks) kp hd' ⟨?_, out, n, vals_back h3, hn⟩, rfl, q _ p (SrtO.srtd_map (lt := fun x y => SrtQ.ltQ (k x) (k y)) h1) hb (I.hok.fresh hd')⟩
    rw [hb.len]
    exact hz
end
def eQ (p : Str × Str) : D := .tup [.str p.1, .str p.2]
def toQs : List D → Option (List (Str × Str))
  | [] => some []
  | .tup [.str a, .str b] :: ds => (toQs ds).map fun ps => (a, b) :: ps
  | _ :: _ => none
theorem toQs_map : ∀ (ps : List (Str × Str)), toQs (ps.map eQ) = some ps
  | [] => rfl
  | p :: ps => by
    show (toQs (ps.map eQ)).map _ = _
    rw [toQs_map ps]; rfl
theorem toQs_eq : ∀ {ds : List D} {ps : List (Str × Str)}, toQs ds = some ps → ds = ps.map eQ
  | [], _, h => by cases h; rfl
  | x :: ds, ps, h => by
    unfold toQs at h
    split at h
    · rename_i e; cases e
    · rename_i a b ds' e
      cases e
      cases q2 : toQs ds with
      | none => rw [q2] at h; cases h
      | some qs => rw [q2] at h; cases h; rw [toQs_eq q2]; rfl
    · cases h
def qle (p q : Str × Str) : Bool := !SrtQ.ltQ q p
theorem qle_trans (a b c : Str × Str) (h1 : qle a b = true) (h2 : qle b c = true) : qle a c = true := by
  unfold qle at *
  have := SrtQ.ltQ_tr (a := a) (b := b) (c := c) (by simpa using h1) (by simpa using h2)
  simp [this]
theorem qle_tot (a b : Str × Str) : (qle a b || qle b a) = true := by
  unfold qle
  cases h : SrtQ.ltQ b a with
  | false => rfl
  | true => rw [SrtQ.ltQ_asym h]; rfl
def qsort (ps : List (Str × Str)) : List (Str × Str) := ps.mergeSort qle
theorem qsort_perm (ps : List (Str × Str)) : (qsort ps).Perm ps := List.mergeSort_perm _ _
theorem qsort_sorted (ps : List (Str × Str)) : (qsort ps).Pairwise fun p q => qle p q = true := List.pairwise_mergeSort (le := qle) qle_trans qle_tot ps
theorem qsort_uniq {ps ps' : List (Str × Str)} (h1 : ps'.Perm ps) (h2 : ps'.Pairwise fun p q => qle p q = true) : ps' = qsort ps :=
  List.Perm.eq_of_pairwise (le := fun p q => qle p q = true) (fun a b _ _ x y => by
    unfold qle at x y
    exact SrtQ.ltQ_eq (by simpa using y) (by simpa using x)) h2 (qsort_sorted ps) (h1.trans (qsort_perm ps).symm)
def keyQ (H : Hp) : V → Str × Str
  | .ref t => match H t with
    | some (.tup [.str a, .str b]) => (a, b)
    | _ => ("", "")
  | _ => ("", "")
theorem keyQ_rep {K : PySem.W.Frag} {r : List Addr} {F H : Hp} (s : Same F H) {v : V} {p : Str × Str} (h : Rep K r F v (eQ p)) : keyQ H v = p ∧ ∃ t, v = .ref t ∧ H t = some (.tup [V.str p.1, V.str p.2]) := by
  cases h with
  | tup hs ha =>
    cases ha with
    | cons h1 h2 =>
      cases h2 with
      | cons h2 h3 =>
        cases h3
        cases h1
        cases h2
        have e := s _ _ hs
        refine ⟨?_, _, rfl, e⟩
        show (match H _ with | some (.tup [.str a, .str b]) => (a, b) | _ => ("", "")) = p
        rw [e]
theorem keysQ_rep {K : PySem.W.Frag} {r : List Addr} {F H : Hp} (s : Same F H) : ∀ {vs : List V} {ps : List (Str × Str)}, RepAll K r F vs (ps.map eQ) → vs.map (keyQ H) = ps ∧ ∀ v ∈ vs, Rep K r F v (eQ (keyQ H v))
  | [], [], _ => ⟨rfl, fun v hv => nomatch hv⟩
  | v :: vs, p :: ps, .cons h t => by
    obtain ⟨e1, e2⟩ := keysQ_rep s t
    obtain ⟨e3, _⟩ := keyQ_rep s h
    refine ⟨by rw [List.map_cons, e1, e3], fun w hw => ?_⟩
    rcases List.mem_cons.mp hw with rfl | hw
    · rw [e3]; exact h
    · exact e2 w hw
theorem repQ_keys {K : PySem.W.Frag} {r : List Addr} {F : Hp} {k : V → Str × Str} : ∀ {vs : List V}, (∀ v ∈ vs, Rep K r F v (eQ (k v))) → RepAll K r F vs ((vs.map k).map eQ)
  | [], _ => .nil
  | v :: vs, h => .cons (h v List.mem_cons_self) (repQ_keys fun w hw => h w (List.mem_cons_of_mem _ hw))
def pSortQ : List D → Store → MX FT := fun xs m => match xs with
  | [x] => (rdQ m x).bind fun ds => (toQs ds).bind fun ps => ret (.own ((qsort ps).map eQ)) m
  | _ => none
theorem sc_pSortQ {K : PySem.W.Frag} {W : WX} : SC K W (RF K) (rSortedQ K) pSortQ := fun xs m res m' e r F H σ vs hr p => by
  unfold pSortQ at e
  split at e
  · rename_i x
    cases h0 : rdQ m x with
    | none => rw [h0] at e; cases e
    | some ds =>
      rw [h0] at e
      simp only [Option.bind_some] at e
      cases h1 : toQs ds with
      | none => rw [h1] at e; cases e
      | some ps =>
        rw [h1] at e; cases e
        cases toQs_eq h1
        obtain ⟨v, rfl, pv⟩ := rep1 p
        obtain ⟨a, ws, rfl, hs, ra⟩ := rdQ_get h0 hr pv
        obtain ⟨e1, e2⟩ := keysQ_rep hr.sub ra
        refine fun Q q => ⟨_, ws, keyQ H, rfl, hs, fun x hx => (keyQ_rep hr.sub (e2 x hx)).2, fun ys p' h2 h3 hp' => ?_⟩
        have hp : ys.Perm ws := h3.perm
        have e3 : ys.map (keyQ H) = qsort ps := by
          refine qsort_uniq ?_ ?_
          · rw [← e1]; exact hp.map _
          · rw [List.pairwise_map]
            exact h2.imp fun {x y} z => by
              show (!SrtQ.ltQ (keyQ H y) (keyQ H x)) = true
              rw [show SrtQ.ltQ (keyQ H y) (keyQ H x) = false from z]; rfl
        have ra2 : RepAll K r F ys ((qsort ps).map eQ) := by
          rw [← e3]
          exact repQ_keys fun y hy => e2 y (hp.mem_iff.mp hy)
        obtain ⟨q1, q2, q3⟩ := rf_new hr hp' ra2
        exact q _ r F _ q1 q2 q3
  · cases e
end DL
/-! sorted of texts, fewer than 64 -/
namespace DL
open PySem PySem.Spec PyProof.Rows L2
def pSortS : List D → Store → MX FT := fun xs m => match xs with
  | [x] => (rdQ m x).bind fun ds => (toStrs ds).bind fun zs => if zs.length < 64 then ret (.own ((ssort zs).map D.str)) m else none
  | _ => none
theorem sc_pSortS {K : PySem.W.Frag} {W : WX} : SC K W (RF K) (rSortedS K) pSortS := fun xs m res m' e r F H σ vs hr p => by
  unfold pSortS at e
  split at e
  · rename_i x
    cases h0 : rdQ m x with
    | none => rw [h0] at e; cases e
    | some ds =>
      rw [h0] at e
      simp only [Option.bind_some] at e
      cases h1 : toStrs ds with
      | none => rw [h1] at e; cases e
      | some zs =>
        rw [h1] at e
        simp only [Option.bind_some] at e
        split at e
        · rename_i hl
          cases e
          cases toStrs_eq h1
          obtain ⟨v, rfl, pv⟩ := rep1 p
          obtain ⟨a, ws, rfl, hs, ra⟩ := rdQ_get h0 hr pv
          cases repStrs ra
          refine fun Q q => ⟨a, zs, rfl, hs, hl, fun ys p' py sy hp' => ?_⟩
          rw [ssort_uniq py sy]
          obtain ⟨q1, q2, q3⟩ := rf_new hr hp' (repAllStr (ssort zs))
          exact q _ r F _ q1 q2 q3
        · cases e
  · cases e
end DL
/-! membership of any data -/
namespace DL
open PySem PySem.Spec PyProof.Rows L2
theorem u65 {k : Nat} {A : Around} (r : Room k A) : A.units + 65 < cLine := by
  have := r.un
  omega
theorem any_toPys (x : D) : ∀ ys : List D, (D.toPys ys).any (fun z => PyData.eqv z x.toPy) = ys.any fun z => eqb z x
  | [] => rfl
  | y :: ys => by
    show (PyData.eqv y.toPy x.toPy || (D.toPys ys).any _) = (eqb y x || ys.any _)
    rw [any_toPys x ys]; rfl
open Classical in
noncomputable def pInD (neg : Bool) : D → D → Store → MX D := fun x y m => (vw m x).bind fun x => (vw m y).bind fun y => match y with
  | .lst ys => if Sh 60 x ∧ Sh 60 (.lst ys) then ret (.bl (if neg then !(ys.any fun z => eqb z x) else ys.any fun z => eqb z x)) m else none
  | _ => none
def rInDn (K : PySem.W.Frag) (neg : Bool) : R2 := if neg then rNotInD K else rInD K
theorem s2_pInD {neg : Bool} {K : PySem.W.Frag} {W : WX} : S2 K W (rInDn K neg) (pInD neg) := fun x y m res m' e r F H σ vx vy hr px py => by
  unfold pInD at e
  cases h1 : vw m x with
  | none => rw [h1] at e; cases e
  | some x' =>
    rw [h1] at e
    cases h2 : vw m y with
    | none => rw [h2] at e; cases e
    | some y' =>
      rw [h2] at e
      simp only [Option.bind_some] at e
      split at e
      · rename_i ys
        split at e
        · rename_i hs
          have s1 := vw_sd h1 hs.1
          have s2 := vw_sd h2 hs.2
          cases neg with
          | true =>
            cases e
            exact fun Q q => ⟨_, _, s1.pd.1.dp hr px, s2.pd.1.dp hr py, s1.pd.2.1, s2.pd.2.1, q _ r F H hr (Ext.refl hr) (by rw [any_toPys]; exact .bl _)⟩
          | false =>
            cases e
            exact fun Q q => ⟨_, _, s1.pd.1.dp hr px, s2.pd.1.dp hr py, s1.pd.2.1, s2.pd.2.1, q _ r F H hr (Ext.refl hr) (by rw [any_toPys]; exact .bl _)⟩
        · cases e
      · cases e
end DL
/-! try: .. except ShelfError: a suite -/
namespace DL
open PySem PySem.Spec PyProof.Rows L2
theorem takes_none {X : Cx} : Takes X (fun _ _ _ _ => False) := fun u s' ⟨_, _, _, _, _, _, _, _, _, _, _, _, _, _, _, _, w⟩ => w.elim
def tTryO (K : PySem.W.Frag) (c : Value) (tb : WX → TS) (ts : TS) : TS := fun D σ H => tb (wOnly K c (fun _ _ _ => ts) (fun _ _ _ _ => False) D) D σ H
def sTryO (ns : List Str) (b h : MS) : MS := fun δ m => match b δ m with
  | some (.ex x δ1 m1) => if x ∈ ns then h δ1 m1 else none
  | o => o
theorem ss_tryO {K : PySem.W.Frag} {ns : List Str} {t u : WX → TS} {b h : MS} (xs : Xs K ns) (hb : SS K t b) (hh : SS K u h) : SS K (fun W => tTryO K (.ref (ga K "ShelfError")) t (u W)) (sTryO ns b h) := fun W δ m o q => by
  unfold sTryO at q
  cases hq : b δ m with
  | none => rw [hq] at q; cases q
  | some o1 =>
    rw [hq] at q
    cases o1 with
    | ex x δ1 m1 =>
      dsimp only at q
      split at q
      · rename_i hx
        exact fun r F H σ D hr er k => hb _ δ m _ hq r F H σ D hr er fun σ1 r1 F1 H1 hr1 er1 x1 => ⟨true, xs.exm x hx, fun _ a na => hh W δ1 m1 o q r1 F1 H1 σ1 D hr1 er1 (k.ext hr.len hr1.len x1), fun z => nomatch z⟩
      · cases q
    | nx δ1 m1 => cases q; exact fun r F H σ D hr er k => hb _ δ m _ hq r F H σ D hr er k
    | rt d m1 => cases q; exact fun r F H σ D hr er k => hb _ δ m _ hq r F H σ D hr er k
    | bk δ1 m1 => cases q; exact fun r F H σ D hr er k => hb _ δ m _ hq r F H σ D hr er k
    | ct δ1 m1 => cases q; exact fun r F H σ D hr er k => hb _ δ m _ hq r F H σ D hr er k
end DL
namespace DL
open PySem PySem.Spec PyProof.Rows L2
local macro_rules | `(tactic| simp! only [$ls,*] $[$loc]?) => `(tactic| simp only [fnOf, endF, st, eC, eVar, eOp, eUn, eAnd, eOr, eNot, tst, mAnd, mOr, mNot, mYes, eIf, eChain, eChain3, aNil, aCons, eTup, eCB, fCB, fLst, dat, cel, pla, FT.dat, F1.dat, FT.cel, celL, sNext, sBreak, sCont, sRetN, sSeq, sAsg, sSet, sPar, par2, sExpr, sRet, sIf, sRaise, fCall, fCall0, pAdd, pSub, pLt, pLe, pGt, pGe, pEq, pNe, pIsN, pNotN, pIxT, pNeg, pMax2, pMin2, pMax3, pMin3, bind_ok, bind_ex, sure_ok, run_ok, run_ex, mName, mTup, msNil, msCons, List.length_cons, List.length_nil, List.map_cons, List.map_nil, List.replicate_zero, List.replicate_succ, List.append_nil, List.cons_append, List.nil_append, List.getElem?_cons_zero, List.getElem?_cons_succ, List.set_cons_zero, List.set_cons_succ, Option.bind_some, Option.map_some, Nat.sub_self, Nat.reduceSub, Nat.reduceAdd, fOp, pCat, fSl, oNone, oSome, fRev, eBM, eBM0, pAppend, pReverse, sSetI, sAug, eIsT, tyN, sFor, wList, wTup, wEnum, wZip, fLc, pIxL, pLen, pList, eBits, Bool.not_true, Bool.not_false, Bool.and_true, Bool.true_and, Bool.and_false, Bool.false_and, Bool.or_true, Bool.true_or, Bool.or_false, Bool.false_or, cond_true, cond_false, Nat.zero_add, Nat.reduceLeDiff, Nat.reduceLT, Int.reduceSub, Int.reduceNeg, Int.reduceAdd, Int.reduceToNat, if_true, ↓reduceIte, and_ret, or_ret, and_retB, or_retB, fin_same, List.length_set, rdQ_lst, rdL_lst, rdS_lst, rdS_tup, rdQ_scr, rdS_scr, vw_lst, vw_tup, pow_12, pow_9, pow_18, pow_29, atI_0, atI_1, atI_2, atI_3, $ls,*] $[$loc]?)
local macro_rules | `(tactic| simp_arith only [$ls,*] $[$loc]?) => `(tactic| simp only [st, eC, eVar, eOp, eUn, eAnd, eOr, eNot, tst, mAnd, mOr, mNot, mYes, eIf, eChain, eChain3, aNil, aCons, eTup, eCB, fCB, fLst, dat, cel, pla, FT.dat, F1.dat, FT.cel, celL, sNext, sBreak, sCont, sRetN, sAsg, sSet, sPar, par2, sExpr, sRet, sIf, sRaise, fCall, fCall0, pAdd, pSub, pLt, pLe, pGt, pGe, pEq, pNe, pIsN, pNotN, pIxT, pNeg, pMax2, pMin2, pMax3, pMin3, bind_ok, bind_ex, sure_ok, run_ok, run_ex, mName, mTup, msNil, msCons, List.length_cons, List.length_nil, List.map_cons, List.map_nil, List.replicate_zero, List.replicate_succ, List.append_nil, List.cons_append, List.nil_append, List.getElem?_cons_zero, List.getElem?_cons_succ, List.set_cons_zero, List.set_cons_succ, Option.bind_some, Option.map_some, Nat.sub_self, Nat.reduceSub, Nat.reduceAdd, fOp, pCat, fSl, oNone, oSome, fRev, eBM, eBM0, pAppend, pReverse, sSetI, sAug, eIsT, tyN, sFor, wList, wTup, wEnum, wZip, fLc, pIxL, pLen, pList, eBits, Bool.not_true, Bool.not_false, Bool.and_true, Bool.true_and, Bool.and_false, Bool.false_and, Bool.or_true, Bool.true_or, Bool.or_false, Bool.false_or, cond_true, cond_false, Nat.zero_add, Nat.reduceLeDiff, Nat.reduceLT, Int.reduceSub, Int.reduceNeg, Int.reduceAdd, Int.reduceToNat, if_true, ↓reduceIte, and_ret, or_ret, and_retB, or_retB, fin_same, List.length_set, rdQ_lst, rdL_lst, rdS_lst, rdS_tup, rdQ_scr, rdS_scr, vw_lst, vw_tup, pow_12, pow_9, pow_18, pow_29, atI_0, atI_1, atI_2, atI_3, ws_seq, ws_some, nx_nx, app_set, ws_cond, wp_some, endF_rt, endF_nx, endF_ex, cut_same, ixN_lit30, ixN_lit31, ixN_lit32, cond_true, cond_false, List.set_set, $ls,*] $[$loc]?)
/-! t[::-1] of a tuple of two -/
section
open PySem PySem.Spec PyProof.Rows HT
variable {prog : Program} {w : World} {A : Around} {E : Value → Shared → Prop} {s : Shared}
theorem sliceApplied_back {sl : Addr} {vl vu vs : Value} {Q : Int × Int × Nat → Shared → Prop} (hs : s.heap.IsSliceOf sl vl vu vs) (pl : IsPart vl none) (pu : IsPart vu none) (ps : IsPart vs (some (-1)))
    (h : Q (1, -1, 2) s) : wpAny (model prog w) A (Builtin.Slice.sliceApplied (.ref sl) (pure (2 : Int))) Q E s := by
  obtain ⟨os, hos, hcs, hds⟩ := id hs
  unfold Builtin.Slice.sliceApplied Builtin.Slice.sliceFields
  refine wpAny_bind (wpAny_bind (wpAny_field hos hds (x := vl) rfl (wpAny_bind (wpAny_field hos hds (x := vu) rfl (wpAny_bind (wpAny_field hos hds (x := vs) rfl (wpAny_pure ?_)))))))
  refine wpAny_bind (slicePart_ ps ?_)
  show wpAny _ _ (if ((-1 : Int) == 0) = true then _ else _) _ _ s
  rw [if_neg (by decide)]
  refine wpAny_bind (slicePart_ pl (wpAny_bind (slicePart_ pu (wpAny_bind (wpAny_pure ?_)))))
  show wpAny _ _ (match Builtin.Slice.sliceAdjust none none (-1) (2 : Int) with | (lo, hi) => pure (lo, (-1 : Int), Builtin.Slice.slicePlaces lo hi (-1))) _ _ s
  have e : Builtin.Slice.sliceAdjust none none (-1) (2 : Int) = (1, -1) := by decide
  rw [e]
  show wpAny _ _ (pure ((1 : Int), (-1 : Int), Builtin.Slice.slicePlaces 1 (-1) (-1))) _ _ s
  have e2 : Builtin.Slice.slicePlaces 1 (-1) (-1) = 2 := by decide
  rw [e2]
  exact wpAny_pure h
theorem getItem_tuple_back {t sl : Addr} {x y : Value} {vl vu vs : Value} {Q : Value → Shared → Prop} (ht : IsTup s.heap t #[x, y]) (hs : s.heap.IsSliceOf sl vl vu vs) (pl : IsPart vl none) (pu : IsPart vu none) (ps : IsPart vs (some (-1)))
    (h : Q (.ref s.heap.objs.size) { s with heap := s.heap.push { cls := .type "tuple", data := .seq #[y, x] } }) : wpAny (model prog w) A (getItem (.ref t) (.ref sl)) Q E s := by
  have htake : sizeOk (.seq #[y, x]) := by show (2 : Nat) ≤ sizeLine; rw [sizeLine_eq]; omega
  obtain ⟨os, hos, hcs, hds⟩ := id hs
  have hTs : s.TypeIs (.ref sl) "slice" := ⟨os, hos, hcs⟩
  unfold getItem
  try with_reducible refine wpAny_holding ?_
  first | refine wpAny_bind (wpAny_pure ?_) | skip
  refine wpAny_bind (wpAny_sequenceKey ht.typeIs (by decide) ?_)
  refine wpAny_bind (wpAny_callSpecial?_slot (name := Str.ofString "__getitem__") ht.typeIs PyProof.Rows.slot_tuple_getitem
    (wpAny_call_entry PyProof.Rows.slot_tuple_getitem ht.typeIs entry_tuple_getitem ?_ (args_tuple_getitem _ _)))
  show wpAny _ _ (Builtin.Tuple.tupleItemsOf (.ref t) >>= _) _ _ s
  refine wpAny_bind (tupleItemsOf_ ht ?_)
  refine wpAny_bind (wpAny_typeOf hTs ?_)
  rw [if_pos (by decide)]
  refine wpAny_bind (sliceApplied_back hs pl pu ps ?_)
  have hno : ¬ (((1 : Int) == 0 && (-1 : Int) == 1 && (2 : Nat) == (#[x, y] : Array Value).size) = true) := by
    show ¬ (((1 : Int) == 0 && (-1 : Int) == 1 && (2 : Nat) == 2) = true)
    decide
  show wpAny _ _ (if ((1 : Int) == 0 && (-1 : Int) == 1 && (2 : Nat) == (#[x, y] : Array Value).size) = true then _ else _) _ _ s
  rw [if_neg hno]
  have pk : ((List.range 2).filterMap fun (m : Nat) => (#[x, y] : Array Value)[((1 : Int) + (m : Int) * (-1)).toNat]?).toArray = #[y, x] := rfl
  rw [pk]
  first
    | exact wpAny_bind (m := Builtin.Tuple.tupleExact _) (wpAny_newObj_type (wpAny_pure ⟨_, rfl, wpAny_pure h⟩) htake)
    | exact wpAny_bind (m := Builtin.Tuple.tupleExact _) (wpAny_newObj_type (wpAny_bind (wpAny_pure (wpAny_pure ⟨_, rfl, wpAny_pure h⟩))) htake)
    | exact wpAny_bind (wpAny_bind (m := Builtin.Tuple.tupleExact _) (wpAny_newObj_type (wpAny_pure (wpAny_pure ⟨_, rfl, wpAny_pure h⟩)) htake))
    | exact wpAny_bind (wpAny_bind (m := Builtin.Tuple.tupleExact _) (wpAny_newObj_type (wpAny_pure ⟨_, rfl, wpAny_pure h⟩) htake))
end
section
open PySem PySem.Spec PyProof.Rows L2
def tRevT (K : PySem.W.Frag) (te : TE) : TE := fun σ H Q => te σ H fun x H1 => ∃ a y z, x = .ref a ∧ SqT K H1 a [y, z] ∧ ∀ p, H1 p = none → Q (.ref p) (upd H1 p (.tup [z, y]))
theorem pe_revT {X : Cx} {e : Expr} {te : TE} {k : Nat} {p1 p2 p3 pos : Pos} (he : PE X e te) : PE X (.Subscript e (.Slice none none (some (.UnaryOp .USub (.Constant (.int 1) k p1) p2)) p3) pos) (tRevT X.K te) := by
  refine ⟨fun pins s σ H Q I h => ?_⟩
  refine Subscript_ (thn (he.run pins s σ H _ I h) fun v s1 ⟨x, H1, I1, r1, q1⟩ => ?_)
  obtain ⟨a, y, z, ex, hx, q⟩ := q1
  subst ex
  cases r1
  have hst : PO X (some (.UnaryOp .USub (.Constant (.int 1) k p1) p2)) (tPart (tUn (rU fun i => .int (-i)) (tC (.int 1)))) := po_some (pe_un un_neg pe_int)
  refine wpAny_Slice (thn (po_none.run pins s1 σ H1 (fun o H2 => o = none ∧ H2 = H1) I1 ⟨rfl, rfl⟩) fun vl s2 ⟨l, H2, I2, pl, el, e2⟩ => ?_)
  subst el e2
  refine thn (po_none.run pins s2 σ H2 (fun o H3 => o = none ∧ H3 = H2) I2 ⟨rfl, rfl⟩) fun vu s3 ⟨u, H3, I3, pu, eu, e3⟩ => ?_
  subst eu e3
  refine thn (hst.run pins s3 σ H3 (fun o H4 => o = some (-1) ∧ H4 = H3) I3 ⟨1, rfl, -1, rfl, rfl, rfl⟩) fun vs s4 ⟨o, H4, I4, ps, eo, e4⟩ => ?_
  subst eo e4
  have I5 : Inv X pins σ H4 { s4 with heap := s4.heap.push { cls := .type "slice", data := .fields #[vl, vu, vs] } } := I4.kept (t' := s4.toks) fun b ob q => Heap.get?_push_of_some _ q
  obtain ⟨its, r, ht, hz⟩ := I5.tuple hx
  show wpAny (model X.prog X.w) X.A (subscriptTail e (.Slice none none (some (.UnaryOp .USub (.Constant (.int 1) k p1) p2)) p3) (.ref a) (.ref s4.heap.objs.size)) (EP X pins σ Q) X.xe { s4 with heap := s4.heap.push { cls := .type "slice", data := .fields #[vl, vu, vs] } }
  refine tail_any (ops := [.ref a, .ref s4.heap.objs.size]) ht.typeIs (PyProof.Rows.slot_tuple_getitem.lookup) ?_ (by with_unfolding_all rfl)
  obtain ⟨u1, u2, rfl, r1, r2⟩ := vals2 r
  refine getItem_tuple_back ht (Heap.IsSliceOf.new _ vl vu vs) pl pu ps ?_
  refine ⟨.ref _, _, I5.laid (t' := s4.toks) (o := .tup [z, y]) (fun b ob q => Heap.get?_push_of_some _ q) (Nat.le_refl _) ?_, rfl, q _ (I5.hok.fresh (Nat.le_refl _))⟩
  exact ⟨by show (2 : Nat) ≤ sizeLine; rw [sizeLine_eq]; omega, [u2, u1], .cons r2 (.cons r1 .nil), IsTup.new _ _⟩
def pRevT : D → Store → MX D := fun x m => match x with
  | .tup [y, z] => ret (.tup [z, y]) m
  | _ => none
theorem so_revT {K : PySem.W.Frag} {W : WX} {ta : TE} {a : ME} (ha : So K W (RE K) ta a) : So K W (RE K) (tRevT K ta) (eUn pRevT a) :=
  So.bind re_mon ha (k := fun (x : D) δ m => pRevT x m)
    (u := fun (x : V) σ H1 Q => ∃ (a : Addr) (y z : V), x = V.ref a ∧ SqT K H1 a [y, z] ∧ ∀ p, H1 p = none → Q (.ref p) (upd H1 p (.tup [z, y]))) fun x δ m res m' e v r F H σ _ hr er rv => by
    unfold pRevT at e
    split at e
    · rename_i y z
      cases e
      cases rv with
      | tup h t =>
        cases t with
        | cons p1 t1 =>
          cases t1 with
          | cons p2 t2 =>
            cases t2
            rename_i p0 v1 v2
            refine fun Q q => ⟨p0, v1, v2, rfl, SqT.of (hr.sub _ _ h), fun p hp => ?_⟩
            have fp : F p = none := hr.sub.free hp
            have s1 : Same F (upd F p (.tup [v2, v1])) := fun b u e => by rw [upd_ne (ne_of_none e fp)]; exact e
            exact q _ r _ _ (hr.laid hp) (Ext.laid hr hp) (.tup upd_same ((RepAll.cons p2 (.cons p1 .nil)).mono (Pre.refl r) s1))
    · cases e
end
/-! ### spans, in plain Lean -/
def isPlace (i : Int) : Bool := decide (0 - 1000000000000 < i) && decide (i < 1000000000000)
def isSpan (s : Sp2) : Bool := isPlace s.1 && (isPlace s.2 && decide (s.1 < s.2))
def Good (s : Sp2) : Prop := -1000000000000 < s.1 ∧ s.1 < s.2 ∧ s.2 < 1000000000000
theorem good_iff {s : Sp2} : isSpan s = true ↔ Good s := by simp [isSpan, isPlace, Good]; omega
theorem Good.isSpan {s : Sp2} (h : Good s) : isSpan s = true := good_iff.mpr h
theorem not_good {s : Sp2} (h : ¬ Good s) : isSpan s = false := by
  cases e : DL.isSpan s with
  | true => exact absurd (good_iff.mp e) h
  | false => rfl
/-! ### what reads as a list -/
theorem eq_of_wp {α : Type} {x : MX α} {a : RX α} {b : Store} (h : wp x (fun r m => r = a ∧ m = b)) : x = some (a, b) := by
  obtain ⟨r, m, e, rfl, rfl⟩ := wp_get h
  exact e
structure Rd (m : Store) (d : D) (xs : List D) : Prop where
  q : rdQ m d = some xs
  l : rdL m d = some xs
  s : rdS m d = some xs
  v : vw m d = some (.lst xs)
  t : tyN m d = some "list"
  i : isLst m d = true
  c : ∀ p ∈ srcOf d xs, m[p.1]? = some (.lst p.2)
theorem Rd.lst {m : Store} {xs : List D} : Rd m (.lst xs) xs := ⟨rfl, rfl, rfl, rfl, rfl, rfl, fun p hp => nomatch hp⟩
theorem Rd.cell {m : Store} {k : Nat} {xs : List D} (h : m[k]? = some (.lst xs)) : Rd m (.cell k) xs :=
  ⟨rdQ_cell h, rdL_cell h, rdS_cell h, vw_cell h, by unfold tyN; dsimp only; rw [h], isLst_cell h, fun p hp => by cases List.mem_singleton.mp hp; exact h⟩
theorem Rd.inv {m : Store} {d : D} {xs : List D} (h : Rd m d xs) : d = .lst xs ∨ ∃ k, d = .cell k ∧ m[k]? = some (.lst xs) := by
  have := h.l
  cases d with
  | lst ys => exact .inl (by have := Option.some.inj this; rw [this])
  | cell k => exact .inr ⟨k, rfl, cell_some this⟩
  | _ => cases this
theorem Rd.app {m l : Store} {d : D} {xs : List D} (h : Rd m d xs) : Rd (m ++ l) d xs := by
  rcases h.inv with rfl | ⟨k, rfl, e⟩
  · exact .lst
  · exact .cell (by rw [List.getElem?_append_left (List.getElem?_eq_some_iff.mp e).1]; exact e)
theorem Rd.set {m : Store} {d : D} {xs : List D} {k : Nat} {c : Cell} (h : Rd m d xs) (hk : d ≠ .cell k) : Rd (m.set k c) d xs := by
  rcases h.inv with rfl | ⟨j, rfl, e⟩
  · exact .lst
  · exact .cell (by rw [set_get_ne (fun z => hk (by rw [z]))]; exact e)
theorem Rd.chk {m : Store} {d : D} {xs ys : List D} (h : Rd m d xs) : (Wk.mk ys (srcOf d xs)).chk m := h.c
theorem srcOf_lst {xs ys : List D} : srcOf (.lst xs) ys = [] := rfl
theorem fin_own1 {m0 m : Store} {xs : List D} (hl : m.length = m0.length) (ti : Tidy m0 m) (hu : D.unds m0.length xs = true) : finF m0 (.cell m0.length) (m ++ [.lst xs]) = ret (.own xs) m := fin_own (i := 0) hl ti rfl hu
/-! ### statement by statement -/
theorem ws_step {a b : MS} {δ δ' : En} {m m' : Store} {R : OT → Prop} (h : a δ m = some (.nx δ' m')) (k : ws (b δ' m') R) : ws (sSeq a b δ m) R := by
  rw [ws_seq, h]; exact k
theorem ws_stop {a b : MS} {δ : En} {m m' : Store} {d : D} {R : OT → Prop} (h : a δ m = some (.rt d m')) (k : R (.rt d m')) : ws (sSeq a b δ m) R := by
  rw [ws_seq, h]; exact k
theorem ws_last {a : MS} {δ : En} {m : Store} {o : OT} {R : OT → Prop} (h : a δ m = some o) (k : R o) : ws (a δ m) R := by
  rw [h]; exact k
/-- a statement, and what follows, by what holds between -/
theorem ws_mid {a b : MS} {δ : En} {m : Store} {I : En → Store → Prop} {R : OT → Prop} (h : ws (a δ m) (Nx I)) (k : ∀ δ' m', I δ' m' → ws (b δ' m') R) : ws (sSeq a b δ m) R := by
  rw [ws_seq]
  refine ws_mono h ?_
  rintro o ⟨δ', m', rfl, hi⟩
  exact k δ' m' hi
/-- a for in the midst -/
theorem ws_forS {w : MI} {g : MG} {b : MS} {δ : En} {m m' : Store} {wk : Wk} {R : OT → Prop} (h : w δ m = ret wk m') (k : ws (forM g b wk.chk wk.xs δ m') R) : ws (sFor w g b δ m) R := by
  unfold sFor
  rw [h]; exact k
/-- a comprehension that draws: each item has what is asked, the store keeps what is kept -/
theorem lcM_inv {α : Type} {g : MG} {e : ME} {c : Store → Prop} {δ : En} (en : α → D) (P : α → D → Prop) (I : Nat → Store → Prop) (hc : ∀ n m, I n m → c m)
    (step : ∀ y n m, I (n + 1) m → ∃ δ1 d m', g (en y) δ = some δ1 ∧ e δ1 m = ret d m' ∧ P y d ∧ I n m') : ∀ (ys : List α) (m : Store), I ys.length m → ∃ ds m', lcM g mYes e c δ (ys.map en) m = ret ds m' ∧ ds.length = ys.length ∧ (∀ i (hi : i < ys.length) (hj : i < ds.length), P ys[i] ds[i]) ∧ I 0 m'
  | [], m, h => ⟨[], m, by rw [List.map_nil]; unfold lcM; rw [if_pos (hc _ _ h)], rfl, (fun i hi => by simp at hi), h⟩
  | y :: ys, m, h => by
    obtain ⟨δ1, d, m1, e1, e2, p, h1⟩ := step y ys.length m h
    obtain ⟨ds, m2, e3, l, hp, h2⟩ := lcM_inv en P I hc step ys m1 h1
    refine ⟨d :: ds, m2, ?_, by simp [l], fun i hi hj => ?_, h2⟩
    · rw [List.map_cons]
      unfold lcM
      rw [if_pos (hc _ _ h), e1]
      simp only [Option.bind_some]
      show MX.sure (e δ1 m) _ = _
      rw [e2]
      show MX.sure (lcM g mYes e c δ (ys.map en) m1) _ = _
      rw [e3]; rfl
    · cases i with
      | zero => exact p
      | succ i => simpa using hp i (by simpa using hi) (by simpa using hj)
mutual
theorem eqv_toPy : ∀ d : D, PyData.eqv d.toPy d.toPy = true
  | .non => rfl
  | .bl b => by cases b <;> rfl
  | .int i => by show decide (i = i) = true; simp
  | .str x => by simp [D.toPy, PyData.eqv]
  | .lst xs => eqv_toPys xs
  | .tup xs => eqv_toPys xs
  | .cell _ => rfl
  | .scr ns => by
    have h := eqv_ints ns ns
    rw [decide_eq_true rfl] at h
    have e : D.toPys (ns.map D.int) = ns.map PyData.int := by
      clear h
      induction ns with
      | nil => rfl
      | cons n ns ih => show _ :: D.toPys (ns.map D.int) = _; rw [ih]; rfl
    rw [e] at h
    exact h
  | .exc _ => rfl
theorem eqv_toPys : ∀ ds : List D, PyData.eqvAll (D.toPys ds) (D.toPys ds) = true
  | [] => rfl
  | d :: ds => by
    show (PyData.eqv d.toPy d.toPy && PyData.eqvAll (D.toPys ds) (D.toPys ds)) = true
    rw [eqv_toPy d, eqv_toPys ds]; rfl
end
theorem eqb_self (d : D) : eqb d d = true := eqv_toPy d
theorem ne_self {m : Store} {d e x : D} (h1 : vw m d = some x) (h2 : vw m e = some x) (s : Sh 60 x) : pNeD d e m = ret (.bl false) m := by
  rw [pNeD_eq h1 h2 s s, eqb_self]; rfl
theorem eq_self {m : Store} {d e x : D} (h1 : vw m d = some x) (h2 : vw m e = some x) (s : Sh 60 x) : pEqD d e m = ret (.bl true) m := by
  rw [pEqD_eq h1 h2 s s, eqb_self]
theorem sh_lst {n : Nat} {xs : List D} (h : ∀ x ∈ xs, Sh n x) : Sh (n + 1) (.lst xs) := h
/-! ### the purse: numbers drawn from a cell -/
structure Purse where
  a : Int
  b : Int
  c : Int
def ePu (p : Purse) : Cell := .lst [.int p.a, .int p.b, .int p.c]
/-- so many draws are left -/
def Pok (n : Nat) (p : Purse) : Prop := 0 ≤ p.b ∧ p.b < 2147483647 ∧ 0 ≤ p.c ∧ p.c + 3 * (n : Int) ≤ 1125899906842624
theorem Pok.mono {n n' : Nat} {p : Purse} (h : Pok n p) (hb : n' ≤ n) : Pok n' p := ⟨h.1, h.2.1, h.2.2.1, by have := h.2.2.2; omega⟩
theorem tidy_pu {m m' : Store} {k : Nat} {p : Purse} (h : Tidy m m') : Tidy m (m'.set k (ePu p)) := h.set rfl
noncomputable def e_law_mixed : MS :=
  (sSeq (sSet 2 (eOp pMod (eOp pAdd (eOp pAdd (eOp pAdd (eOp pMul (eVar 0) (eC (.int 1103515245))) (eOp pMul (eOp pMul (eC (.int 7919)) (eVar 1)) (eVar 1))) (eVar 1)) (eC (.int 1))) (eC (.int 2147483647))))
    (sSeq (sSet 2 (eOp pMod (eOp pAdd (eOp pMul (eVar 2) (eVar 2)) (eC (.int 69621))) (eC (.int 2147483629))))
    (sRet (eOp pMod (eOp pMul (eVar 2) (eC (.int 48271))) (eC (.int 2147483587))))))
noncomputable def f_law_mixed : FnS := fnOf 2 3 e_law_mixed
theorem law_mixed_ok (c k : Int) (m : Store) (h0 : 0 ≤ k) (h1 : k < 1152921504606846976) : ∃ i, f_law_mixed [.int c, .int k] m = ret (.pl (.int i)) m := by
  apply Exists.intro
  unfold f_law_mixed e_law_mixed
  have h2 : ∀ x : Int, -18446744073709551616 < x % 2147483647 ∧ x % 2147483647 < 18446744073709551616 := fun x => by omega
  simp! only [pMul_r (j := 1103515245) (by omega) (by omega), pMul_l (i := 7919) (by omega) (by omega), pMul_r (j := k) (by omega) (by omega), pMod_pos (j := 2147483647) (by omega), pMod_pos (j := 2147483629) (by omega), pMod_pos (j := 2147483587) (by omega), pMul_r (j := 48271) (by omega) (by omega), pMul_r (h2 _).1 (h2 _).2]
  rfl
noncomputable def e_law_draw : MS :=
  (sSeq (sIf (tst (eOp pGt (eOp pIxL (eVar 0) (eC (.int 0))) (eC (.int 0)))) (sSeq (sSet 2 (eOp pMod (eOp pIxL (eVar 0) (eC (.int 0))) (eVar 1)))
    (sSeq (sSetI (eOp pDiv (eOp pIxL (eVar 0) (eC (.int 0))) (eVar 1)) (eVar 0) (eC (.int 0)))
    (sRet (eVar 2)))) sNext)
    (sSeq (sSet 3 (eC (.int 0)))
    (sSeq (sFor (wRng1 (aCons (eOp pAdd (eC (.int 1)) (eOp pDiv (eBits (eVar 1)) (eC (.int 30)))) aNil)) (mName 4)
    (sSeq (sSetI (eOp pAdd (eOp pIxL (eVar 0) (eC (.int 2))) (eC (.int 1))) (eVar 0) (eC (.int 2)))
    (sSet 3 (eOp pAdd (eOp pMul (eVar 3) (eC (.int 2147483587))) (pla (fCall0 f_law_mixed (aCons (eOp pIxL (eVar 0) (eC (.int 1))) (aCons (eOp pIxL (eVar 0) (eC (.int 2))) aNil))))))))
    (sRet (eOp pMod (eVar 3) (eVar 1))))))
noncomputable def f_law_draw : FnS := fnOf 2 5 e_law_draw
theorem intBits_le {n : Int} {k : Nat} (h0 : 0 < n) (h1 : n.natAbs < 2 ^ k) : Builtin.Int.intBits n ≤ k := by
  unfold Builtin.Int.intBits
  have h2 : n.natAbs ≠ 0 := by omega
  split
  · omega
  · have := (Nat.log2_lt h2).mpr h1
    omega
theorem intBits_89 {n : Int} (h0 : 0 < n) (hn : n < 618970019642690137449562112) : Builtin.Int.intBits n ≤ 89 := by
  refine intBits_le h0 ?_
  rw [show (2 : Nat) ^ 89 = 618970019642690137449562112 from rfl]
  omega
theorem law_draw_wp {m : Store} {k b : Nat} {p : Purse} {n : Int} (hk : m[k]? = some (ePu p)) (hp : Pok (b + 1) p) (h0 : 0 < n) (hn : n < 618970019642690137449562112) :
    wp (f_law_draw [.cell k, .int n] m) (fun r m' => ∃ i p', r = .ok (.pl (.int i)) ∧ m' = m.set k (ePu p') ∧ 0 ≤ i ∧ i < n ∧ Pok b p') := by
  obtain ⟨q1, q2, q3, q4⟩ := hp
  have hk' : m[k]? = some (.lst [.int p.a, .int p.b, .int p.c]) := hk
  have hb := intBits_89 h0 hn
  unfold f_law_draw e_law_draw
  refine wp_fnI rfl ?_
  simp_arith only [pIxL, rdQ_cell hk', sSetI, cellL_cell hk', pMod_pos h0, pDiv_pos h0 hn]
  refine ⟨fun ha => ?_, fun ha => ?_⟩
  · exact ⟨_, { p with a := p.a / n }, rfl, rfl, Int.emod_nonneg _ (by omega), Int.emod_lt_of_pos _ h0, q1, q2, q3, by show p.c + 3 * (b : Int) ≤ 1125899906842624; omega⟩
  · simp_arith only [sFor, wRng1, eBits, pDiv_pos (j := 30) (by omega) (by omega)]
    rw [if_pos (rg62 (by omega) (by omega))]
    simp_arith only []
    have hk0 : k < m.length := (List.getElem?_eq_some_iff.mp hk).1
    refine ws_for (I := fun l δ m' => ∃ (i : Int) (p' : Purse) (z : Option D), δ = [some (.cell k), some (.int n), none, some (.int i), z] ∧ m' = m.set k (ePu p') ∧ 0 ≤ p'.b ∧ p'.b < 2147483647 ∧ 0 ≤ p'.c ∧ p'.c + (l.length : Int) + 3 * (b : Int) ≤ 1125899906842624) (fun _ _ _ _ => chk_nil) ?_ ?_ ?_
    · rintro δ m' ⟨i, p', z, rfl, rfl, r1, r2, r3, r4⟩
      simp_arith only [pMod_pos h0]
      exact ⟨_, p', rfl, rfl, Int.emod_nonneg _ (by omega), Int.emod_lt_of_pos _ h0, r1, r2, r3, by simpa using r4⟩
    · rintro x l δ m' ⟨i, p', z, rfl, rfl, r1, r2, r3, r4⟩
      have r4' : p'.c + ((l.length : Int) + 1) + 3 * (b : Int) ≤ 1125899906842624 := by simpa using r4
      refine ⟨_, rfl, ?_⟩
      have hk1 : ∀ xs : List D, (m.set k (.lst xs))[k]? = some (.lst xs) := fun xs => List.getElem?_set_self hk0
      obtain ⟨w, e⟩ := law_mixed_ok p'.b (p'.c + 1) (m.set k (.lst [.int p'.a, .int p'.b, .int (p'.c + 1)])) (by omega) (by omega)
      simp_arith only [ePu, sSetI, pIxL, rdQ_cell (hk1 _), cellL_cell (hk1 _), pMul_r (j := 2147483587) (by omega) (by omega), e]
      exact ⟨_, { p' with c := p'.c + 1 }, _, rfl, rfl, r1, r2, by show 0 ≤ p'.c + 1; omega, by show p'.c + 1 + (l.length : Int) + 3 * (b : Int) ≤ 1125899906842624; omega⟩
    · refine ⟨0, p, none, rfl, ?_, q1, q2, q3, ?_⟩
      · exact (set_same hk).symm
      · rw [rng_len]; omega
theorem law_draw_ok {m : Store} {k b : Nat} {p : Purse} {n : Int} (hk : m[k]? = some (ePu p)) (hp : Pok (b + 1) p) (h0 : 0 < n) (hn : n < 618970019642690137449562112) :
    ∃ i p', f_law_draw [.cell k, .int n] m = ret (.pl (.int i)) (m.set k (ePu p')) ∧ 0 ≤ i ∧ i < n ∧ Pok b p' := by
  obtain ⟨r, m', e, i, p', rfl, rfl, h⟩ := wp_get (law_draw_wp hk hp h0 hn)
  exact ⟨i, p', e, h⟩
/-! ### texts as lists of signs -/
def tx (l : List Nat) : Str := ⟨l.toArray⟩
theorem tx_list (l : List Nat) : (tx l).cps.toList = l := rfl
theorem tx_len (l : List Nat) : (tx l).length = l.length := by show l.toArray.size = _; simp
theorem tx_app (a b : List Nat) : tx a ++ tx b = tx (a ++ b) := by
  show Str.mk (a.toArray ++ b.toArray) = Str.mk (a ++ b).toArray
  simp
theorem tx_inj {a b : List Nat} (h : tx a = tx b) : a = b := by
  have : (tx a).cps.toList = (tx b).cps.toList := by rw [h]
  exact this
theorem tx_to (l : List Nat) (j : Nat) : L2.cutS (tx l) none (some (j : Int)) = tx (l.take j) := by
  unfold L2.cutS
  rw [HT.sIx_none, HT.sIx_nat, tx_len, tx_list]
  simp only [List.drop_zero, Nat.sub_zero]
  show tx _ = tx _
  congr 1
  rw [List.take_eq_take_iff]; omega
theorem tx_from (l : List Nat) (j : Nat) : L2.cutS (tx l) (some (j : Int)) none = tx (l.drop j) := by
  unfold L2.cutS
  rw [HT.sIx_none, HT.sIx_nat, tx_len, tx_list]
  show tx _ = tx _
  congr 1
  rcases Nat.le_total j l.length with h | h
  · rw [Nat.min_eq_left h, List.take_of_length_le (by simp)]
  · rw [Nat.min_eq_right h, List.drop_eq_nil_of_le h]; simp
theorem addS_tx {a b : List Nat} (h : a.length + b.length ≤ 100000) (m : Store) : pAddS (.str (tx a)) (.str (tx b)) m = ret (.str (tx (a ++ b))) m := by
  unfold pAddS
  dsimp only
  rw [if_pos (by rw [tx_len, tx_len]; exact h), tx_app]
theorem inSg_ch {neg : Bool} {c : Nat} {z : Str} {m : Store} : pInSg neg (chS c) (.str z) m = ret (.bl (if neg then !decide (c ∈ z.cps.toList) else decide (c ∈ z.cps.toList))) m := rfl
/-! ### covers: lists of spans that stand apart, one list for one lot of places -/
def hold (s : Sp2) (x : Int) : Prop := s.1 ≤ x ∧ x < s.2
def Held (c : List Sp2) (x : Int) : Prop := ∃ s ∈ c, hold s x
structure Sep (c : List Sp2) : Prop where
  apart : c.Pairwise fun a b => a.2 < b.1
  pos : ∀ s ∈ c, s.1 < s.2
theorem Sep.nil : Sep [] := ⟨.nil, fun s hs => nomatch hs⟩
theorem Sep.tail {s : Sp2} {c : List Sp2} (h : Sep (s :: c)) : Sep c := ⟨(List.pairwise_cons.mp h.apart).2, fun t ht => h.pos t (List.mem_cons_of_mem _ ht)⟩
/-- all of the rest lies behind the head -/
theorem Sep.behind {s : Sp2} {c : List Sp2} (h : Sep (s :: c)) {x : Int} (hx : Held c x) : s.2 < x := by
  obtain ⟨t, ht, h1, h2⟩ := hx
  have := (List.pairwise_cons.mp h.apart).1 t ht
  omega
/-! the sweep -/
/-! ### apart, in plain Lean -/
def Apt (a b : Sp2) : Prop := a.2 ≤ b.1 ∨ b.2 ≤ a.1
theorem Apt.symm {a b : Sp2} (h : Apt a b) : Apt b a := h.elim .inr .inl
noncomputable def e_law_whole : MS :=
  (sRet (eAnd (eIsT "int" (eVar 0)) (eNot (eIsT "bool" (eVar 0)))))
noncomputable def f_law_whole : FnS := fnOf 1 1 e_law_whole
theorem law_whole_eq (i : Int) (m : Store) : f_law_whole [.int i] m = ret (.pl (.bl true)) m := by
  unfold f_law_whole e_law_whole
  simp! only []
  rfl
theorem sh_str {n : Nat} {x : Str} (h : PyData.strOk x = true) : Sh n (.str x) := by cases n <;> exact h
noncomputable def e_law_at : MS :=
  (sSeq (sIf (tst (eOp pLt (eVar 1) (eCB pLen (aCons (eVar 0) aNil)))) (sRet (eOp pIxL (eVar 0) (eVar 1))) sNext)
    (sRet (eC (.int 0))))
noncomputable def f_law_at : FnS := fnOf 2 2 e_law_at
theorem law_at_eq (ns : List Int) (k : Nat) (m : Store) : ∃ i, f_law_at [.scr ns, .int (k : Int)] m = ret (.pl (.int i)) m := by
  by_cases h : k < ns.length
  · refine ⟨ns[k], ?_⟩
    have h2 : L2.atI (ns.map D.int) (k : Int) = some (.int ns[k]) := by
      rw [atI_of (by omega) (by rw [List.length_map]; omega)]
      simp [h]
    unfold f_law_at e_law_at
    simp! only [pLen, pIxL, List.length_map, h2]
    simp [h, fin_same, MX.run]
  · refine ⟨0, ?_⟩
    unfold f_law_at e_law_at
    simp! only [pLen, pIxL, List.length_map]
    simp [h, fin_same, MX.run]
noncomputable def e_law_purse : MS :=
  (sSeq (sSet 2 (pla (fCall0 f_law_at (aCons (eVar 0) (aCons (eVar 1) aNil)))))
    (sRet (cel (fLst (aCons (eCB pMax2 (aCons (eOp pSub (eVar 2) (eOp pPow (eC (.int 10)) (eC (.int 18)))) (aCons (eC (.int 0)) aNil))) (aCons (eOp pMod (eVar 2) (eC (.int 2147483647))) (aCons (eOp pMul (eC (.int 1000)) (eVar 1)) aNil)))))))
noncomputable def f_law_purse : FnS := fnOf 2 3 e_law_purse
theorem law_purse_ok (ns : List Int) (k : Nat) (hk : k ≤ 1000) (m : Store) : ∃ p : Purse, f_law_purse [.scr ns, .int (k : Int)] m = ret (.own [.int p.a, .int p.b, .int p.c]) m ∧ Pok 1000000000000 p := by
  obtain ⟨c, e⟩ := law_at_eq ns k m
  refine ⟨⟨max (c - 1000000000000000000) 0, c % 2147483647, 1000 * (k : Int)⟩, ?_, ?_⟩
  · unfold f_law_purse e_law_purse
    simp! only [e, pMod_pos (j := 2147483647) (by omega), pMul_l (i := 1000) (by omega) (by omega)]
    exact fin_own0 rfl
  · refine ⟨?_, ?_, ?_, ?_⟩ <;> simp <;> omega
noncomputable def e_law_number : MS :=
  (sSeq (sSet 2 (eOp pIxL (dat (fLst (aCons (eC (.int 1)) (aCons (eC (.int 4)) (aCons (eC (.int 30)) (aCons (eVar 1) aNil)))))) (pla (fCall0 f_law_draw (aCons (eVar 0) (aCons (eC (.int 4)) aNil))))))
    (sRet (eOp pSub (pla (fCall0 f_law_draw (aCons (eVar 0) (aCons (eOp pAdd (eOp pMul (eC (.int 2)) (eVar 2)) (eC (.int 1))) aNil)))) (eVar 2))))
noncomputable def f_law_number : FnS := fnOf 2 3 e_law_number
theorem law_number_ok {m : Store} {k b : Nat} {p : Purse} {most : Int} (hk : m[k]? = some (ePu p)) (hp : Pok (b + 2) p) (h0 : 30 ≤ most) (hn : most < 1000000000000000000) :
    ∃ i p', f_law_number [.cell k, .int most] m = ret (.pl (.int i)) (m.set k (ePu p')) ∧ -most ≤ i ∧ i ≤ most ∧ Pok b p' := by
  obtain ⟨i1, p1, e1, h1, h2, hp1⟩ := law_draw_ok (b := b + 1) hk hp (n := 4) (by omega) (by omega)
  have hk1 : (m.set k (ePu p1))[k]? = some (ePu p1) := set_get hk
  obtain ⟨far, hf, hf1, hf2⟩ : ∃ far : Int, L2.atI [D.int 1, .int 4, .int 30, .int most] i1 = some (.int far) ∧ 1 ≤ far ∧ far ≤ most := by
    have : i1 = 0 ∨ i1 = 1 ∨ i1 = 2 ∨ i1 = 3 := by omega
    rcases this with rfl | rfl | rfl | rfl
    · exact ⟨1, rfl, by omega, by omega⟩
    · exact ⟨4, rfl, by omega, by omega⟩
    · exact ⟨30, rfl, by omega, by omega⟩
    · exact ⟨most, rfl, by omega, by omega⟩
  obtain ⟨i2, p2, e2, h3, h4, hp2⟩ := law_draw_ok (b := b) hk1 hp1 (n := 2 * far + 1) (by omega) (by omega)
  refine ⟨i2 - far, p2, ?_, by omega, by omega, hp2⟩
  unfold f_law_number e_law_number
  simp! only [pIxL, e1, hf, pMul_l (i := 2) (by omega) (by omega), e2, List.set_set]
noncomputable def e_law_end : MS :=
  (sSeq (sIf (mAnd (tst (eOp pNeD (eVar 1) (dat (fLst aNil)))) (tst (eOp pGt (pla (fCall0 f_law_draw (aCons (eVar 0) (aCons (eC (.int 3)) aNil)))) (eC (.int 0))))) (sSeq (sSet 3 (eOp pSub (eOp pAdd (eOp pIxL (eVar 1) (pla (fCall0 f_law_draw (aCons (eVar 0) (aCons (eCB pLen (aCons (eVar 1) aNil)) aNil))))) (pla (fCall0 f_law_draw (aCons (eVar 0) (aCons (eC (.int 3)) aNil))))) (eC (.int 1))))
    (sRet (eCB pMax2 (aCons (eOp pSub (eC (.int 0)) (eVar 2)) (aCons (eCB pMin2 (aCons (eVar 2) (aCons (eVar 3) aNil))) aNil))))) sNext)
    (sRet (pla (fCall0 f_law_number (aCons (eVar 0) (aCons (eVar 2) aNil))))))
noncomputable def f_law_end : FnS := fnOf 3 4 e_law_end
theorem law_end_ok {m : Store} {k b : Nat} {p : Purse} {d : D} {ends : List Int} {most : Int} (hk : m[k]? = some (ePu p)) (hd : d = .lst (ends.map D.int) ∨ ∃ l, l ≠ k ∧ d = .cell l ∧ m[l]? = some (.lst (ends.map D.int))) (hl : ends.length ≤ 10000) (hp : Pok (b + 3) p) (h0 : 30 ≤ most) (hn : most < 1000000000000000000) :
    ∃ i p', f_law_end [.cell k, d, .int most] m = ret (.pl (.int i)) (m.set k (ePu p')) ∧ -most ≤ i ∧ i ≤ most ∧ Pok b p' := by
  have hv : ∀ c, vw (m.set k c) d = some (.lst (ends.map D.int)) ∧ rdQ (m.set k c) d = some (ends.map D.int) ∧ rdS (m.set k c) d = some (ends.map D.int) := by
    rcases hd with rfl | ⟨l, hl, rfl, h⟩
    · exact fun c => ⟨rfl, rfl, rfl⟩
    · intro c
      have : (m.set k c)[l]? = some (.lst (ends.map D.int)) := by rw [set_get_ne (fun z => hl z.symm)]; exact h
      exact ⟨vw_cell this, rdQ_cell this, rdS_cell this⟩
  have hv0 : vw m d = some (.lst (ends.map D.int)) := by have := (hv (ePu p)).1; rwa [set_same hk] at this
  by_cases he : ends = []
  · subst he
    obtain ⟨i, p1, e1, h1, h2, hp1⟩ := law_number_ok (b := b) hk (hp.mono (by omega)) h0 hn
    refine ⟨i, p1, ?_, h1, h2, hp1⟩
    unfold f_law_end e_law_end
    simp! only [pNeD_nil hv0 sh_ints, List.isEmpty_nil, Bool.not_true, cond_false, e1]
  · have hne : (ends.map D.int).isEmpty = false := by rw [isEmpty_map]; cases ends <;> first | rfl | exact absurd rfl he
    obtain ⟨i1, p1, e1, h1, h2, hp1⟩ := law_draw_ok (b := b + 2) hk hp (n := 3) (by omega) (by omega)
    have hk1 : (m.set k (ePu p1))[k]? = some (ePu p1) := set_get hk
    by_cases hz : 0 < i1
    · have hpos : 0 < ends.length := List.length_pos_iff.mpr he
      obtain ⟨i2, p2, e2, h3, h4, hp2⟩ := law_draw_ok (b := b + 1) hk1 hp1 (n := (ends.length : Int)) (by omega) (by omega)
      have hk2 : (m.set k (ePu p2))[k]? = some (ePu p2) := set_get hk
      rw [List.set_set] at e2
      obtain ⟨i3, p3, e3, h5, h6, hp3⟩ := law_draw_ok (b := b) hk2 hp2 (n := 3) (by omega) (by omega)
      rw [List.set_set] at e3
      have hx : L2.atI (ends.map D.int) i2 = some (.int (ends.getD i2.toNat 0)) := atI_map (atI_getD 0 h3 h4)
      refine ⟨max (0 - most) (min most (ends.getD i2.toNat 0 + i3 - 1)), p3, ?_, by omega, by omega, hp3⟩
      unfold f_law_end e_law_end
      simp! only [pNeD_nil hv0 sh_ints, hne, Bool.not_false, cond_true, e1, decide_eq_true hz, pIxL, pLen, (hv _).2.1, (hv _).2.2, List.length_map, e2, hx, e3]
    · obtain ⟨i2, p2, e2, h3, h4, hp2⟩ := law_number_ok (b := b) hk1 hp1 h0 hn
      rw [List.set_set] at e2
      refine ⟨i2, p2, ?_, h3, h4, hp2⟩
      unfold f_law_end e_law_end
      simp! only [pNeD_nil hv0 sh_ints, hne, Bool.not_false, cond_true, e1, decide_eq_false hz, cond_false, e2]
noncomputable def e_law_span : MS :=
  (sSeq (sSet 3 (pla (fCall0 f_law_end (aCons (eVar 0) (aCons (eVar 1) (aCons (eVar 2) aNil))))))
    (sSeq (sSet 4 (pla (fCall0 f_law_end (aCons (eVar 0) (aCons (dat (fOp pCat (eVar 1) (dat (fLst (aCons (eVar 3) aNil))))) (aCons (eVar 2) aNil))))))
    (sSeq (sSet 5 (eCB pMin3 (aCons (eVar 3) (aCons (eVar 4) (aCons (eOp pSub (eVar 2) (eC (.int 1))) aNil)))))
    (sSeq (sSet 6 (eCB pMax3 (aCons (eVar 3) (aCons (eVar 4) (aCons (eOp pAdd (eVar 5) (eC (.int 1))) aNil)))))
    (sSeq (sExpr (eBM pAppend (eVar 1) (aCons (eVar 5) aNil)))
    (sSeq (sExpr (eBM pAppend (eVar 1) (aCons (eVar 6) aNil)))
    (sRet (eTup (aCons (eVar 5) (aCons (eVar 6) aNil))))))))))
noncomputable def f_law_span : FnS := fnOf 3 7 e_law_span
theorem law_number_an {m : Store} {k b : Nat} {p : Purse} {most : Int} (hk : m[k]? = some (ePu p)) (hp : Pok (b + 2) p) (h0 : 0 ≤ most) (hn : most < 1000000000000000000) :
    ∃ i p', f_law_number [.cell k, .int most] m = ret (.pl (.int i)) (m.set k (ePu p')) ∧ -(max 30 most) ≤ i ∧ i ≤ max 30 most ∧ Pok b p' := by
  obtain ⟨i1, p1, e1, h1, h2, hp1⟩ := law_draw_ok (b := b + 1) hk hp (n := 4) (by omega) (by omega)
  have hk1 : (m.set k (ePu p1))[k]? = some (ePu p1) := set_get hk
  obtain ⟨far, hf, hf1, hf2⟩ : ∃ far : Int, L2.atI [D.int 1, .int 4, .int 30, .int most] i1 = some (.int far) ∧ 0 ≤ far ∧ far ≤ max 30 most := by
    have : i1 = 0 ∨ i1 = 1 ∨ i1 = 2 ∨ i1 = 3 := by omega
    rcases this with rfl | rfl | rfl | rfl
    · exact ⟨1, rfl, by omega, by omega⟩
    · exact ⟨4, rfl, by omega, by omega⟩
    · exact ⟨30, rfl, by omega, by omega⟩
    · exact ⟨most, rfl, by omega, by omega⟩
  obtain ⟨i2, p2, e2, h3, h4, hp2⟩ := law_draw_ok (b := b) hk1 hp1 (n := 2 * far + 1) (by omega) (by omega)
  refine ⟨i2 - far, p2, ?_, by omega, by omega, hp2⟩
  unfold f_law_number e_law_number
  simp! only [pIxL, e1, hf, pMul_l (i := 2) (by omega) (by omega), e2, List.set_set]
theorem law_end_an {m : Store} {k b : Nat} {p : Purse} {d : D} {ends : List Int} {most : Int} (hk : m[k]? = some (ePu p)) (hd : d = .lst (ends.map D.int) ∨ ∃ l, l ≠ k ∧ d = .cell l ∧ m[l]? = some (.lst (ends.map D.int))) (hl : ends.length ≤ 10000) (hp : Pok (b + 3) p) (h0 : 0 ≤ most) (hn : most < 1000000000000000000) :
    ∃ i p', f_law_end [.cell k, d, .int most] m = ret (.pl (.int i)) (m.set k (ePu p')) ∧ -(max 30 most) ≤ i ∧ i ≤ max 30 most ∧ Pok b p' := by
  have hv : ∀ c, vw (m.set k c) d = some (.lst (ends.map D.int)) ∧ rdQ (m.set k c) d = some (ends.map D.int) ∧ rdS (m.set k c) d = some (ends.map D.int) := by
    rcases hd with rfl | ⟨l, hl, rfl, h⟩
    · exact fun c => ⟨rfl, rfl, rfl⟩
    · intro c
      have : (m.set k c)[l]? = some (.lst (ends.map D.int)) := by rw [set_get_ne (fun z => hl z.symm)]; exact h
      exact ⟨vw_cell this, rdQ_cell this, rdS_cell this⟩
  have hv0 : vw m d = some (.lst (ends.map D.int)) := by have := (hv (ePu p)).1; rwa [set_same hk] at this
  by_cases he : ends = []
  · subst he
    obtain ⟨i, p1, e1, h1, h2, hp1⟩ := law_number_an (b := b) hk (hp.mono (by omega)) h0 hn
    refine ⟨i, p1, ?_, h1, h2, hp1⟩
    unfold f_law_end e_law_end
    simp! only [pNeD_nil hv0 sh_ints, List.isEmpty_nil, Bool.not_true, cond_false, e1]
  · have hne : (ends.map D.int).isEmpty = false := by rw [isEmpty_map]; cases ends <;> first | rfl | exact absurd rfl he
    obtain ⟨i1, p1, e1, h1, h2, hp1⟩ := law_draw_ok (b := b + 2) hk hp (n := 3) (by omega) (by omega)
    have hk1 : (m.set k (ePu p1))[k]? = some (ePu p1) := set_get hk
    by_cases hz : 0 < i1
    · have hpos : 0 < ends.length := List.length_pos_iff.mpr he
      obtain ⟨i2, p2, e2, h3, h4, hp2⟩ := law_draw_ok (b := b + 1) hk1 hp1 (n := (ends.length : Int)) (by omega) (by omega)
      have hk2 : (m.set k (ePu p2))[k]? = some (ePu p2) := set_get hk
      rw [List.set_set] at e2
      obtain ⟨i3, p3, e3, h5, h6, hp3⟩ := law_draw_ok (b := b) hk2 hp2 (n := 3) (by omega) (by omega)
      rw [List.set_set] at e3
      have hx : L2.atI (ends.map D.int) i2 = some (.int (ends.getD i2.toNat 0)) := atI_map (atI_getD 0 h3 h4)
      refine ⟨max (0 - most) (min most (ends.getD i2.toNat 0 + i3 - 1)), p3, ?_, by omega, by omega, hp3⟩
      unfold f_law_end e_law_end
      simp! only [pNeD_nil hv0 sh_ints, hne, Bool.not_false, cond_true, e1, decide_eq_true hz, pIxL, pLen, (hv _).2.1, (hv _).2.2, List.length_map, e2, hx, e3]
    · obtain ⟨i2, p2, e2, h3, h4, hp2⟩ := law_number_an (b := b) hk1 hp1 h0 hn
      rw [List.set_set] at e2
      refine ⟨i2, p2, ?_, h3, h4, hp2⟩
      unfold f_law_end e_law_end
      simp! only [pNeD_nil hv0 sh_ints, hne, Bool.not_false, cond_true, e1, decide_eq_false hz, cond_false, e2]
theorem law_span_any {m : Store} {k l b : Nat} {p : Purse} {ends : List Int} {most : Int} (hkl : k ≠ l) (hk : m[k]? = some (ePu p)) (hl : m[l]? = some (.lst (ends.map D.int))) (hn : ends.length ≤ 9000) (hp : Pok (b + 6) p) (h0 : 0 ≤ most) (h1 : most < 1000000000000000000) :
    ∃ s p', f_law_span [.cell k, .cell l, .int most] m = ret (.pl (eS s)) ((m.set k (ePu p')).set l (.lst ((ends ++ [s.1, s.2]).map D.int))) ∧ -(max 30 most) ≤ s.1 ∧ s.1 < s.2 ∧ s.2 ≤ max 30 most ∧ Pok b p' := by
  obtain ⟨i1, p1, e1, a1, a2, hp1⟩ := law_end_an (b := b + 3) (d := .cell l) hk (.inr ⟨l, fun z => hkl z.symm, rfl, hl⟩) (by omega) hp h0 h1
  have hk1 : (m.set k (ePu p1))[k]? = some (ePu p1) := set_get hk
  have hl1 : ∀ c, (m.set k c)[l]? = some (.lst (ends.map D.int)) := fun c => by rw [set_get_ne hkl]; exact hl
  obtain ⟨i2, p2, e2, a3, a4, hp2⟩ := law_end_an (b := b) (d := .lst ((ends ++ [i1]).map D.int)) hk1 (.inl rfl) (by rw [List.length_append]; show ends.length + 1 ≤ 10000; omega) hp1 h0 h1
  rw [List.set_set] at e2
  refine ⟨(min (min i1 i2) (most - 1), max (max i1 i2) (min (min i1 i2) (most - 1) + 1)), p2, ?_, ?_, ?_, ?_, hp2⟩
  · have e2' : f_law_end [.cell k, .lst (ends.map D.int ++ [.int i1]), .int most] (m.set k (ePu p1)) = ret (.pl (.int i2)) (m.set k (ePu p2)) := by rw [← e2, List.map_append]; rfl
    have hl2 : ∀ c xs, ((m.set k c).set l (.lst xs))[l]? = some (.lst xs) := fun c xs => set_get (hl1 c)
    unfold f_law_span e_law_span
    simp! only [e1, pCat, rdL_cell (hl1 _), List.length_map]
    rw [if_pos (by omega)]
    simp! only [e2', eBM, isLst_cell (hl1 _), isLst_cell (hl2 _ _), pAppend, cellL_cell (hl1 _), cellL_cell (hl2 _ _), List.length_map]
    rw [if_pos (by omega)]
    simp! only [eBM, isLst_cell (hl2 _ _), pAppend, cellL_cell (hl2 _ _), List.length_map, List.length_append]
    rw [if_pos (by omega)]
    simp! only [eS, List.set_set, List.map_append, List.append_assoc]
  · show -(max 30 most) ≤ min (min i1 i2) (most - 1); omega
  · show min (min i1 i2) (most - 1) < max (max i1 i2) (min (min i1 i2) (most - 1) + 1); omega
  · show max (max i1 i2) (min (min i1 i2) (most - 1) + 1) ≤ max 30 most; omega
/-! texts: parts of them, numbers that they write, their order, texts time and again; d.get -/
section
variable {K : PySem.W.Frag} {W : WX} {ta tb tc to td : TE} {a b c o : ME}
/-- a method of a text that is handed one text -/
def eM1 {κ : Type} (f : Str → Str → Store → MX κ) (o a : ME) : En → Store → MX κ := fun δ m => (o δ m).bind fun x m => match x with
  | .str z => (a δ m).bind fun y m => match y with
    | .str w => f z w m
    | _ => none
  | _ => none
theorem so_m1 {κ : Type} {R : Rel V κ} (mon : RMon R) {r : V → List V → Hp → VK → Prop} {f : Str → Str → Store → MX κ} (hf : ∀ z w m res m', f z w m = some (res, m') → ∀ rr F H σ, HR K rr F H m → JAt K W R rr F H σ m (r (.str z) [.str w]) res m')
    (ho : So K W (RE K) to o) (ha : So K W (RE K) ta a) : So K W R (tM1 r to ta) (eM1 f o a) := fun δ m res m' e rr F H σ hr er => by
  show JAt K W R rr F H σ m (fun H Q => to σ H fun x H1 => (∃ a, x = .str a) ∧ ta σ H1 fun y H2 => r x [y] H2 Q) res m'
  rcases bind_some e with ⟨x, m1, e1, e2⟩ | ⟨y, e1, rfl⟩
  · refine (ho δ m _ _ e1 rr F H σ hr er).bind mon hr fun v r1 F1 H1 hr1 x1 rv => ?_
    cases x with
    | str z =>
      cases rv
      dsimp only at e2
      have key : JAt K W R r1 F1 H1 σ m1 (fun H Q => ta σ H fun y H2 => r (.str z) [y] H2 Q) res m' := by
        rcases bind_some e2 with ⟨y, m2, e3, e4⟩ | ⟨y, e3, rfl⟩
        · refine (ha δ m1 _ _ e3 r1 F1 H1 σ hr1 (er.ext x1)).bind mon hr1 fun vy r2 F2 H2 hr2 x2 ry => ?_
          cases y with
          | str w => cases ry; exact hf z w m2 res m' e4 r2 F2 H2 σ hr2
          | _ => cases e4
        · exact (ha δ m1 _ _ e3 r1 F1 H1 σ hr1 (er.ext x1)).thrown
      cases res with
      | ok w => exact fun Q q => ⟨⟨z, rfl⟩, key Q q⟩
      | ex w => exact fun q Q => ⟨⟨z, rfl⟩, key q Q⟩
    | _ => cases e2
  · exact (ho δ m _ _ e1 rr F H σ hr er).thrown
theorem repStr {r : List Addr} {F : Hp} : ∀ zs : List Str, RepAll K r F (zs.map V.str) (zs.map D.str)
  | [] => .nil
  | z :: zs => .cons (.str z) (repStr zs)
/-- s.split(t) -/
abbrev rSplit : V → List V → Hp → VK → Prop := fun x xs H Q => ∃ a b, x = .str a ∧ xs = [.str b] ∧ (b.length == 0) = false ∧ a.length + 2 ≤ sizeLine ∧ rNewStrs (Txt.split a b) H Q
def fSplit (o a : ME) : MF := eM1 (fun z w m => if (w.length == 0) = false ∧ z.length ≤ 90000 then ret (FT.own ((Txt.split z w).map D.str)) m else none) o a
theorem so_split (ho : So K W (RE K) to o) (ha : So K W (RE K) ta a) : So K W (RF K) (tM1 rSplit to ta) (fSplit o a) := so_m1 rf_mon (fun z w m res m' e rr F H σ hr => by
  split at e
  · rename_i hc
    cases e
    refine fun Q q => ⟨z, w, rfl, rfl, hc.1, Evl.sz_of (by omega), fun p hp => ?_⟩
    obtain ⟨q1, q2, q3⟩ := rf_new (xs := (Txt.split z w).map D.str) hr hp (repStr _)
    exact q _ rr F _ q1 q2 q3
  · cases e) ho ha
/-- s.partition(t) -/
abbrev rPart : V → List V → Hp → VK → Prop := fun x xs H Q => ∃ a b, x = .str a ∧ xs = [.str b] ∧ (b.length == 0) = false ∧ a.length ≤ sizeLine ∧ ∀ p, H p = none → Q (.ref p) (upd H p (.tup [.str (Txt.partition a b).1, .str (Txt.partition a b).2.1, .str (Txt.partition a b).2.2]))
def ePart (o a : ME) : ME := eM1 (fun z w m => if (w.length == 0) = false ∧ z.length ≤ 90000 then ret (.tup [.str (Txt.partition z w).1, .str (Txt.partition z w).2.1, .str (Txt.partition z w).2.2]) m else none) o a
theorem so_part (ho : So K W (RE K) to o) (ha : So K W (RE K) ta a) : So K W (RE K) (tM1 rPart to ta) (ePart o a) := so_m1 re_mon (fun z w m res m' e rr F H σ hr => by
  split at e
  · rename_i hc
    cases e
    exact fun Q q => ⟨z, w, rfl, rfl, hc.1, Evl.sz_of (by omega), fun p hp => q _ rr _ _ (hr.laid hp) (Ext.laid hr hp) (.tup upd_same (.cons (.str _) (.cons (.str _) (.cons (.str _) .nil))))⟩
  · cases e) ho ha
/-- int(s) -/
abbrev rIntS : List V → Hp → VK → Prop := fun xs H Q => ∃ a n, xs = [.str a] ∧ PySem.intText? a = some n ∧ a.length ≤ 640 ∧ Q (.int n) H
def pIntS : List D → Store → MX D := fun xs m => match xs with
  | [.str z] => if z.length ≤ 640 then (PySem.intText? z).bind fun n => ret (.int n) m else none
  | _ => none
theorem sc_pIntS : SC K W (RE K) rIntS pIntS := fun xs m res m' e r F H σ vs hr p => by
  unfold pIntS at e
  split at e
  · rename_i z
    split at e
    · rename_i hz
      cases h0 : PySem.intText? z with
      | none => rw [h0] at e; cases e
      | some n =>
        rw [h0] at e
        cases e
        obtain ⟨v, rfl, pv⟩ := rep1 p
        cases pv
        exact fun Q q => ⟨z, n, rfl, h0, hz, q _ r F H hr (Ext.refl hr) (.int _)⟩
    · cases e
  · cases e
end
/-! a text time and again -/
section
variable {K : PySem.W.Frag} {W : WX} {ta tb tc to td : TE} {a b c o : ME}
end
/-! ### numbers and spans as texts -/
open PySem PySem.NumText
/-- the signs of a whole number -/
def numZ (i : Int) : List Nat := if i < 0 then 45 :: TL.numL i.natAbs else TL.numL i.natAbs
theorem numZ_pos {n : Nat} : numZ (n : Int) = TL.numL n := by
  unfold numZ
  rw [if_neg (by omega), Int.natAbs_natCast]
theorem numZ_neg {n : Nat} : numZ (-((n + 1 : Nat) : Int)) = 45 :: TL.numL (n + 1) := by
  unfold numZ
  rw [if_pos (by omega)]
  congr 2
theorem int_cases (i : Int) : (∃ n : Nat, i = (n : Int)) ∨ ∃ n : Nat, i = -((n + 1 : Nat) : Int) := by
  by_cases h : 0 ≤ i
  · exact .inl ⟨i.toNat, by omega⟩
  · exact .inr ⟨(-i).toNat - 1, by omega⟩
theorem str_int (i : Int) : Str.ofString (toString i) = tx (numZ i) := by
  refine TL.ext_tl ?_
  show _ = numZ i
  rcases int_cases i with ⟨n, rfl⟩ | ⟨n, rfl⟩
  · rw [numZ_pos, TL.tl_num]
  · rw [numZ_neg]
    have e : toString (-((n + 1 : Nat) : Int)) = "-" ++ toString (((n + 1 : Nat)) : Int) := rfl
    have t := TL.tl_num (n + 1)
    rw [TL.tl_ofString] at t
    rw [e, TL.tl_ofString, String.toList_append, List.map_append, t]
    rfl
theorem numZ_sign {i : Int} : ∀ c ∈ numZ i, c = 45 ∨ (48 ≤ c ∧ c ≤ 57) := fun c hc => by
  unfold numZ at hc
  split at hc
  · rcases List.mem_cons.mp hc with rfl | hc
    · exact .inl rfl
    · exact .inr (TL.numL_digits _ c hc)
  · exact .inr (TL.numL_digits _ c hc)
theorem numZ_free {i : Int} {c : Nat} (h : c ≠ 45) (h2 : c < 48 ∨ 57 < c) : c ∉ numZ i := fun hc => by
  rcases numZ_sign c hc with rfl | hc
  · exact h rfl
  · omega
theorem numL_12 {n : Nat} (h : n < 1000000000000) : (TL.numL n).length ≤ 12 := TL.numL_len (by decide) (by omega)
theorem numZ_len {i : Int} (h : -1000000000000 < i) (h2 : i < 1000000000000) : (numZ i).length ≤ 13 := by
  unfold numZ
  have := numL_12 (n := i.natAbs) (by omega)
  split
  · rw [List.length_cons]; omega
  · omega
theorem numL_zero : TL.numL 0 = [48] := TL.numL_lt (by decide)
/-- the first figure -/
theorem numL_head : ∀ {n : Nat}, n ≠ 0 → ∃ c l, TL.numL n = c :: l ∧ c ≠ 48 := fun {n} => by
  induction n using Nat.strongRecOn with
  | _ n ih =>
    intro hn
    by_cases h : n < 10
    · exact ⟨48 + n, [], TL.numL_lt h, by omega⟩
    · obtain ⟨c, l, e, hc⟩ := ih (n / 10) (by omega) (by omega)
      rw [TL.numL_step (by omega), e]
      exact ⟨c, l ++ [48 + n % 10], rfl, hc⟩
theorem int_read {i : Int} (h : -1000000000000 < i) (h2 : i < 1000000000000) : intText? (tx (numZ i)) = some i := by
  have l := numZ_len h h2
  rcases int_cases i with ⟨n, rfl⟩ | ⟨n, rfl⟩
  · rw [numZ_pos] at l ⊢
    have := intText_digits (x := tx (TL.numL n)) (TL.numL_digits n) (TL.numL_ne n) (by rw [tx_len]; omega)
    rw [this]
    show some ((digitsVal (TL.numL n) : Nat) : Int) = _
    rw [TL.numL_val]
  · rw [numZ_neg] at l ⊢
    have := intText_neg (x := tx (45 :: TL.numL (n + 1))) (cs := TL.numL (n + 1)) rfl (TL.numL_digits _) (TL.numL_ne _) (by rw [tx_len]; omega)
    rw [this, TL.numL_val]
theorem strI_tx {i : Int} (h : -1000000000001 < i) (h2 : i < 1000000000001) (m : Store) : pStrI [.int i] m = ret (.str (tx (numZ i))) m := by
  have l : i.natAbs.log2 < 1920 := by
    by_cases z : i.natAbs = 0
    · rw [z]; decide
    · have := (Nat.log2_lt z (k := 64)).mpr (by omega)
      omega
  show (if i.natAbs.log2 < 1920 then ret (D.str (Str.ofString (toString i))) m else none) = _
  rw [if_pos l, str_int]
/-- a span's text -/
def spanL (s : Sp2) : List Nat := numZ s.1 ++ ([46, 46] ++ numZ s.2)
theorem spanL_free {s : Sp2} : (32 : Nat) ∉ spanL s := fun h => by
  unfold spanL at h
  rcases List.mem_append.mp h with h | h
  · exact numZ_free (by decide) (.inl (by decide)) h
  · rcases List.mem_append.mp h with h | h
    · simp at h
    · exact numZ_free (by decide) (.inl (by decide)) h
theorem spanL_len {s : Sp2} (h : isSpan s = true) : (spanL s).length ≤ 28 := by
  have g := good_iff.mp h
  have a := numZ_len (i := s.1) (by have := g.1; omega) (by have := g.1; have := g.2.1; have := g.2.2; omega)
  have b := numZ_len (i := s.2) (by have := g.1; have := g.2.1; have := g.2.2; omega) (by have := g.2.2; omega)
  unfold spanL
  rw [List.length_append, List.length_append]
  show _ + (2 + _) ≤ _
  omega
theorem dd_tx : (".." : Str) = tx [46, 46] := by decide +kernel
theorem part_span (s : Sp2) : Txt.partition (tx (spanL s)) (".." : Str) = (tx (numZ s.1), (".." : Str), tx (numZ s.2)) := by
  have e : tx (spanL s) = tx (numZ s.1) ++ (".." : Str) ++ tx (numZ s.2) := by
    rw [dd_tx, tx_app, tx_app, List.append_assoc]; rfl
  rw [e]
  exact TL.partition_app (s := 46) (S := [46]) (by rw [dd_tx]; rfl) (numZ_free (by decide) (.inl (by decide)))
/-- a cover's text -/
def coverL (ss : List Sp2) : List Nat := TL.joinL [32] (ss.map spanL)
theorem sp_tx : (" " : Str) = tx [32] := by decide +kernel
theorem join_span (ss : List Sp2) : Txt.join (" " : Str) (ss.map fun s => tx (spanL s)) = tx (coverL ss) := by
  refine TL.ext_tl ?_
  rw [TL.join_eq, TL.tl_join, List.map_map, sp_tx]
  rfl
theorem split_span {ss : List Sp2} (h : ss ≠ []) : Txt.split (tx (coverL ss)) (" " : Str) = ss.map fun s => tx (spanL s) := by
  rw [← join_span]
  refine TL.split_join (s := 32) (S := []) (by rw [sp_tx]; rfl) (by decide +kernel) (fun e => h (List.map_eq_nil_iff.mp e)) fun p hp => ?_
  obtain ⟨s, _, rfl⟩ := List.mem_map.mp hp
  exact spanL_free
theorem joinL_len : ∀ (ls : List (List Nat)) (k : Nat), (∀ l ∈ ls, l.length ≤ k) → (TL.joinL [32] ls).length ≤ ls.length * (k + 1)
  | [], _, _ => Nat.zero_le _
  | [a], k, h => by
    have := h a List.mem_cons_self
    show a.length ≤ 1 * (k + 1)
    omega
  | a :: b :: r, k, h => by
    have h1 := h a List.mem_cons_self
    have h2 := joinL_len (b :: r) k fun l hl => h l (List.mem_cons_of_mem _ hl)
    show (a ++ ([32] ++ TL.joinL [32] (b :: r))).length ≤ _
    rw [List.length_append, List.length_append, List.length_cons]
    show a.length + (1 + _) ≤ _
    have e : (a :: b :: r).length * (k + 1) = (b :: r).length * (k + 1) + (k + 1) := by rw [List.length_cons, Nat.add_mul, Nat.one_mul]
    omega
theorem coverL_len {ss : List Sp2} (h : ∀ s ∈ ss, isSpan s = true) : (coverL ss).length ≤ ss.length * 29 := by
  have := joinL_len (ss.map spanL) 28 fun l hl => by
    obtain ⟨s, hs, rfl⟩ := List.mem_map.mp hl
    exact spanL_len (h s hs)
  rwa [List.length_map] at this
theorem spanL_ne (s : Sp2) : spanL s ≠ [] := by
  unfold spanL
  intro h
  have := congrArg List.length h
  rw [List.length_append, List.length_append] at this
  have h2 : ([46, 46] : List Nat).length = 2 := rfl
  simp only [List.length_nil] at this
  omega
theorem coverL_ne : ∀ {ss : List Sp2}, ss ≠ [] → coverL ss ≠ []
  | [], h => absurd rfl h
  | [s], _ => spanL_ne s
  | s :: t :: r, _ => by
    show spanL s ++ _ ≠ []
    intro h
    exact spanL_ne s (List.append_eq_nil_iff.mp h).1
theorem numZ_lt {i : Int} : ∀ c ∈ numZ i, c < 128 := fun c hc => by rcases numZ_sign c hc with rfl | h <;> omega
theorem strOk_tx {l : List Nat} (h : ∀ c ∈ l, c < 128) : PyData.strOk (tx l) = true := by
  show (Array.all l.toArray fun c => decide (c < 0x110000)) = true
  rw [← Array.all_toList, List.all_eq_true]
  intro c hc
  have := h c hc
  exact decide_eq_true (by omega)
theorem spanL_lt {s : Sp2} : ∀ c ∈ spanL s, c < 128 := fun c hc => by
  unfold spanL at hc
  rcases List.mem_append.mp hc with h | h
  · exact numZ_lt c h
  · rcases List.mem_append.mp h with h | h
    · simp at h; omega
    · exact numZ_lt c h
theorem joinL_mem : ∀ {ls : List (List Nat)} {c : Nat}, c ∈ TL.joinL [32] ls → c = 32 ∨ ∃ l ∈ ls, c ∈ l
  | [], c, h => nomatch h
  | [a], c, h => .inr ⟨a, List.mem_cons_self, h⟩
  | a :: b :: r, c, h => by
    have h : c ∈ a ++ ([32] ++ TL.joinL [32] (b :: r)) := h
    rcases List.mem_append.mp h with h | h
    · exact .inr ⟨a, List.mem_cons_self, h⟩
    · rcases List.mem_append.mp h with h | h
      · exact .inl (List.mem_singleton.mp h)
      · rcases joinL_mem h with h | ⟨l, hl, hc⟩
        · exact .inl h
        · exact .inr ⟨l, List.mem_cons_of_mem _ hl, hc⟩
theorem coverL_lt {ss : List Sp2} : ∀ c ∈ coverL ss, c < 128 := fun c hc => by
  rcases joinL_mem hc with rfl | ⟨l, hl, hc⟩
  · decide
  · obtain ⟨s, _, rfl⟩ := List.mem_map.mp hl
    exact spanL_lt c hc
noncomputable def e_law_span_text : MS :=
  (sRet (eOp pAddS (eOp pAddS (eCB pStrI (aCons (eOp pIxT (eVar 0) (eC (.int 0))) aNil)) (eC (.str ".."))) (eCB pStrI (aCons (eOp pIxT (eVar 0) (eC (.int 1))) aNil))))
noncomputable def f_law_span_text : FnS := fnOf 1 1 e_law_span_text
theorem law_span_text_eq {s : Sp2} (h : isSpan s = true) (m : Store) : f_law_span_text [eS s] m = ret (.pl (.str (tx (spanL s)))) m := by
  have g := good_iff.mp h
  have g1 := g.1
  have g2 := g.2.1
  have g3 := g.2.2
  have a := numZ_len (i := s.1) (by omega) (by omega)
  have b := numZ_len (i := s.2) (by omega) (by omega)
  have e1 := addS_tx (a := numZ s.1) (b := [46, 46]) (by show _ + 2 ≤ _; omega) m
  have e2 := addS_tx (a := numZ s.1 ++ [46, 46]) (b := numZ s.2) (by rw [List.length_append]; show _ + 2 + _ ≤ _; omega) m
  have e3 : numZ s.1 ++ [46, 46] ++ numZ s.2 = spanL s := by rw [List.append_assoc]; rfl
  rw [e3] at e2
  unfold f_law_span_text e_law_span_text
  simp! only [eS, strI_tx (i := s.1) (by omega) (by omega), strI_tx (i := s.2) (by omega) (by omega), dd_tx, e1, e2]
noncomputable def e_is_place : MS :=
  (sRet (eChain pLt pLt (eOp pSub (eC (.int 0)) (eC (.int 1000000000000))) (eVar 0) (eC (.int 1000000000000))))
noncomputable def f_is_place : FnS := fnOf 1 1 e_is_place
theorem is_place_eq (i : Int) (m : Store) : f_is_place [.int i] m = ret (.pl (.bl (isPlace i))) m := by
  unfold f_is_place e_is_place isPlace
  simp! only []
noncomputable def e_is_span : MS :=
  (sRet (eAnd (pla (fCall0 f_is_place (aCons (eOp pIxT (eVar 0) (eC (.int 0))) aNil))) (eAnd (pla (fCall0 f_is_place (aCons (eOp pIxT (eVar 0) (eC (.int 1))) aNil))) (eOp pLt (eOp pIxT (eVar 0) (eC (.int 0))) (eOp pIxT (eVar 0) (eC (.int 1)))))))
noncomputable def f_is_span : FnS := fnOf 1 1 e_is_span
theorem is_span_eq (s : Sp2) (m : Store) : f_is_span [eS s] m = ret (.pl (.bl (isSpan s))) m := by
  unfold f_is_span e_is_span isSpan eS
  simp! only [is_place_eq]
noncomputable def e_must_span : MS :=
  (sIf (mNot (tst (pla (fCall0 f_is_span (aCons (eVar 0) aNil))))) (sRaise "NoSpan") sNext)
noncomputable def f_must_span : FnS := fnOf 1 1 e_must_span
theorem must_span_eq (s : Sp2) (m : Store) : f_must_span [eS s] m = if isSpan s = true then ret (.pl .non) m else some (.ex "NoSpan", m) := by
  unfold f_must_span e_must_span
  simp! only [is_span_eq]
  cases isSpan s <;> simp [fin_same, cutS]
noncomputable def e_show_span : MS :=
  (sSeq (sExpr (pla (fCall f_must_span (aCons (eVar 0) aNil))))
    (sRet (eOp pAddS (eOp pAddS (eCB pStrI (aCons (eOp pIxT (eVar 0) (eC (.int 0))) aNil)) (eC (.str ".."))) (eCB pStrI (aCons (eOp pIxT (eVar 0) (eC (.int 1))) aNil)))))
noncomputable def f_show_span : FnS := fnOf 1 1 e_show_span
theorem show_span_eq (s : Sp2) (m : Store) : f_show_span [eS s] m = if isSpan s = true then ret (.pl (.str (tx (spanL s)))) m else some (.ex "NoSpan", m) := by
  have ms := must_span_eq s m
  unfold f_show_span e_show_span
  by_cases h : isSpan s = true
  · rw [if_pos h] at ms ⊢
    have g := good_iff.mp h
    have g1 := g.1
    have g2 := g.2.1
    have g3 := g.2.2
    have a := numZ_len (i := s.1) (by omega) (by omega)
    have b := numZ_len (i := s.2) (by omega) (by omega)
    have e1 := addS_tx (a := numZ s.1) (b := [46, 46]) (by show _ + 2 ≤ _; omega) m
    have e2 := addS_tx (a := numZ s.1 ++ [46, 46]) (b := numZ s.2) (by rw [List.length_append]; show _ + 2 + _ ≤ _; omega) m
    have e3 : numZ s.1 ++ [46, 46] ++ numZ s.2 = spanL s := by rw [List.append_assoc]; rfl
    rw [e3] at e2
    have t1 := strI_tx (i := s.1) (by omega) (by omega) m
    have t2 := strI_tx (i := s.2) (by omega) (by omega) m
    simp! only [ms]
    simp! only [eS, t1, t2, dd_tx, e1, e2]
  · rw [if_neg h] at ms ⊢
    simp! only [ms, cut_same]
noncomputable def e_must_spans : MS :=
  (sFor (wList (eVar 0)) (mName 1)
    (sExpr (pla (fCall f_must_span (aCons (eVar 1) aNil)))))
noncomputable def f_must_spans : FnS := fnOf 1 2 e_must_spans
theorem must_spans_eq {m : Store} {d : D} {ss : List Sp2} (h : Rd m d (ss.map eS)) : f_must_spans [d] m = if ss.all isSpan = true then ret (.pl .non) m else some (.ex "NoSpan", m) := by
  have key : wp (f_must_spans [d] m) (fun r m' => r = (if ss.all isSpan = true then .ok (.pl .non) else .ex "NoSpan") ∧ m' = m) := by
    unfold f_must_spans e_must_spans
    refine wp_fnI rfl ?_
    simp_arith only [h.q]
    refine ws_forT (en := eS) (I := fun l δ m' => m' = m ∧ (∃ z, δ = [some d, z]) ∧ ∃ pre, ss = pre ++ l ∧ pre.all isSpan = true) (fun _ _ _ ⟨e, _⟩ => e ▸ h.chk) ?_ ?_ ?_
    · rintro δ m' ⟨rfl, ⟨z, rfl⟩, pre, e, hp⟩
      rw [List.append_nil] at e
      subst e
      simp_arith only [hp, and_self]
    · rintro x l δ m' ⟨rfl, ⟨z, rfl⟩, pre, e, hp⟩
      refine ⟨_, rfl, ?_⟩
      cases hx : isSpan x with
      | true =>
        simp_arith only [must_span_eq, hx]
        exact ⟨trivial, ⟨_, rfl⟩, pre ++ [x], by rw [e]; simp, by simp [hp, hx]⟩
      | false =>
        have : ss.all isSpan = false := by rw [e]; simp [hx]
        simp_arith only [must_span_eq, hx, Bool.false_eq_true, this, and_self]
    · exact ⟨rfl, ⟨_, rfl⟩, [], rfl, rfl⟩
  rw [eq_of_wp key]
  split <;> rfl
noncomputable def e_must_cover : MS :=
  (sSeq (sExpr (pla (fCall f_must_spans (aCons (eVar 0) aNil))))
    (sSeq (sIf (tst (eOp pGt (eCB pLen (aCons (eVar 0) aNil)) (eC (.int 200)))) (sRaise "NoCover") sNext)
    (sFor (wZip (aCons (eVar 0) (aCons (dat (fSl (eVar 0) (oSome (eC (.int 1))) oNone)) aNil))) (mTup (msCons (mName 1) (msCons (mName 2) msNil)))
    (sIf (tst (eOp pLe (eOp pIxT (eVar 2) (eC (.int 0))) (eOp pIxT (eVar 1) (eC (.int 1))))) (sRaise "NoCover") sNext))))
noncomputable def f_must_cover : FnS := fnOf 1 3 e_must_cover
/-- each begins beyond the end of the one ahead -/
def risesB : List Sp2 → Bool
  | a :: b :: l => decide (a.2 < b.1) && risesB (b :: l)
  | _ => true
def isCover (c : List Sp2) : Bool := decide (c.length ≤ 200) && risesB c
theorem rises_sep : ∀ {c : List Sp2}, (∀ s ∈ c, s.1 < s.2) → (risesB c = true ↔ Sep c)
  | [], _ => ⟨fun _ => Sep.nil, fun _ => rfl⟩
  | [a], h => ⟨fun _ => ⟨List.pairwise_singleton _ _, h⟩, fun _ => rfl⟩
  | a :: b :: l, h => by
    have ih := rises_sep (c := b :: l) fun s hs => h s (List.mem_cons_of_mem _ hs)
    show (decide (a.2 < b.1) && risesB (b :: l)) = true ↔ _
    rw [Bool.and_eq_true, decide_eq_true_eq, ih]
    constructor
    · rintro ⟨h1, h2⟩
      refine ⟨List.pairwise_cons.mpr ⟨fun t ht => ?_, h2.apart⟩, h⟩
      rcases List.mem_cons.mp ht with rfl | ht
      · exact h1
      · have := (List.pairwise_cons.mp h2.apart).1 t ht
        have := h b (by simp)
        omega
    · intro q
      exact ⟨(List.pairwise_cons.mp q.apart).1 b List.mem_cons_self, q.tail⟩
theorem zipD_map (c e : List Sp2) : zipD (c.map eS) (e.map eS) = (c.zip e).map fun p => D.tup [eS p.1, eS p.2] := by
  induction c generalizing e with
  | nil => rfl
  | cons a c ih =>
    cases e with
    | nil => rfl
    | cons b e => simp [zipD, ih]
theorem cutD_1 (xs : List D) : cutD xs (some 1) none = xs.drop 1 := by
  unfold cutD
  rw [show HT.sIx xs.length 0 (some 1) = min 1 xs.length from HT.sIx_nat _ _ 1, HT.sIx_none]
  cases xs with
  | nil => rfl
  | cons x xs =>
    have : min 1 (x :: xs).length = 1 := by simp
    rw [this]; simp
theorem must_cover_eq {m : Store} {d : D} {c : List Sp2} (h : Rd m d (c.map eS)) : f_must_cover [d] m = if c.all isSpan = true then (if isCover c = true then ret (.pl .non) m else some (.ex "NoCover", m)) else some (.ex "NoSpan", m) := by
  unfold f_must_cover e_must_cover
  cases ha : c.all isSpan with
  | false => simp! only [must_spans_eq h, ha, Bool.false_eq_true, cut_same]
  | true =>
    by_cases hl : 200 < c.length
    · have hn : isCover c = false := by unfold isCover; rw [decide_eq_false (by omega)]; rfl
      have hl' : (200 : Int) < (c.length : Int) := by omega
      simp! only [must_spans_eq h, ha, h.s, List.length_map, decide_eq_true hl', hn, Bool.false_eq_true, cut_same]
    · have hc : isCover c = risesB c := by unfold isCover; rw [decide_eq_true (by omega)]; rfl
      have hl' : ¬ (200 : Int) < (c.length : Int) := by omega
      have key : wp (fnOf 1 3 e_must_cover [d] m) (fun r m' => r = (if risesB c = true then .ok (.pl .non) else .ex "NoCover") ∧ m' = m) := by
        unfold e_must_cover
        refine wp_fnI rfl ?_
        simp_arith only [must_spans_eq h, ha, h.s, List.length_map, decide_eq_false hl', h.q, cutD_1, ← List.map_drop, zipD_map, srcOf_lst, List.append_nil]
        refine ws_forT (en := fun p : Sp2 × Sp2 => D.tup [eS p.1, eS p.2]) (I := fun l δ m' => m' = m ∧ (∃ z1 z2, δ = [some d, z1, z2]) ∧ ∃ c', l = c'.zip (c'.drop 1) ∧ risesB c = risesB c') (fun _ _ _ ⟨e, _⟩ => e ▸ fun p hp => h.c p hp) ?_ ?_ ?_
        · rintro δ m' ⟨rfl, ⟨z1, z2, rfl⟩, c', e, hr⟩
          have : risesB c' = true := by
            cases c' with
            | nil => rfl
            | cons a c' => cases c' with
              | nil => rfl
              | cons b c' => cases e
          simp_arith only [hr, this, and_self]
        · rintro x l δ m' ⟨rfl, ⟨z1, z2, rfl⟩, c', e, hr⟩
          cases c' with
          | nil => cases e
          | cons a c' =>
            cases c' with
            | nil => cases e
            | cons b c' =>
              cases e
              refine ⟨_, rfl, ?_⟩
              by_cases hx : b.1 ≤ a.2
              · have : risesB c = false := by rw [hr]; show (decide (a.2 < b.1) && risesB (b :: c')) = false; rw [decide_eq_false (by omega)]; rfl
                simp_arith only [eS, decide_eq_true hx, this, Bool.false_eq_true, and_self]
              · have : risesB c = risesB (b :: c') := by rw [hr]; show (decide (a.2 < b.1) && risesB (b :: c')) = _; rw [decide_eq_true (by omega)]; rfl
                simp_arith only [eS, decide_eq_false hx]
                exact ⟨trivial, ⟨_, _, rfl⟩, b :: c', rfl, this⟩
        · exact ⟨rfl, ⟨_, _, rfl⟩, c, rfl, rfl⟩
      have e := eq_of_wp key
      unfold e_must_cover at e
      rw [e, hc]
      split <;> simp_all
noncomputable def e_show_cover : MS :=
  (sSeq (sExpr (pla (fCall f_must_cover (aCons (eVar 0) aNil))))
    (sRet (eJoin (eC (.str " ")) (dat (fLc (wList (eVar 0)) (mName 1) mYes (pla (fCall0 f_show_span (aCons (eVar 1) aNil))) [1])))))
noncomputable def f_show_cover : FnS := fnOf 1 2 e_show_cover
theorem show_cover_eq {m : Store} {d : D} {ss : List Sp2} (hd : Rd m d (ss.map eS)) (hl : ss.length ≤ 1000) : f_show_cover [d] m = if ss.all isSpan = true then (if isCover ss = true then ret (.pl (.str (tx (coverL ss)))) m else some (.ex "NoCover", m)) else some (.ex "NoSpan", m) := by
  have mc := must_cover_eq hd
  have n1 : ss.length < 100000 := by omega
  unfold f_show_cover e_show_cover
  by_cases h : ss.all isSpan = true
  · rw [if_pos h] at mc ⊢
    by_cases hc : isCover ss = true
    · rw [if_pos hc] at mc ⊢
      rw [List.all_eq_true] at h
      have lc : lcM (mName 1) mYes (pla (fCall0 f_show_span (aCons (eVar 1) aNil))) (Wk.mk (ss.map eS) (srcOf d (ss.map eS))).chk [some d, none] (ss.map eS) m = ret ((ss.map fun s => tx (spanL s)).map D.str) m := by
        rw [List.map_map]
        exact lcM_map hd.chk eS _ ss fun s hs => ⟨[some d, some (eS s)], rfl, by
          have := show_span_eq s m
          rw [if_pos (h s hs)] at this
          simp! only [this]
          rfl⟩
      have sm : ((ss.map fun s => tx (spanL s)).map (·.length)).sum + (ss.map fun s => tx (spanL s)).length * (" " : Str).length ≤ 16777216 := by
        have l1 : (" " : Str).length = 1 := by decide +kernel
        have l2 : ∀ l : List Sp2, (∀ s ∈ l, isSpan s = true) → ((l.map fun s => tx (spanL s)).map (·.length)).sum ≤ l.length * 28 := fun l => by
          induction l with
          | nil => simp
          | cons s l ih =>
            intro q
            have h1 := spanL_len (q s List.mem_cons_self)
            have h2 := ih fun x hx => q x (List.mem_cons_of_mem _ hx)
            rw [List.map_cons, List.map_cons, List.sum_cons, tx_len, List.length_cons]
            omega
        have := l2 ss h
        rw [l1, List.length_map]
        omega
      simp! only [mc, eJoin, hd.q, List.length_map, n1, wipeE, lc, rdQ_lst, toStrs_map]
      rw [if_pos (by simpa using sm), join_span]
      simp! only []
    · rw [if_neg hc] at mc ⊢
      simp! only [mc, cut_same]
  · rw [if_neg h] at mc ⊢
    simp! only [mc, cut_same]
theorem isXk_ve (x : Str) : isXk "ValueError" x = true := rfl
noncomputable def e_law_class : MS :=
  (sSeq (sIf (tst (eOp pIsN (eVar 0) (eC .non))) (sRet (eC (.str "done"))) sNext)
    (sSeq (sSet 1 (dat (fLst (aCons (eIsX kinds "NoSpan" (eVar 0)) (aCons (eIsX kinds "NoPlace" (eVar 0)) (aCons (eIsX kinds "NoCover" (eVar 0)) aNil))))))
    (sSeq (sSet 1 (dat (fOp pCat (eVar 1) (dat (fLst (aCons (eIsX kinds "NoWeight" (eVar 0)) (aCons (eIsX kinds "NoCount" (eVar 0)) (aCons (eIsX kinds "NoName" (eVar 0)) aNil))))))))
    (sSeq (sSet 1 (dat (fOp pCat (eVar 1) (dat (fLst (aCons (eIsX kinds "Twice" (eVar 0)) (aCons (eIsX kinds "Full" (eVar 0)) (aCons (eIsX kinds "Bare" (eVar 0)) aNil))))))))
    (sSeq (sSet 1 (dat (fOp pCat (eVar 1) (dat (fLst (aCons (eIsX kinds "NoDeed" (eVar 0)) (aCons (eIsX kinds "NoText" (eVar 0)) (aCons (eIsX kinds "NoLine" (eVar 0)) aNil))))))))
    (sSeq (sSet 2 (dat (fLst (aCons (eC (.str "span")) (aCons (eC (.str "place")) (aCons (eC (.str "cover")) (aCons (eC (.str "weight")) (aCons (eC (.str "count")) (aCons (eC (.str "name")) (aCons (eC (.str "twice")) (aCons (eC (.str "full")) (aCons (eC (.str "bare")) (aCons (eC (.str "deed")) (aCons (eC (.str "text")) (aCons (eC (.str "line")) aNil)))))))))))))))
    (sSeq (sSet 5 (dat (fLc (wZip (aCons (eVar 2) (aCons (eVar 1) aNil))) (mTup (msCons (mName 3) (msCons (mName 4) msNil))) (tst (eVar 4)) (eVar 3) [3, 4])))
    (sSeq (sIf (mOr (tst (eOp pNe (eCB pLen (aCons (eVar 5) aNil)) (eC (.int 1)))) (mNot (tst (eIsX kinds "ValueError" (eVar 0))))) (sRet (eC (.str "odd"))) sNext)
    (sRet (eOp pIxL (eVar 5) (eC (.int 0))))))))))))
noncomputable def f_law_class : FnS := fnOf 1 6 e_law_class
def kwords : List Str := ["span", "place", "cover", "weight", "count", "name", "twice", "full", "bare", "deed", "text", "line"]
def wordOf (x : Str) : Str := kwords.getD (kinds.idxOf x) "odd"
theorem zip_bl : ∀ (ws : List Str) (bs : List Bool), zipD (ws.map D.str) (bs.map D.bl) = (ws.zip bs).map fun p => D.tup [.str p.1, .bl p.2]
  | [], _ => by simp [zipD]
  | _ :: _, [] => by simp [zipD]
  | w :: ws, b :: bs => by
    rw [List.map_cons, List.map_cons, List.zip_cons_cons, List.map_cons]
    unfold zipD
    rw [zip_bl]
theorem law_class_exc {x : Str} (m : Store) (h : x ∈ kinds) : f_law_class [.exc x] m = ret (.pl (.str (wordOf x))) m := by
  obtain ⟨bs, hbs⟩ : ∃ bs : List Bool, bs = kinds.map fun c => isXk c x := ⟨_, rfl⟩
  have hone : ((kwords.zip bs).filter (·.2)).map (·.1) = [wordOf x] := by
    rw [hbs]
    simp [kinds] at h
    rcases h with rfl | rfl | rfl | rfl | rfl | rfl | rfl | rfl | rfl | rfl | rfl | rfl <;> decide +kernel
  have hl : (kwords.zip bs).length < 100000 := by rw [List.length_zip]; have : kwords.length = 12 := rfl; omega
  have hx : x = "ShelfError" ∨ x ∈ kinds := .inr h
  apply eq_of_wp
  unfold f_law_class e_law_class
  refine wp_fnI rfl ?_
  apply ws_step (δ' := [some (.exc x), none, none, none, none, none]) (m' := m)
  · simp! only [D.isNon]
  apply ws_step (δ' := [some (.exc x), some (.lst [.bl (isXk "NoSpan" x), .bl (isXk "NoPlace" x), .bl (isXk "NoCover" x)]), none, none, none, none]) (m' := m)
  · simp! only [eIsX, hx]
  apply ws_step (δ' := [some (.exc x), some (.lst [.bl (isXk "NoSpan" x), .bl (isXk "NoPlace" x), .bl (isXk "NoCover" x), .bl (isXk "NoWeight" x), .bl (isXk "NoCount" x), .bl (isXk "NoName" x)]), none, none, none, none]) (m' := m)
  · simp! only [eIsX, hx]
  apply ws_step (δ' := [some (.exc x), some (.lst [.bl (isXk "NoSpan" x), .bl (isXk "NoPlace" x), .bl (isXk "NoCover" x), .bl (isXk "NoWeight" x), .bl (isXk "NoCount" x), .bl (isXk "NoName" x), .bl (isXk "Twice" x), .bl (isXk "Full" x), .bl (isXk "Bare" x)]), none, none, none, none]) (m' := m)
  · simp! only [eIsX, hx]
  apply ws_step (δ' := [some (.exc x), some (.lst (bs.map D.bl)), none, none, none, none]) (m' := m)
  · rw [hbs]
    simp! only [eIsX, hx]
    rfl
  apply ws_step (δ' := [some (.exc x), some (.lst (bs.map D.bl)), some (.lst (kwords.map D.str)), none, none, none]) (m' := m)
  · simp! only []
    rfl
  apply ws_step (δ' := [some (.exc x), some (.lst (bs.map D.bl)), some (.lst (kwords.map D.str)), none, none, some (.lst [.str (wordOf x)])]) (m' := m)
  · have : (((kwords.zip bs).filter (·.2)).map fun p => D.str p.1) = [.str (wordOf x)] := by
      have := congrArg (List.map D.str) hone
      rw [List.map_map] at this
      exact this
    simp! only [srcOf_lst, zip_bl, List.length_map, hl, wipeE]
    rw [lcM_pure (en := fun p : Str × Bool => D.tup [.str p.1, .bl p.2]) (p := fun p => p.2) (f := fun p : Str × Bool => D.str p.1) (by exact chk_nil) (kwords.zip bs) fun p _ => ⟨[some (.exc x), some (.lst (bs.map D.bl)), some (.lst (kwords.map D.str)), some (.str p.1), some (.bl p.2), none], rfl, by simp! only [], fun _ => by simp! only []⟩, this]
    simp! only []
  apply ws_step (δ' := [some (.exc x), some (.lst (bs.map D.bl)), some (.lst (kwords.map D.str)), none, none, some (.lst [.str (wordOf x)])]) (m' := m)
  · simp! only [eIsX, hx, isXk_ve]
    rfl
  refine ws_last (o := .rt (.str (wordOf x)) m) ?_ ?_
  · simp! only []
  · simp_arith only [and_self]
noncomputable def e_law_shown : MS :=
  (sSeq (sSet 2 (eC .non))
    (sSeq (sSet 3 (eC .non))
    (sSeq (sTry kinds 4 2 (sIf (tst (eVar 1)) (sSet 3 (pla (fCall f_show_cover (aCons (eVar 0) aNil)))) (sSet 3 (pla (fCall f_show_span (aCons (eVar 0) aNil))))))
    (sSeq (sIf (tst (eOp pNotN (eVar 2) (eC .non))) (sRet (cel (fLst (aCons (pla (fCall0 f_law_class (aCons (eVar 2) aNil))) aNil)))) sNext)
    (sRet (eVar 3))))))
noncomputable def f_law_shown : FnS := fnOf 2 5 e_law_shown
/-- what is told of a list of spans -/
def dueT (ss : List Sp2) : FT := if ss.all isSpan = true then (if isCover ss = true then .pl (.str (tx (coverL ss))) else .own [.str "cover"]) else .own [.str "span"]
def dueS (s : Sp2) : FT := if isSpan s = true then .pl (.str (tx (spanL s))) else .own [.str "span"]
theorem wrd_span : wordOf "NoSpan" = "span" := by decide +kernel
theorem wrd_cover : wordOf "NoCover" = "cover" := by decide +kernel
theorem kin_span : (("NoSpan" : Str) ∈ kinds) = True := by simp [kinds]
theorem kin_cover : (("NoCover" : Str) ∈ kinds) = True := by simp [kinds]
theorem law_shown_span {m : Store} (s : Sp2) : f_law_shown [eS s, .bl false] m = ret (dueS s) m := by
  have e := show_span_eq s m
  have c1 := law_class_exc (x := "NoSpan") m (by decide)
  rw [wrd_span] at c1
  unfold f_law_shown e_law_shown dueS
  by_cases h : isSpan s = true
  · rw [if_pos h] at e ⊢
    simp! only [sTry, e, D.isNon]
  · rw [if_neg h] at e ⊢
    simp! only [sTry, e, kin_span, c1, D.isNon]
    exact fin_own0 rfl
theorem law_shown_cover {m : Store} {d : D} {ss : List Sp2} (hd : Rd m d (ss.map eS)) (hl : ss.length ≤ 1000) : f_law_shown [d, .bl true] m = ret (dueT ss) m := by
  have e := show_cover_eq hd hl
  have c1 := law_class_exc (x := "NoSpan") m (by decide)
  rw [wrd_span] at c1
  have c2 := law_class_exc (x := "NoCover") m (by decide)
  rw [wrd_cover] at c2
  unfold f_law_shown e_law_shown dueT
  by_cases h : ss.all isSpan = true
  · rw [if_pos h] at e ⊢
    by_cases hc : isCover ss = true
    · rw [if_pos hc] at e ⊢
      simp! only [sTry, e, D.isNon]
    · rw [if_neg hc] at e ⊢
      simp! only [sTry, e, kin_cover, c2, D.isNon]
      exact fin_own0 rfl
  · rw [if_neg h] at e ⊢
    simp! only [sTry, e, kin_span, c1, D.isNon]
    exact fin_own0 rfl
theorem cut_to {xs : List D} {j : Nat} : cutD xs none (some (j : Int)) = xs.take j := by
  unfold cutD
  rw [HT.sIx_none, HT.sIx_nat]
  simp only [List.drop_zero, Nat.sub_zero]
  rw [List.take_eq_take_iff]; omega
theorem cut_from {xs : List D} {j : Nat} : cutD xs (some (j : Int)) none = xs.drop j := by
  unfold cutD
  rw [HT.sIx_none, HT.sIx_nat]
  rcases Nat.le_total j xs.length with h | h
  · rw [Nat.min_eq_left h, List.take_of_length_le (by simp)]
  · rw [Nat.min_eq_right h, List.drop_eq_nil_of_le h]; simp
theorem pow12t {m : Store} : pPow (.int 10) (.int 12) m = ret (.int 1000000000000) m := by
  rw [show (12 : Int) = ((12 : Nat) : Int) from rfl, pPow_ok (by omega) (by decide)]; rfl
def absI (i : Int) : Int := if i < 0 then -i else i
theorem absI_lt {i : Int} : decide (absI i < 1000000000000) = isPlace i := by
  unfold absI isPlace
  rw [← Bool.decide_and]
  apply decide_eq_decide.mpr
  split <;> omega
theorem abs_max {a b : Int} : (decide (a < b) && decide (max (absI a) (absI b) < 1000000000000)) = isSpan (a, b) := by
  have : decide (max (absI a) (absI b) < 1000000000000) = (isPlace a && isPlace b) := by
    rw [← absI_lt, ← absI_lt, ← Bool.decide_and]
    apply decide_eq_decide.mpr
    omega
  rw [this]
  unfold isSpan
  cases isPlace a <;> cases isPlace b <;> cases decide (a < b) <;> rfl
noncomputable def e_law_is_span : MS :=
  (sRet (eAnd (eOp pLt (eOp pIxT (eVar 0) (eC (.int 0))) (eOp pIxT (eVar 0) (eC (.int 1)))) (eOp pLt (eCB pMax2 (aCons (eCB pAbs (aCons (eOp pIxT (eVar 0) (eC (.int 0))) aNil)) (aCons (eCB pAbs (aCons (eOp pIxT (eVar 0) (eC (.int 1))) aNil)) aNil))) (eOp pPow (eC (.int 10)) (eC (.int 12))))))
noncomputable def f_law_is_span : FnS := fnOf 1 1 e_law_is_span
theorem law_is_span_eq {s : Sp2} {m : Store} : f_law_is_span [eS s] m = ret (.pl (.bl (isSpan s))) m := by
  have pa : ∀ i : Int, pAbs [.int i] m = ret (.int (absI i)) m := fun _ => rfl
  have := abs_max (a := s.1) (b := s.2)
  unfold f_law_is_span e_law_is_span eS
  rw [← this]
  cases h : decide (s.1 < s.2) with
  | false => simp! only [pa, pow12t, h, Bool.false_and]
  | true => simp! only [pa, pow12t, h, Bool.true_and]
noncomputable def e_law_due_7 : MS :=
  (sSeq (sIf (tst (eOp pGt (eCB pLen (aCons (dat (fLc (wList (eVar 0)) (mName 1) (mNot (tst (pla (fCall0 f_law_is_span (aCons (eVar 1) aNil))))) (eVar 1) [1])) aNil)) (eC (.int 0)))) (sRet (cel (fLst (aCons (eC (.str "span")) aNil)))) sNext)
    (sSeq (sSet 4 (dat (fLc (wZip (aCons (eVar 0) (aCons (dat (fSl (eVar 0) (oSome (eC (.int 1))) oNone)) aNil))) (mTup (msCons (mName 2) (msCons (mName 3) msNil))) (tst (eOp pGe (eOp pIxT (eVar 2) (eC (.int 1))) (eOp pIxT (eVar 3) (eC (.int 0))))) (eVar 2) [2, 3])))
    (sSeq (sIf (mOr (tst (eOp pGt (eCB pLen (aCons (eVar 0) aNil)) (eC (.int 200)))) (tst (eOp pNeD (eVar 4) (dat (fLst aNil))))) (sRet (cel (fLst (aCons (eC (.str "cover")) aNil)))) sNext)
    (sRet (eJoin (eC (.str " ")) (dat (fLc (wList (eVar 0)) (mName 1) mYes (pla (fCall0 f_law_span_text (aCons (eVar 1) aNil))) [1])))))))
noncomputable def f_law_due_7 : FnS := fnOf 1 5 e_law_due_7
theorem touch_nil : ∀ c : List Sp2, ((c.zip (c.drop 1)).filter fun p => decide (p.1.2 ≥ p.2.1)).isEmpty = risesB c
  | [] => rfl
  | [a] => rfl
  | a :: b :: l => by
    have ih := touch_nil (b :: l)
    show (((a, b) :: ((b :: l).zip ((b :: l).drop 1))).filter fun p => decide (p.1.2 ≥ p.2.1)).isEmpty = (decide (a.2 < b.1) && risesB (b :: l))
    rw [List.filter_cons]
    by_cases h : a.2 ≥ b.1
    · rw [if_pos (decide_eq_true h), decide_eq_false (by omega)]; rfl
    · rw [if_neg (by simpa using h), decide_eq_true (by omega), ih, Bool.true_and]
theorem cov_txt {m : Store} {d : D} {ss : List Sp2} {δ : En} {e : ME} {g : MG} (hd : Rd m d (ss.map eS)) (h : ∀ s ∈ ss, ∃ δ1, g (eS s) δ = some δ1 ∧ e δ1 m = ret (.str (tx (spanL s))) m) : lcM g mYes e (Wk.mk (ss.map eS) (srcOf d (ss.map eS))).chk δ (ss.map eS) m = ret ((ss.map fun s => tx (spanL s)).map D.str) m := by
  rw [List.map_map]
  exact lcM_map hd.chk eS _ ss h
theorem cov_sum {ss : List Sp2} (h : ∀ s ∈ ss, isSpan s = true) (hl : ss.length ≤ 1000) : ((ss.map fun s => tx (spanL s)).map (·.length)).sum + (ss.map fun s => tx (spanL s)).length * (" " : Str).length ≤ 16777216 := by
  have l1 : (" " : Str).length = 1 := by decide +kernel
  have l2 : ∀ l : List Sp2, (∀ s ∈ l, isSpan s = true) → ((l.map fun s => tx (spanL s)).map (·.length)).sum ≤ l.length * 28 := fun l => by
    induction l with
    | nil => simp
    | cons s l ih =>
      intro q
      have h1 := spanL_len (q s List.mem_cons_self)
      have h2 := ih fun x hx => q x (List.mem_cons_of_mem _ hx)
      rw [List.map_cons, List.map_cons, List.sum_cons, tx_len, List.length_cons]
      omega
  have := l2 ss h
  rw [l1, List.length_map]
  omega
theorem law_due_7_eq {m : Store} {ss : List Sp2} (hl : ss.length ≤ 1000) : f_law_due_7 [.lst (ss.map eS)] m = ret (dueT ss) m := by
  have n1 : ss.length < 100000 := by omega
  apply eq_of_wp
  unfold f_law_due_7 e_law_due_7
  refine wp_fnI rfl ?_
  have l1 := lcM_pure (g := mName 1) (t := mNot (tst (pla (fCall0 f_law_is_span (aCons (eVar 1) aNil))))) (e := eVar 1) (c := (Wk.mk (ss.map eS) []).chk) (δ := [some (.lst (ss.map eS)), none, none, none, none]) (m := m) chk_nil eS (fun s => !isSpan s) eS ss fun s _ => ⟨[some (.lst (ss.map eS)), some (eS s), none, none, none], rfl, by simp! only [law_is_span_eq], fun _ => by simp! only []⟩
  by_cases h : ss.all isSpan = true
  · have e0 : (ss.filter fun s => !isSpan s) = [] := List.filter_eq_nil_iff.mpr fun s hs => by
      rw [List.all_eq_true] at h
      rw [h s hs]; decide
    rw [e0] at l1
    refine ws_step (δ' := [some (.lst (ss.map eS)), none, none, none, none]) (m' := m) ?_ ?_
    · simp! only [srcOf_lst, List.length_map, n1, wipeE, l1, List.map_nil, List.length_nil]
      rfl
    have ct : cutD (ss.map eS) (some (1 : Int)) none = (ss.drop 1).map eS := by rw [List.map_drop]; exact cut_from (j := 1)
    obtain ⟨T, hT⟩ : ∃ T, T = (ss.zip (ss.drop 1)).filter fun p => decide (p.1.2 ≥ p.2.1) := ⟨_, rfl⟩
    have zl : (ss.zip (ss.drop 1)).length < 100000 := by rw [List.length_zip]; omega
    have l2 := lcM_pure (g := mTup (msCons (mName 2) (msCons (mName 3) msNil))) (t := tst (eOp pGe (eOp pIxT (eVar 2) (eC (.int 1))) (eOp pIxT (eVar 3) (eC (.int 0))))) (e := eVar 2) (c := (Wk.mk ((ss.zip (ss.drop 1)).map fun p : Sp2 × Sp2 => D.tup [eS p.1, eS p.2]) []).chk) (δ := [some (.lst (ss.map eS)), none, none, none, none]) (m := m) chk_nil (fun p : Sp2 × Sp2 => D.tup [eS p.1, eS p.2]) (fun p => decide (p.1.2 ≥ p.2.1)) (fun p => eS p.1) (ss.zip (ss.drop 1)) fun p _ => ⟨[some (.lst (ss.map eS)), none, some (eS p.1), some (eS p.2), none], rfl, by simp! only [eS], fun _ => by simp! only []⟩
    rw [← hT] at l2
    have em : (T.map fun p => eS p.1) = (T.map (·.1)).map eS := by rw [List.map_map]; rfl
    rw [em] at l2
    refine ws_step (δ' := [some (.lst (ss.map eS)), none, none, none, some (.lst ((T.map (·.1)).map eS))]) (m' := m) ?_ ?_
    · simp! only [ct, zipD_map, srcOf_lst, List.append_nil, List.length_map, zl, wipeE, l2]
    have te : (T.map (·.1)).isEmpty = risesB ss := by rw [← touch_nil, ← hT]; cases T <;> rfl
    have pn := pNeD_nil (m := m) (d := .lst ((T.map (·.1)).map eS)) vw_lst sh_spans
    rw [show ((T.map (·.1)).map eS).isEmpty = risesB ss by rw [← te]; cases T <;> rfl] at pn
    have hc : isCover ss = (!decide (((ss.length : Nat) : Int) > 200) && risesB ss) := by
      unfold isCover
      congr 1
      rw [Bool.eq_iff_iff]
      simp
      omega
    by_cases hcv : isCover ss = true
    · have q := hcv
      rw [hc, Bool.and_eq_true] at q
      have q1 : decide (((ss.length : Nat) : Int) > 200) = false := by simpa using q.1
      rw [q.2] at pn
      refine ws_step (δ' := [some (.lst (ss.map eS)), none, none, none, some (.lst ((T.map (·.1)).map eS))]) (m' := m) ?_ ?_
      · simp! only [List.length_map, q1, pn]
      rw [List.all_eq_true] at h
      have l3 := cov_txt (m := m) (d := .lst (ss.map eS)) (δ := [some (.lst (ss.map eS)), none, none, none, some (.lst ((T.map (·.1)).map eS))]) (g := mName 1) (e := pla (fCall0 f_law_span_text (aCons (eVar 1) aNil))) .lst fun s hs => ⟨[some (.lst (ss.map eS)), some (eS s), none, none, some (.lst ((T.map (·.1)).map eS))], rfl, by simp! only [law_span_text_eq (h s hs)]⟩
      have sm := cov_sum h hl
      refine ws_last (o := .rt (.str (tx (coverL ss))) m) ?_ ?_
      · simp! only [eJoin, List.length_map, n1, wipeE, l3, toStrs_map]
        rw [if_pos (by simpa using sm), join_span]
        simp! only []
      · unfold dueT
        rw [if_pos (List.all_eq_true.mpr h), if_pos hcv]
        simp_arith only [and_self]
    · have cond : (decide (((ss.length : Nat) : Int) > 200) = true ∨ (decide (((ss.length : Nat) : Int) > 200) = false ∧ risesB ss = false)) := by
        rw [hc] at hcv
        cases q1 : decide (((ss.length : Nat) : Int) > 200) with
        | true => exact .inl rfl
        | false =>
          rw [q1] at hcv
          exact .inr ⟨rfl, by simpa using hcv⟩
      refine ws_stop (d := .cell m.length) (m' := m ++ [.lst [.str "cover"]]) ?_ ?_
      · rcases cond with c | ⟨c, c2⟩
        · simp! only [List.length_map, c]
        · rw [c2] at pn
          simp! only [List.length_map, c, pn]
      · unfold dueT
        rw [if_pos h, if_neg hcv]
        simp_arith only []
        rw [fin_own0 rfl]
        exact ⟨rfl, rfl⟩
  · have dp : decide (((((ss.filter fun s => !isSpan s).length : Nat) : Int)) > 0) = true := by
      refine decide_eq_true ?_
      have h' : ss.all isSpan = false := by simpa using h
      rw [List.all_eq_false] at h'
      obtain ⟨s, hs, hn⟩ := h'
      have := List.length_pos_of_mem (List.mem_filter.mpr ⟨hs, by simpa using hn⟩ : s ∈ ss.filter fun s => !isSpan s)
      omega
    refine ws_stop (d := .cell m.length) (m' := m ++ [.lst [.str "span"]]) ?_ ?_
    · simp! only [srcOf_lst, List.length_map, n1, wipeE, l1, dp]
    · unfold dueT
      rw [if_neg h]
      simp_arith only []
      rw [fin_own0 rfl]
      exact ⟨rfl, rfl⟩
noncomputable def e_law_fine : MS :=
  (sRet (eAnd (eIsT "tuple" (eVar 0)) (eAnd (eOp pEqD (eVar 0) (eVar 1)) (eAnd (pla (fCall0 f_law_whole (aCons (eOp pIxT (eVar 0) (eC (.int 0))) aNil))) (pla (fCall0 f_law_whole (aCons (eOp pIxT (eVar 0) (eC (.int 1))) aNil)))))))
noncomputable def f_law_fine : FnS := fnOf 2 2 e_law_fine
theorem law_fine_ok {m : Store} (s : Sp2) : f_law_fine [eS s, eS s] m = ret (.pl (.bl true)) m := by
  have hy : isTy "tuple" "tuple" = true := rfl
  have e : eS s = .tup [.int s.1, .int s.2] := rfl
  have eq : pEqD (eS s) (eS s) m = ret (.bl true) m := eq_self vw_tup vw_tup sh_eS
  rw [e] at eq
  unfold f_law_fine e_law_fine
  rw [e]
  simp! only [hy, eq, law_whole_eq]
noncomputable def e_must : MS :=
  (sIf (mNot (tst (eVar 0))) (sRaise "NoText") sNext)
noncomputable def f_must : FnS := fnOf 1 1 e_must
theorem must_ok (m : Store) : f_must [.bl true] m = ret (.pl .non) m := by
  unfold f_must e_must
  simp! only []
noncomputable def e_is_number : MS :=
  (sSeq (sSet 1 (eSlS (eVar 0) (oSome (eCB pInt1 (aCons (eOp pEq (eSlS (eVar 0) oNone (oSome (eC (.int 1)))) (eC (.str "-"))) aNil))) oNone))
    (sSeq (sIf (mOr (mNot (tst (eChain pLe pLe (eC (.int 1)) (eCB pLenS (aCons (eVar 1) aNil)) (eC (.int 12))))) (mNot (tst (eCB pAll (aCons (dat (fLc (wStr (eVar 1)) (mName 2) mYes (eOp (pInSg false) (eVar 2) (eC (.str "0123456789"))) [2])) aNil))))) (sRet (eC (.bl false))) sNext)
    (sRet (eOr (eOp pNe (eOp pIxS (eVar 1) (eC (.int 0))) (eC (.str "0"))) (eOp pEq (eVar 0) (eC (.str "0")))))))
noncomputable def f_is_number : FnS := fnOf 1 3 e_is_number
theorem fig_tx : ("0123456789" : Str).cps.toList = [48, 49, 50, 51, 52, 53, 54, 55, 56, 57] := by decide +kernel
theorem minus_tx : ("-" : Str) = tx [45] := by decide +kernel
theorem zero_tx : ("0" : Str) = tx [48] := by decide +kernel
theorem fig_in {c : Nat} (h : 48 ≤ c ∧ c ≤ 57) : decide (c ∈ ("0123456789" : Str).cps.toList) = true := by
  rw [fig_tx]
  refine decide_eq_true ?_
  simp only [List.mem_cons, List.not_mem_nil, or_false]
  omega
theorem is_number_ok {i : Int} (h : -1000000000000 < i) (h2 : i < 1000000000000) (m : Store) : f_is_number [.str (tx (numZ i))] m = ret (.pl (.bl true)) m := by
  obtain ⟨d, hd⟩ : ∃ d, d = TL.numL i.natAbs := ⟨_, rfl⟩
  have dl : d.length ≤ 12 := by rw [hd]; exact numL_12 (by omega)
  have dd : ∀ c ∈ d, 48 ≤ c ∧ c ≤ 57 := fun c hc => TL.numL_digits _ c (by rw [← hd]; exact hc)
  have dn : d ≠ [] := by rw [hd]; exact TL.numL_ne _
  have d1 : 1 ≤ d.length := by
    clear hd dl dd
    rcases d with _ | ⟨c, d⟩; exact absurd rfl dn; simp
  have zl := numZ_len h h2
  have zl2 : (tx (numZ i)).length ≤ 100000 := by rw [tx_len]; omega
  have dl2 : (tx d).length ≤ 100000 := by rw [tx_len]; omega
  have dl3 : d.length ≤ 100000 := by omega
  have dl4 : d.length < 100000 := by omega
  have c1 : L2.cutS (tx (numZ i)) none (some 1) = tx ((numZ i).take 1) := tx_to (numZ i) 1
  have hdr : ∃ b : Bool, decide (tx ((numZ i).take 1) = ("-" : Str)) = b ∧ L2.cutS (tx (numZ i)) (some (if b then 1 else 0)) none = tx d := by
    unfold numZ
    rw [← hd]
    by_cases hi : i < 0
    · rw [if_pos hi]
      refine ⟨true, ?_, ?_⟩
      · rw [minus_tx]; exact decide_eq_true rfl
      · exact tx_from (45 :: d) 1
    · rw [if_neg hi]
      refine ⟨false, ?_, ?_⟩
      · rw [minus_tx]
        refine decide_eq_false fun e => ?_
        have := tx_inj e
        cases hdd : d with
        | nil => exact dn hdd
        | cons c l =>
          rw [hdd] at this
          have hc := dd c (by rw [hdd]; exact List.mem_cons_self)
          have : c = 45 := by simpa using this
          omega
      · exact tx_from d 0
  obtain ⟨b, hb1, hb2⟩ := hdr
  have lc : lcM (mName 2) mYes (eOp (pInSg false) (eVar 2) (eC (.str "0123456789"))) (Wk.mk (d.map chS) []).chk [some (.str (tx (numZ i))), some (.str (tx d)), none] (d.map chS) m = ret ((d.map fun _ => true).map D.bl) m := by
    rw [List.map_map]
    exact lcM_map chk_nil chS _ d fun c hc => ⟨[some (.str (tx (numZ i))), some (.str (tx d)), some (chS c)], rfl, by
      have := fig_in (dd c hc)
      simp! only [inSg_ch, Bool.false_eq_true, if_false, this]
      rfl⟩
  have al : (d.map fun _ => true).all id = true := by simp
  have le1 : decide ((1 : Int) ≤ (d.length : Int)) = true := decide_eq_true (by omega)
  have le2 : decide ((d.length : Int) ≤ 12) = true := decide_eq_true (by omega)
  have last : ∃ c l, d = c :: l ∧ (c ≠ 48 ∨ numZ i = [48]) := by
    by_cases hz : i.natAbs = 0
    · have : i = 0 := by omega
      subst this
      exact ⟨48, [], hd.trans numL_zero, .inr rfl⟩
    · obtain ⟨c, l, e, hc⟩ := numL_head hz
      exact ⟨c, l, hd.trans e, .inl hc⟩
  obtain ⟨c, l, e, hc⟩ := last
  have ix : pIxS (.str (tx d)) (.int 0) m = ret (.str (tx [c])) m := by
    unfold pIxS
    dsimp only
    rw [if_pos dl2, tx_list, e, atI_0]
    rfl
  unfold f_is_number e_is_number
  simp! only [eFld, pLenS, pDictD, pLenD, pDIn, keyD, pSortD, eSlS, zl2, c1, pEq, hb1]
  simp! only [pInt1, hb2, eFld, pLenS, pDictD, pLenD, pDIn, keyD, pSortD, eSlS, dl2, tx_len, le1, le2, wStr, tx_list, List.length_map, dl4, dl3, wipeE, lc, pAll, bools_map, al, ix, zero_tx]
  rcases hc with hc | hc
  · have : decide (tx [c] = tx [48]) = false := decide_eq_false fun z => hc (by have := tx_inj z; simpa using this)
    simp! only [this]
  · have h1 : decide (tx (numZ i) = tx [48]) = true := decide_eq_true (by rw [hc])
    cases h3 : decide (tx [c] = tx [48]) with
    | false => simp! only []
    | true => simp! only [pEq, h1]
noncomputable def e_read_number : MS :=
  (sSeq (sExpr (pla (fCall f_must (aCons (pla (fCall0 f_is_number (aCons (eVar 0) aNil))) aNil))))
    (sRet (eCB pIntS (aCons (eVar 0) aNil))))
noncomputable def f_read_number : FnS := fnOf 1 1 e_read_number
theorem read_number_ok {i : Int} (h : -1000000000000 < i) (h2 : i < 1000000000000) (m : Store) : f_read_number [.str (tx (numZ i))] m = ret (.pl (.int i)) m := by
  have zl := numZ_len h h2
  have zl2 : (tx (numZ i)).length ≤ 640 := by rw [tx_len]; omega
  unfold f_read_number e_read_number
  simp! only [is_number_ok h h2 m, must_ok, pIntS, zl2, int_read h h2]
noncomputable def e_read_span : MS :=
  (sSeq (sAsg (ePart (eVar 0) (eC (.str ".."))) (mTup (msCons (mName 1) (msCons (mName 2) (msCons (mName 3) msNil)))))
    (sSeq (sSet 4 (eTup (aCons (pla (fCall f_read_number (aCons (eVar 1) aNil))) (aCons (pla (fCall f_read_number (aCons (eVar 3) aNil))) aNil))))
    (sSeq (sExpr (pla (fCall f_must (aCons (pla (fCall0 f_is_span (aCons (eVar 4) aNil))) aNil))))
    (sRet (eVar 4)))))
noncomputable def f_read_span : FnS := fnOf 1 5 e_read_span
theorem read_span_ok {s : Sp2} (h : isSpan s = true) (m : Store) : f_read_span [.str (tx (spanL s))] m = ret (.pl (eS s)) m := by
  have g := good_iff.mp h
  have g1 := g.1
  have g2 := g.2.1
  have g3 := g.2.2
  have sl := spanL_len h
  have sl2 : (tx (spanL s)).length ≤ 90000 := by rw [tx_len]; omega
  have d2 : ((".." : Str).length == 0) = false := by decide +kernel
  have is := is_span_eq (s := s) (m := m)
  unfold f_read_span e_read_span
  simp! only [ePart, eM1, d2, sl2, and_self, if_true, part_span, read_number_ok (i := s.1) (by omega) (by omega) m, read_number_ok (i := s.2) (by omega) (by omega) m]
  have e : D.tup [.int s.1, .int s.2] = eS s := rfl
  simp! only [e, is, h, must_ok]
/-! try: .. except X: .. whose body refuses nothing here -/
section
open PySem PySem.Spec PyProof.Rows L2
def tTryN (K : PySem.W.Frag) (c : Value) (tb : WX → TS) : TS := fun D σ H => tb (wOnly K c (fun _ _ _ => fun _ _ _ => False) (fun _ _ _ _ => False) D) D σ H
theorem pss_no {X : Cx} {ss : List Stmt} : PSs X ss (fun _ _ _ => False) := ⟨fun pins s σ H D I h => False.elim h⟩
def sTryN (b : MS) : MS := fun δ m => match b δ m with
  | some (.ex _ _ _) => none
  | o => o
theorem ss_tryN {K : PySem.W.Frag} {c : Value} {t : WX → TS} {b : MS} (hb : SS K t b) : SS K (fun _ => tTryN K c t) (sTryN b) := fun W δ m o q => by
  unfold sTryN at q
  cases hq : b δ m with
  | none => rw [hq] at q; cases q
  | some o1 =>
    rw [hq] at q
    cases o1 with
    | ex x δ1 m1 => cases q
    | nx δ1 m1 => cases q; exact fun r F H σ D hr er k => hb _ δ m _ hq r F H σ D hr er k
    | rt d m1 => cases q; exact fun r F H σ D hr er k => hb _ δ m _ hq r F H σ D hr er k
    | bk δ1 m1 => cases q; exact fun r F H σ D hr er k => hb _ δ m _ hq r F H σ D hr er k
    | ct δ1 m1 => cases q; exact fun r F H σ D hr er k => hb _ δ m _ hq r F H σ D hr er k
end
noncomputable def e_read_cover : MS :=
  (sSeq (sIf (tst (eOp pEq (eVar 0) (eC (.str "")))) (sRet (cel (fLst aNil))) sNext)
    (sSeq (sSet 2 (cel (fLc (wList (dat (fSplit (eVar 0) (eC (.str " "))))) (mName 1) mYes (pla (fCall0 f_read_span (aCons (eVar 1) aNil))) [1])))
    (sSeq (sTryN (sExpr (pla (fCall f_must_cover (aCons (eVar 2) aNil)))))
    (sRet (eVar 2)))))
noncomputable def f_read_cover : FnS := fnOf 1 3 e_read_cover
theorem read_cover_ok {ss : List Sp2} (h : ∀ s ∈ ss, isSpan s = true) (hc : isCover ss = true) (hl : ss.length ≤ 200) (m : Store) : f_read_cover [.str (tx (coverL ss))] m = ret (.own (ss.map eS)) m := by
  have cl := coverL_len h
  have cl2 : (tx (coverL ss)).length ≤ 90000 := by rw [tx_len]; omega
  have d1 : ((" " : Str).length == 0) = false := by decide +kernel
  have e0 : ("" : Str) = tx [] := by decide +kernel
  apply eq_of_wp
  unfold f_read_cover e_read_cover
  refine wp_fnI rfl ?_
  cases ss with
  | nil =>
    refine ws_stop (d := .cell m.length) (m' := m ++ [.lst []]) ?_ ?_
    · have : decide (tx (coverL []) = ("" : Str)) = true := by rw [e0]; exact decide_eq_true rfl
      simp! only [pEq, this]
    · simp_arith only []
      rw [fin_own0 rfl]
      exact ⟨rfl, rfl⟩
  | cons a ss =>
    have ne : coverL (a :: ss) ≠ [] := coverL_ne (by simp)
    obtain ⟨T, hT⟩ : ∃ T, T = a :: ss := ⟨_, rfl⟩
    rw [← hT] at h hc hl cl cl2 ne ⊢
    have tn : T ≠ [] := by rw [hT]; simp
    have sp := split_span tn
    have n1 : T.length < 100000 := by omega
    refine ws_step (δ' := [some (.str (tx (coverL T))), none, none]) (m' := m) ?_ ?_
    · have : decide (tx (coverL T) = ("" : Str)) = false := by rw [e0]; exact decide_eq_false fun z => ne (tx_inj z)
      simp! only [pEq, this]
    have em : (T.map fun s => tx (spanL s)).map D.str = T.map fun s => D.str (tx (spanL s)) := by rw [List.map_map]; rfl
    have lc : lcM (mName 1) mYes (pla (fCall0 f_read_span (aCons (eVar 1) aNil))) (Wk.mk (T.map fun s => D.str (tx (spanL s))) []).chk [some (.str (tx (coverL T))), none, none] (T.map fun s => D.str (tx (spanL s))) m = ret (T.map eS) m :=
      lcM_map chk_nil _ eS T fun s hs => ⟨[some (.str (tx (coverL T))), some (.str (tx (spanL s))), none], rfl, by simp! only [read_span_ok (h s hs)]⟩
    refine ws_step (δ' := [some (.str (tx (coverL T))), none, some (.cell m.length)]) (m' := m ++ [.lst (T.map eS)]) ?_ ?_
    · simp! only [fSplit, eM1, d1, cl2, and_self, if_true, sp, em, srcOf_lst, List.length_map, n1, wipeE, lc]
    have g0 : (m ++ [Cell.lst (T.map eS)])[m.length]? = some (.lst (T.map eS)) := app_get
    have mc := must_cover_eq (m := m ++ [Cell.lst (T.map eS)]) (d := .cell m.length) (c := T) (.cell g0)
    rw [if_pos (List.all_eq_true.mpr h), if_pos hc] at mc
    refine ws_step (δ' := [some (.str (tx (coverL T))), none, some (.cell m.length)]) (m' := m ++ [.lst (T.map eS)]) ?_ ?_
    · simp! only [sTryN, mc]
    · simp_arith only []
      rw [fin_own0 (unds_eS _ _)]
      exact ⟨rfl, rfl⟩
theorem rng_0 {n : Nat} : rng 0 n = (List.range n).map fun i : Nat => D.int (i : Int) := by
  unfold rng
  exact List.map_congr_left fun i _ => by rw [Int.zero_add]
theorem atI_d {α : Type} {l : List α} {i : Nat} (d : α) (h : i < l.length) : L2.atI l (i : Int) = some (l.getD i d) := by
  have := atI_getD (xs := l) (i := (i : Int)) d (by omega) (by omega)
  simpa using this
noncomputable def e_law_cover_4 : MS :=
  (sSeq (sSet 2 (cel (fLst aNil)))
    (sSeq (sFor (wRng1 (aCons (eOp pMul (eC (.int 2)) (eVar 1)) aNil)) (mName 3)
    (sExpr (eBM pAppend (eVar 2) (aCons (pla (fCall0 f_law_end (aCons (eVar 0) (aCons (eVar 2) (aCons (eOp pSub (eOp pPow (eC (.int 10)) (eC (.int 12))) (eC (.int 1))) aNil))))) aNil))))
    (sSeq (sSet 2 (cel (fSortSet (eVar 2))))
    (sRet (cel (fLc (wRng1 (aCons (eOp pDiv (eCB pLen (aCons (eVar 2) aNil)) (eC (.int 2))) aNil)) (mName 3) mYes (eTup (aCons (eOp pIxL (eVar 2) (eOp pMul (eC (.int 2)) (eVar 3))) (aCons (eOp pIxL (eVar 2) (eOp pAdd (eOp pMul (eC (.int 2)) (eVar 3)) (eC (.int 1)))) aNil))) [3]))))))
noncomputable def f_law_cover_4 : FnS := fnOf 2 4 e_law_cover_4
theorem ints_get {ns : List Int} {j : Nat} (h : j < ns.length) : L2.atI (ns.map D.int) (j : Int) = some (.int (ns.getD j 0)) := by
  have := atI_d (l := ns.map D.int) (i := j) (.int 0) (by simpa using h)
  rw [this]; simp
/-- two and two of a row of numbers -/
def twos (us : List Int) : List Sp2 := (List.range (us.length / 2)).map fun i => (us.getD (2 * i) 0, us.getD (2 * i + 1) 0)
theorem us_lt {us : List Int} (h : us.Pairwise (· < ·)) {i j : Nat} (hij : i < j) (hj : j < us.length) : us.getD i 0 < us.getD j 0 := by
  have hi : i < us.length := by omega
  have := List.pairwise_iff_getElem.mp h i j hi hj hij
  rwa [show us.getD i 0 = us[i] by simp [hi], show us.getD j 0 = us[j] by simp [hj]]
theorem us_mem {us : List Int} {i : Nat} (hi : i < us.length) : us.getD i 0 ∈ us := by
  rw [show us.getD i 0 = us[i] by simp [hi]]
  exact List.getElem_mem hi
theorem twos_sep {us : List Int} (h : us.Pairwise (· < ·)) : Sep (twos us) := by
  refine ⟨?_, fun s hs => ?_⟩
  · unfold twos
    rw [List.pairwise_map]
    refine List.pairwise_lt_range.imp_of_mem fun {a b} ha hb hab => ?_
    have := List.mem_range.mp hb
    exact us_lt h (by omega) (by omega)
  · unfold twos at hs
    obtain ⟨i, hi, rfl⟩ := List.mem_map.mp hs
    have := List.mem_range.mp hi
    exact us_lt h (by omega) (by omega)
theorem twos_span {us : List Int} (h : us.Pairwise (· < ·)) (hr : ∀ x ∈ us, -999999999999 ≤ x ∧ x ≤ 999999999999) : ∀ s ∈ twos us, isSpan s = true := fun s hs => by
  have ps := (twos_sep h).pos s hs
  unfold twos at hs
  obtain ⟨i, hi, rfl⟩ := List.mem_map.mp hs
  have hi := List.mem_range.mp hi
  have a := hr _ (us_mem (us := us) (i := 2 * i) (by omega))
  have b := hr _ (us_mem (us := us) (i := 2 * i + 1) (by omega))
  exact good_iff.mpr ⟨by show -1000000000000 < us.getD (2 * i) 0; omega, ps, by show us.getD (2 * i + 1) 0 < 1000000000000; omega⟩
theorem undup_len : ∀ ns : List Int, (undup ns).length ≤ ns.length
  | [] => Nat.le_refl _
  | x :: xs => by
    have := undup_len xs
    unfold undup
    split
    · rw [List.length_cons]; omega
    · rw [List.length_cons, List.length_cons]; omega
theorem usort_le (ns : List Int) : (usort ns).length ≤ ns.length := by
  unfold usort
  rw [(isort_perm _).length_eq]
  exact undup_len ns
theorem law_cover_4_ok {m : Store} {k b n : Nat} {p : Purse} (hk : m[k]? = some (ePu p)) (hn : n ≤ 200) (hp : Pok (b + 3 * (2 * n)) p) :
    ∃ (ss : List Sp2) (p' : Purse), f_law_cover_4 [.cell k, .int (n : Int)] m = ret (.own (ss.map eS)) (m.set k (ePu p')) ∧ ss.length ≤ 200 ∧ (∀ s ∈ ss, isSpan s = true) ∧ isCover ss = true ∧ Pok b p' := by
  have hk0 : k < m.length := (List.getElem?_eq_some_iff.mp hk).1
  have key : wp (f_law_cover_4 [.cell k, .int (n : Int)] m) (fun r m' => ∃ (ss : List Sp2) (p' : Purse), r = .ok (.own (ss.map eS)) ∧ m' = m.set k (ePu p') ∧ ss.length ≤ 200 ∧ (∀ s ∈ ss, isSpan s = true) ∧ isCover ss = true ∧ Pok b p') := by
    unfold f_law_cover_4 e_law_cover_4
    refine wp_fnI rfl ?_
    refine ws_step (δ' := [some (.cell k), some (.int (n : Int)), some (.cell m.length), none]) (m' := m ++ [.lst (([] : List Int).map D.int)]) ?_ ?_
    · simp! only []
    have g0 : ∀ (q : Purse) (es : List Int), (m.set k (ePu q) ++ [Cell.lst (es.map D.int)])[k]? = some (ePu q) := fun q es => by rw [List.getElem?_append_left (by simpa using hk0)]; exact List.getElem?_set_self hk0
    have g1 : ∀ (q : Purse) (es : List Int), (m.set k (ePu q) ++ [Cell.lst (es.map D.int)])[m.length]? = some (.lst (es.map D.int)) := fun q es => by
      have : (m.set k (ePu q)).length = m.length := by simp
      rw [← this]; exact app_get
    have s0 : ∀ (q q' : Purse) (es : List Int), (m.set k (ePu q) ++ [Cell.lst (es.map D.int)]).set k (ePu q') = m.set k (ePu q') ++ [.lst (es.map D.int)] := fun q q' es => by rw [List.set_append_left _ _ (by simpa using hk0), List.set_set]
    have s1 : ∀ (q : Purse) (es : List Int) (xs : List D), (m.set k (ePu q) ++ [Cell.lst (es.map D.int)]).set m.length (.lst xs) = m.set k (ePu q) ++ [.lst xs] := fun q es xs => by
      have : (m.set k (ePu q)).length = m.length := by simp
      rw [← this]; simp
    have m0 : m = m.set k (ePu p) := (set_same hk).symm
    have pm : ∀ M : Store, pMul (.int 2) (.int (n : Int)) M = ret (.int ((2 * n : Nat) : Int)) M := fun M => by
      rw [pMul_l (by omega) (by omega)]; rfl
    have rg : Rg62 ((2 * n : Nat) : Int) := rg62 (by omega) (by omega)
    refine ws_mid (I := fun δ m' => ∃ (es : List Int) (q : Purse) (z3 : Option D), m' = m.set k (ePu q) ++ [.lst (es.map D.int)] ∧ es.length ≤ 400 ∧ (∀ x ∈ es, -999999999999 ≤ x ∧ x ≤ 999999999999) ∧ Pok b q ∧ δ = [some (.cell k), some (.int (n : Int)), some (.cell m.length), z3]) ?_ ?_
    · refine ws_forS (wk := ⟨(List.range (2 * n)).map fun i : Nat => D.int (i : Int), []⟩) (m' := m ++ [.lst (([] : List Int).map D.int)]) ?_ ?_
      · simp! only [pm, wRng1, rg, Int.toNat_natCast, rng_0]
      refine ws_mono (forT (en := fun i : Nat => D.int (i : Int)) (I := fun l δ m' => ∃ (es : List Int) (q : Purse) (z3 : Option D), m' = m.set k (ePu q) ++ [.lst (es.map D.int)] ∧ es.length + l.length ≤ 400 ∧ (∀ x ∈ es, -999999999999 ≤ x ∧ x ≤ 999999999999) ∧ Pok (b + 3 * l.length) q ∧ δ = [some (.cell k), some (.int (n : Int)), some (.cell m.length), z3]) (fun _ _ _ _ => chk_nil) ?_ (l := List.range (2 * n)) ⟨[], p, _, by rw [← m0], by simp; omega, (fun x hx => nomatch hx), by simpa using hp, rfl⟩) ?_
      · rintro i l δ m' ⟨es, q, z3, rfl, hl, hr, hq, rfl⟩
        rw [List.length_cons] at hl hq
        obtain ⟨x, q2, e, x0, x1, hq2⟩ := law_end_ok (b := b + 3 * l.length) (most := 999999999999) (g0 q es) (.inr ⟨m.length, by omega, rfl, g1 q es⟩) (by omega) (hq.mono (by omega)) (by omega) (by omega)
        rw [s0] at e
        have el : es.length < 100000 := by omega
        refine ⟨[some (.cell k), some (.int (n : Int)), some (.cell m.length), some (.int (i : Int))], rfl, ?_⟩
        refine ws_last (o := .nx [some (.cell k), some (.int (n : Int)), some (.cell m.length), some (.int (i : Int))] (m.set k (ePu q2) ++ [.lst ((es ++ [x]).map D.int)])) ?_ ⟨_, _, rfl, es ++ [x], q2, _, rfl, by rw [List.length_append]; show es.length + 1 + _ ≤ _; omega, fun y hy => ?_, hq2, rfl⟩
        · rw [List.map_append]
          simp! only [e, isLst_cell (g1 q es), isLst_cell (g1 q2 es), cellL_cell (g1 q2 es), List.length_map, el, s1]
        · rcases List.mem_append.mp hy with hy | hy
          · exact hr y hy
          · cases List.mem_singleton.mp hy; exact ⟨by omega, by omega⟩
      · rintro o ⟨δ, m', rfl, es, q, z3, rfl, hl, hr, hq, rfl⟩
        exact ⟨_, _, rfl, es, q, z3, rfl, by simpa using hl, hr, by simpa using hq, rfl⟩
    rintro δ m' ⟨es, q, z3, rfl, hl, hr, hq, rfl⟩
    obtain ⟨us, hus⟩ : ∃ us, us = usort es := ⟨_, rfl⟩
    have ul : us.length ≤ 400 := by rw [hus]; have := usort_le es; omega
    have up : us.Pairwise (· < ·) := by rw [hus]; exact usort_lt es
    have ur : ∀ x ∈ us, -999999999999 ≤ x ∧ x ≤ 999999999999 := fun x hx => hr x (usort_mem.mp (by rw [← hus]; exact hx))
    have l4 : es.length ≤ 4000 := by omega
    obtain ⟨M, hM⟩ : ∃ M, M = m.set k (ePu q) ++ [Cell.lst (es.map D.int)] := ⟨_, rfl⟩
    have lM : M.length = m.length + 1 := by rw [hM]; simp
    refine ws_step (δ' := [some (.cell k), some (.int (n : Int)), some (.cell (m.length + 1)), z3]) (m' := M ++ [.lst (us.map D.int)]) ?_ ?_
    · simp! only [fSortSet, rdQ_cell (g1 q es), toInts_map, l4, ← hus]
      rw [← hM, lM]
    have gU : (M ++ [Cell.lst (us.map D.int)])[m.length + 1]? = some (.lst (us.map D.int)) := by rw [← lM]; exact app_get
    have pd : pDiv (.int (us.length : Int)) (.int 2) (M ++ [.lst (us.map D.int)]) = ret (.int ((us.length / 2 : Nat) : Int)) (M ++ [.lst (us.map D.int)]) := by
      rw [pDiv_pos (by omega) (by omega)]; rfl
    have rg2 : Rg62 ((us.length / 2 : Nat) : Int) := rg62 (by omega) (by omega)
    have n2 : us.length / 2 < 100000 := by omega
    have lc : lcM (mName 3) mYes (eTup (aCons (eOp pIxL (eVar 2) (eOp pMul (eC (.int 2)) (eVar 3))) (aCons (eOp pIxL (eVar 2) (eOp pAdd (eOp pMul (eC (.int 2)) (eVar 3)) (eC (.int 1)))) aNil))) (Wk.mk ((List.range (us.length / 2)).map fun i : Nat => D.int (i : Int)) []).chk [some (.cell k), some (.int (n : Int)), some (.cell (m.length + 1)), none] ((List.range (us.length / 2)).map fun i : Nat => D.int (i : Int)) (M ++ [.lst (us.map D.int)]) = ret ((twos us).map eS) (M ++ [.lst (us.map D.int)]) := by
      unfold twos
      rw [List.map_map]
      exact lcM_map chk_nil (fun i : Nat => D.int (i : Int)) _ (List.range (us.length / 2)) fun i hi => ⟨[some (.cell k), some (.int (n : Int)), some (.cell (m.length + 1)), some (.int (i : Int))], rfl, by
        have hi := List.mem_range.mp hi
        have p1 : pMul (.int 2) (.int (i : Int)) (M ++ [.lst (us.map D.int)]) = ret (.int ((2 * i : Nat) : Int)) (M ++ [.lst (us.map D.int)]) := by
          rw [pMul_l (by omega) (by omega)]; rfl
        have a1 := ints_get (ns := us) (j := 2 * i) (by omega)
        have a2 := ints_get (ns := us) (j := 2 * i + 1) (by omega)
        have c1 : ((2 * i : Nat) : Int) + 1 = ((2 * i + 1 : Nat) : Int) := by omega
        simp! only [p1, rdQ_cell gU, a1, c1, a2]
        rfl⟩
    refine ws_last (o := .rt (.cell (m.length + 2)) (M ++ [.lst (us.map D.int)] ++ [.lst ((twos us).map eS)])) ?_ ?_
    · simp! only [rdS_cell gU, List.length_map, pd, wRng1, rg2, Int.toNat_natCast, rng_0, List.length_range, n2, wipeE, lc, List.length_append, lM]
    · rw [endF_rt, hM, List.append_assoc, List.append_assoc]
      rw [fin_own (i := 2) (m := m.set k (ePu q)) (by simp) (tidy_pu (Tidy.refl _)) rfl (unds_eS _ _)]
      simp only [wp_some]
      refine ⟨twos us, q, rfl, rfl, ?_, twos_span up ur, ?_, hq⟩
      · unfold twos; simp; omega
      · unfold isCover
        have : (twos us).length ≤ 200 := by unfold twos; simp; omega
        rw [decide_eq_true this, Bool.true_and]
        exact (rises_sep (twos_sep up).pos).mpr (twos_sep up)
  obtain ⟨r, m', e, ss, p', rfl, rfl, h⟩ := wp_get key
  exact ⟨ss, p', e, h⟩
noncomputable def e_law_bent_5 : MS :=
  (sSeq (sSet 2 (pla (fCall0 f_law_draw (aCons (eVar 0) (aCons (eC (.int 7)) aNil)))))
    (sSeq (sSet 3 (pla (fCall0 f_law_draw (aCons (eVar 0) (aCons (eOp pAdd (eCB pLen (aCons (eVar 1) aNil)) (eC (.int 1))) aNil)))))
    (sSeq (sSet 4 (eOp pIxL (dat (fOp pCat (eVar 1) (dat (fLst (aCons (eTup (aCons (eC (.int 0)) (aCons (eC (.int 1)) aNil))) aNil))))) (eVar 3)))
    (sSeq (sIf (tst (eOp pEq (eVar 2) (eC (.int 0)))) (sRet (cel (fOp pCat (dat (fOp pCat (dat (fSl (eVar 1) oNone (oSome (eVar 3)))) (dat (fLst (aCons (eUn pRevT (eVar 4)) aNil))))) (dat (fSl (eVar 1) (oSome (eOp pAdd (eVar 3) (eC (.int 1)))) oNone))))) sNext)
    (sSeq (sIf (tst (eOp pEq (eVar 2) (eC (.int 1)))) (sRet (cel (fOp pCat (dat (fOp pCat (dat (fSl (eVar 1) oNone (oSome (eVar 3)))) (dat (fLst (aCons (eOp pIxL (dat (fLst (aCons (eTup (aCons (eOp pIxT (eVar 4) (eC (.int 0))) (aCons (eOp pIxT (eVar 4) (eC (.int 0))) aNil))) (aCons (eTup (aCons (eOp pIxT (eVar 4) (eC (.int 0))) (aCons (eOp pPow (eC (.int 10)) (eC (.int 12))) aNil))) (aCons (eTup (aCons (eUn pNeg (eOp pPow (eC (.int 10)) (eC (.int 12)))) (aCons (eOp pIxT (eVar 4) (eC (.int 1))) aNil))) aNil))))) (eOp pMod (eVar 3) (eC (.int 3)))) aNil))))) (dat (fSl (eVar 1) (oSome (eOp pAdd (eVar 3) (eC (.int 1)))) oNone))))) sNext)
    (sSeq (sIf (tst (eOp pEq (eVar 2) (eC (.int 2)))) (sRet (cel (fRev (eVar 1)))) sNext)
    (sSeq (sIf (tst (eOp pEq (eVar 2) (eC (.int 3)))) (sRet (cel (fOp pCat (dat (fOp pCat (dat (fSl (eVar 1) oNone (oSome (eVar 3)))) (dat (fLst (aCons (eVar 4) aNil))))) (dat (fSl (eVar 1) (oSome (eVar 3)) oNone))))) sNext)
    (sSeq (sIf (tst (eOp pEq (eVar 2) (eC (.int 4)))) (sRet (cel (fOp pCat (dat (fOp pCat (dat (fSl (eVar 1) oNone (oSome (eVar 3)))) (dat (fLst (aCons (eTup (aCons (eOp pIxT (eVar 4) (eC (.int 0))) (aCons (eOp pAdd (eOp pIxT (eVar 4) (eC (.int 1))) (eC (.int 1))) aNil))) aNil))))) (dat (fSl (eVar 1) (oSome (eOp pAdd (eVar 3) (eC (.int 1)))) oNone))))) sNext)
    (sSeq (sIf (tst (eOp pEq (eVar 2) (eC (.int 5)))) (sRet (cel (fOp pCat (dat (fOp pCat (dat (fSl (eVar 1) oNone (oSome (eVar 3)))) (dat (fLst (aCons (eTup (aCons (eOp pSub (eOp pIxT (eVar 4) (eC (.int 0))) (eC (.int 1))) (aCons (eOp pIxT (eVar 4) (eC (.int 0))) aNil))) (aCons (eVar 4) aNil)))))) (dat (fSl (eVar 1) (oSome (eOp pAdd (eVar 3) (eC (.int 1)))) oNone))))) sNext)
    (sRet (cel (fLc (wRng1 (aCons (eOp pAdd (eC (.int 200)) (pla (fCall0 f_law_draw (aCons (eVar 0) (aCons (eC (.int 2)) aNil))))) aNil)) (mName 5) mYes (eTup (aCons (eOp pMul (eC (.int 2)) (eVar 5)) (aCons (eOp pAdd (eOp pMul (eC (.int 2)) (eVar 5)) (eC (.int 1))) aNil))) [5]))))))))))))
noncomputable def f_law_bent_5 : FnS := fnOf 2 6 e_law_bent_5
theorem cut_fr1 {xs : List D} {j : Nat} : cutD xs (some ((j : Int) + 1)) none = xs.drop (j + 1) := cut_from (j := j + 1)
theorem law_bent_5_ok {m : Store} {k b : Nat} {p : Purse} {ss : List Sp2} (hk : m[k]? = some (ePu p)) (hl : ss.length ≤ 200) (hp : Pok (b + 3) p) :
    ∃ (ts : List Sp2) (p' : Purse), f_law_bent_5 [.cell k, .lst (ss.map eS)] m = ret (.own (ts.map eS)) (m.set k (ePu p')) ∧ ts.length ≤ 500 ∧ Pok b p' := by
  have hk0 : k < m.length := (List.getElem?_eq_some_iff.mp hk).1
  have gk : ∀ q : Purse, (m.set k (ePu q))[k]? = some (ePu q) := fun q => List.getElem?_set_self hk0
  obtain ⟨w, p1, e1, w0, w1, hp1⟩ := law_draw_ok (b := b + 2) hk hp (n := 7) (by omega) (by omega)
  obtain ⟨a, p2, e2, a0, a1, hp2⟩ := law_draw_ok (b := b + 1) (n := (ss.length : Int) + 1) (gk p1) hp1 (by omega) (by omega)
  rw [List.set_set] at e2
  obtain ⟨at', rfl⟩ : ∃ j : Nat, a = (j : Int) := ⟨a.toNat, by omega⟩
  obtain ⟨M, hM⟩ : ∃ M, M = m.set k (ePu p2) := ⟨_, rfl⟩
  obtain ⟨one, hone⟩ : ∃ o, o = (ss ++ [(0, 1)]).getD at' (0, 0) := ⟨_, rfl⟩
  have ix : L2.atI (ss.map eS ++ [D.tup [.int 0, .int 1]]) (at' : Int) = some (eS one) := by
    have e : ss.map eS ++ [D.tup [.int 0, .int 1]] = (ss ++ [(0, 1)]).map eS := by rw [List.map_append]; rfl
    rw [e, atI_d (eS (0, 0)) (by simp; omega), hone, List.getD_eq_getElem?_getD, List.getElem?_map, List.getD_eq_getElem?_getD]
    cases (ss ++ [(0, 1)])[at']? <;> rfl
  have tk : ((ss.map eS).take at') = (ss.take at').map eS := by rw [List.map_take]
  have dr : ∀ j, ((ss.map eS).drop j) = (ss.drop j).map eS := fun j => by rw [List.map_drop]
  have lt : (ss.take at').length ≤ 200 := by rw [List.length_take]; omega
  have ld : ∀ j, (ss.drop j).length ≤ 200 := fun j => by rw [List.length_drop]; omega
  have n0 : ss.length ≤ 99999 := by omega
  have n1 : (ss.take at').length ≤ 99999 := by omega
  have n2 : (ss.take at').length ≤ 99998 := by omega
  have n3 : ∀ j, (ss.take at').length + 1 + (ss.drop j).length ≤ 100000 := fun j => by have := ld j; omega
  have n4 : ∀ j, (ss.take at').length + 2 + (ss.drop j).length ≤ 100000 := fun j => by have := ld j; omega
  have fin : ∀ (q : Purse) (ts : List Sp2), finF m (.cell m.length) (m.set k (ePu q) ++ [.lst (ts.map eS)]) = ret (.own (ts.map eS)) (m.set k (ePu q)) := fun q ts => fin_own1 (m := m.set k (ePu q)) (by simp) (tidy_pu (Tidy.refl _)) (unds_eS _ _)
  have lM : M.length = m.length := by rw [hM]; simp
  have one' : D.tup [.int one.1, .int one.2] = eS one := rfl
  have ee : eS one = .tup [.int one.1, .int one.2] := rfl
  have key : wp (f_law_bent_5 [.cell k, .lst (ss.map eS)] m) (fun r m' => ∃ (ts : List Sp2) (p' : Purse), r = .ok (.own (ts.map eS)) ∧ m' = m.set k (ePu p') ∧ ts.length ≤ 500 ∧ Pok b p') := by
    unfold f_law_bent_5 e_law_bent_5
    refine wp_fnI rfl ?_
    refine ws_step (δ' := [some (.cell k), some (.lst (ss.map eS)), some (.int w), none, none, none]) (m' := m.set k (ePu p1)) ?_ ?_
    · simp! only [e1]
    refine ws_step (δ' := [some (.cell k), some (.lst (ss.map eS)), some (.int w), some (.int (at' : Int)), none, none]) (m' := M) ?_ ?_
    · simp! only [List.length_map, e2, hM]
    refine ws_step (δ' := [some (.cell k), some (.lst (ss.map eS)), some (.int w), some (.int (at' : Int)), some (eS one), none]) (m' := M) ?_ ?_
    · simp! only [List.length_map, n0, ix]
    have done : ∀ ts : List Sp2, ts.length ≤ 500 → wp (endF m (some (.rt (.cell m.length) (M ++ [.lst (ts.map eS)])))) (fun r m' => ∃ (ts : List Sp2) (p' : Purse), r = .ok (.own (ts.map eS)) ∧ m' = m.set k (ePu p') ∧ ts.length ≤ 500 ∧ Pok b p') := fun ts ht => by
      rw [endF_rt, hM, fin]
      simp only [wp_some]
      exact ⟨ts, p2, rfl, rfl, ht, hp2.mono (by omega)⟩
    by_cases h0 : w = 0
    · have dq : decide (w = 0) = true := decide_eq_true h0
      refine ws_stop (d := .cell m.length) (m' := M ++ [.lst (((ss.take at' ++ [(one.2, one.1)]) ++ ss.drop (at' + 1)).map eS)]) ?_ (done _ (by rw [List.length_append, List.length_append]; have := ld at'; have := ld (at' + 1); show _ + 1 + _ ≤ _; omega))
      rw [ee, List.map_append, List.map_append]
      simp! only [dq, cut_to, cut_fr1, cut_from, tk, dr, pRevT, List.length_map, n1, n2, n3, n4, List.length_append, lM]
      try rfl
    have dn0 : decide (w = 0) = false := decide_eq_false h0
    refine ws_step (δ' := [some (.cell k), some (.lst (ss.map eS)), some (.int w), some (.int (at' : Int)), some (eS one), none]) (m' := M) ?_ ?_
    · simp! only [dn0]
    by_cases h1 : w = 1
    · have dq : decide (w = 1) = true := decide_eq_true h1
      have md : ∀ M : Store, pMod (.int (at' : Int)) (.int 3) M = ret (.int ((at' : Int) % 3)) M := fun M => pMod_pos (by omega)
      obtain ⟨x, hx⟩ : ∃ x : Sp2, L2.atI [D.tup [.int one.1, .int one.1], .tup [.int one.1, .int 1000000000000], .tup [.int (-1000000000000), .int one.2]] ((at' : Int) % 3) = some (eS x) := by
        have : (at' : Int) % 3 = 0 ∨ (at' : Int) % 3 = 1 ∨ (at' : Int) % 3 = 2 := by omega
        rcases this with h | h | h
        · rw [h]; exact ⟨(one.1, one.1), rfl⟩
        · rw [h]; exact ⟨(one.1, 1000000000000), rfl⟩
        · rw [h]; exact ⟨(-1000000000000, one.2), rfl⟩
      refine ws_stop (d := .cell m.length) (m' := M ++ [.lst (((ss.take at' ++ [x]) ++ ss.drop (at' + 1)).map eS)]) ?_ (done _ (by rw [List.length_append, List.length_append]; have := ld (at' + 1); show _ + 1 + _ ≤ _; omega))
      rw [ee, List.map_append, List.map_append]
      simp! only [dq, cut_to, cut_fr1, tk, dr, md, hx, List.length_map, n1, n3, List.length_append, lM]
    have dn1 : decide (w = 1) = false := decide_eq_false h1
    refine ws_step (δ' := [some (.cell k), some (.lst (ss.map eS)), some (.int w), some (.int (at' : Int)), some (eS one), none]) (m' := M) ?_ ?_
    · simp! only [dn1]
    by_cases h2 : w = 2
    · have dq : decide (w = 2) = true := decide_eq_true h2
      refine ws_stop (d := .cell m.length) (m' := M ++ [.lst ((ss.reverse).map eS)]) ?_ (done _ (by rw [List.length_reverse]; omega))
      rw [List.map_reverse]
      simp! only [dq, lM]
    have dn2 : decide (w = 2) = false := decide_eq_false h2
    refine ws_step (δ' := [some (.cell k), some (.lst (ss.map eS)), some (.int w), some (.int (at' : Int)), some (eS one), none]) (m' := M) ?_ ?_
    · simp! only [dn2]
    by_cases h3 : w = 3
    · have dq : decide (w = 3) = true := decide_eq_true h3
      refine ws_stop (d := .cell m.length) (m' := M ++ [.lst (((ss.take at' ++ [one]) ++ ss.drop at').map eS)]) ?_ (done _ (by rw [List.length_append, List.length_append]; have := ld at'; have := ld (at' + 1); show _ + 1 + _ ≤ _; omega))
      rw [ee, List.map_append, List.map_append]
      simp! only [dq, cut_to, cut_fr1, cut_from, tk, dr, pRevT, List.length_map, n1, n2, n3, n4, List.length_append, lM]
      try rfl
    have dn3 : decide (w = 3) = false := decide_eq_false h3
    refine ws_step (δ' := [some (.cell k), some (.lst (ss.map eS)), some (.int w), some (.int (at' : Int)), some (eS one), none]) (m' := M) ?_ ?_
    · simp! only [dn3]
    by_cases h4 : w = 4
    · have dq : decide (w = 4) = true := decide_eq_true h4
      refine ws_stop (d := .cell m.length) (m' := M ++ [.lst (((ss.take at' ++ [(one.1, one.2 + 1)]) ++ ss.drop (at' + 1)).map eS)]) ?_ (done _ (by rw [List.length_append, List.length_append]; have := ld at'; have := ld (at' + 1); show _ + 1 + _ ≤ _; omega))
      rw [ee, List.map_append, List.map_append]
      simp! only [dq, cut_to, cut_fr1, cut_from, tk, dr, pRevT, List.length_map, n1, n2, n3, n4, List.length_append, lM]
      try rfl
    have dn4 : decide (w = 4) = false := decide_eq_false h4
    refine ws_step (δ' := [some (.cell k), some (.lst (ss.map eS)), some (.int w), some (.int (at' : Int)), some (eS one), none]) (m' := M) ?_ ?_
    · simp! only [dn4]
    by_cases h5 : w = 5
    · have dq : decide (w = 5) = true := decide_eq_true h5
      refine ws_stop (d := .cell m.length) (m' := M ++ [.lst (((ss.take at' ++ [(one.1 - 1, one.1), one]) ++ ss.drop (at' + 1)).map eS)]) ?_ (done _ (by rw [List.length_append, List.length_append]; have := ld at'; have := ld (at' + 1); show _ + 2 + _ ≤ _; omega))
      rw [ee, List.map_append, List.map_append]
      simp! only [dq, cut_to, cut_fr1, cut_from, tk, dr, pRevT, List.length_map, n1, n2, n3, n4, List.length_append, lM]
      try rfl
    have dn5 : decide (w = 5) = false := decide_eq_false h5
    refine ws_step (δ' := [some (.cell k), some (.lst (ss.map eS)), some (.int w), some (.int (at' : Int)), some (eS one), none]) (m' := M) ?_ ?_
    · simp! only [dn5]
    have gM : M[k]? = some (ePu p2) := by rw [hM]; exact gk p2
    obtain ⟨v, p3, e3, v0, v1, hp3⟩ := law_draw_ok (b := b) (n := 2) gM (hp2.mono (by omega)) (by omega) (by omega)
    rw [hM, List.set_set] at e3
    rw [← hM] at e3
    obtain ⟨u, rfl⟩ : ∃ u : Nat, v = (u : Int) := ⟨v.toNat, by omega⟩
    have rg : Rg62 (200 + (u : Int)) := rg62 (by omega) (by omega)
    have tn : (200 + (u : Int)).toNat = 200 + u := by omega
    have lr : 200 + u < 100000 := by omega
    have lc : lcM (mName 5) mYes (eTup (aCons (eOp pMul (eC (.int 2)) (eVar 5)) (aCons (eOp pAdd (eOp pMul (eC (.int 2)) (eVar 5)) (eC (.int 1))) aNil))) (Wk.mk ((List.range (200 + u)).map fun i : Nat => D.int (i : Int)) []).chk [some (.cell k), some (.lst (ss.map eS)), some (.int w), some (.int (at' : Int)), some (eS one), none] ((List.range (200 + u)).map fun i : Nat => D.int (i : Int)) (m.set k (ePu p3)) = ret (((List.range (200 + u)).map fun i : Nat => ((2 * (i : Int), 2 * (i : Int) + 1) : Sp2)).map eS) (m.set k (ePu p3)) := by
      rw [List.map_map]
      exact lcM_map chk_nil (fun i : Nat => D.int (i : Int)) _ (List.range (200 + u)) fun i _ => ⟨[some (.cell k), some (.lst (ss.map eS)), some (.int w), some (.int (at' : Int)), some (eS one), some (.int (i : Int))], rfl, by
        have p1 : ∀ M : Store, pMul (.int 2) (.int (i : Int)) M = ret (.int (2 * (i : Int))) M := fun M => pMul_l (by omega) (by omega)
        simp! only [p1]
        rfl⟩
    refine ws_last (o := .rt (.cell m.length) (m.set k (ePu p3) ++ [.lst (((List.range (200 + u)).map fun i : Nat => ((2 * (i : Int), 2 * (i : Int) + 1) : Sp2)).map eS)])) ?_ ?_
    · simp! only [e3, wRng1, rg, tn, rng_0, List.length_map, List.length_range, lr, wipeE, lc]
    · rw [endF_rt, fin]
      simp only [wp_some]
      exact ⟨_, p3, rfl, rfl, by simp; omega, hp3⟩
  obtain ⟨r, m', e, ts, p', rfl, rfl, h⟩ := wp_get key
  exact ⟨ts, p', e, h⟩
noncomputable def e_law_k75 : MS :=
  (sSeq (sFor (wRng1 (aCons (eC (.int 4)) aNil)) (mName 1)
    (sSeq (sSet 2 (cel (fCall0 f_law_purse (aCons (eVar 0) (aCons (eVar 1) aNil)))))
    (sSeq (sSet 3 (pla (fCall0 f_law_span (aCons (eVar 2) (aCons (cel (fLst aNil)) (aCons (eOp pSub (eOp pPow (eC (.int 10)) (eC (.int 12))) (eC (.int 1))) aNil))))))
    (sSeq (sSet 4 (pla (fCall0 f_law_span_text (aCons (eVar 3) aNil))))
    (sSeq (sIf (mOr (tst (eOp pNeD (dat (fCall0 f_law_shown (aCons (eVar 3) (aCons (eC (.bl false)) aNil)))) (eVar 4))) (mNot (tst (pla (fCall0 f_law_fine (aCons (pla (fCall0 f_read_span (aCons (eVar 4) aNil))) (aCons (eVar 3) aNil))))))) (sRet (eC (.bl false))) sNext)
    (sSeq (sFor (wList (dat (fLst (aCons (eUn pRevT (eVar 3)) (aCons (eTup (aCons (eOp pIxT (eVar 3) (eC (.int 0))) (aCons (eOp pIxT (eVar 3) (eC (.int 0))) aNil))) (aCons (eTup (aCons (eOp pIxT (eVar 3) (eC (.int 0))) (aCons (eOp pPow (eC (.int 10)) (eC (.int 12))) aNil))) (aCons (eTup (aCons (eUn pNeg (eOp pPow (eC (.int 10)) (eC (.int 12)))) (aCons (eOp pIxT (eVar 3) (eC (.int 1))) aNil))) aNil))))))) (mName 5)
    (sIf (tst (eOp pNeD (dat (fCall0 f_law_shown (aCons (eVar 5) (aCons (eC (.bl false)) aNil)))) (dat (fLst (aCons (eC (.str "span")) aNil))))) (sRet (eC (.bl false))) sNext))
    (sSeq (sSet 6 (pla (fCall0 f_law_draw (aCons (eVar 2) (aCons (eC (.int 13)) aNil)))))
    (sSeq (sIf (tst (eOp pEq (pla (fCall0 f_law_draw (aCons (eVar 2) (aCons (eC (.int 8)) aNil)))) (eC (.int 7)))) (sSet 6 (eC (.int 200))) sNext)
    (sSeq (sSet 7 (dat (fCall0 f_law_cover_4 (aCons (eVar 2) (aCons (eVar 6) aNil)))))
    (sSeq (sFor (wList (dat (fOp pCat (dat (fLst (aCons (eVar 7) aNil))) (dat (fLc (wRng1 (aCons (eC (.int 4)) aNil)) (mName 8) mYes (dat (fCall0 f_law_bent_5 (aCons (eVar 2) (aCons (eVar 7) aNil)))) [8]))))) (mName 9)
    (sSeq (sSet 10 (dat (fCB pList (aCons (eVar 9) aNil))))
    (sIf (mOr (tst (eOp pNeD (dat (fCall0 f_law_shown (aCons (eVar 10) (aCons (eC (.bl true)) aNil)))) (dat (fCall0 f_law_due_7 (aCons (eVar 9) aNil))))) (tst (eOp pNeD (eVar 10) (eVar 9)))) (sRet (eC (.bl false))) sNext)))
    (sSeq (sSet 4 (dat (fCall0 f_law_due_7 (aCons (eVar 7) aNil))))
    (sFor (wRng1 (aCons (eC (.int 2)) aNil)) (mName 8)
    (sSeq (sSet 11 (cel (fCall0 f_read_cover (aCons (eVar 4) aNil))))
    (sSeq (sIf (mOr (mNot (tst (eIsT "list" (eVar 11)))) (tst (eOp pNeD (eVar 11) (eVar 7)))) (sRet (eC (.bl false))) sNext)
    (sSeq (sIf (tst (eOp pGt (eCB pLen (aCons (dat (fLc (wList (eVar 11)) (mName 12) (mNot (tst (pla (fCall0 f_law_fine (aCons (eVar 12) (aCons (eVar 12) aNil)))))) (eVar 12) [12])) aNil)) (eC (.int 0)))) (sRet (eC (.bl false))) sNext)
    (sExpr (eBM pAppend (eVar 11) (aCons (eTup (aCons (eC (.int 0)) (aCons (eC (.int 1)) aNil))) aNil))))))))))))))))))
    (sRet (eC (.bl true))))
noncomputable def f_law_k75 : FnS := fnOf 1 13 e_law_k75
theorem ne_str {l : List Nat} (h : ∀ c ∈ l, c < 128) (m : Store) : pNeD (.str (tx l)) (.str (tx l)) m = ret (.bl false) m := ne_self rfl rfl (sh_str (strOk_tx h))
theorem ok_span : PyData.strOk "span" = true := by decide +kernel
theorem ok_cover : PyData.strOk "cover" = true := by decide +kernel
theorem ne_wrd {x : Str} (h : PyData.strOk x = true) (m : Store) : pNeD (.lst [.str x]) (.lst [.str x]) m = ret (.bl false) m := ne_self vw_lst vw_lst (sh_lst fun d hd => by cases List.mem_singleton.mp hd; exact sh_str h)
theorem ne_due (ss : List Sp2) (m : Store) : pNeD (dueT ss).dat (dueT ss).dat m = ret (.bl false) m := by
  unfold dueT
  split
  · split
    · exact ne_str coverL_lt m
    · exact ne_wrd ok_cover m
  · exact ne_wrd ok_span m
theorem law_true (ns : List Int) (hl : ns.length ≤ 63) : ∃ m', f_law_k75 [.scr ns] [] = some (.ok (.pl (.bl true)), m') := by
  have key : wp (f_law_k75 [.scr ns] []) (fun r m' => r = .ok (.pl (.bl true))) := by
    unfold f_law_k75 e_law_k75
    refine wp_fnI rfl ?_
    have h4 : Rg62 4 := rg62 (by omega) (by omega)
    have h2 : Rg62 2 := rg62 (by omega) (by omega)
    refine ws_mid (I := fun δ m' => True) ?_ ?_
    · refine ws_forS (wk := ⟨rng 0 4, []⟩) (m' := []) ?_ ?_
      · simp! only [wRng1, h4]
      refine ws_mono (forN (I := fun l δ m' => (∀ x ∈ l, ∃ k : Nat, x = .int (k : Int) ∧ k ≤ 1000) ∧ ∃ z1 z2 z3 z4 z5 z6 z7 z8 z9 z10 z11 z12, δ = [some (.scr ns), z1, z2, z3, z4, z5, z6, z7, z8, z9, z10, z11, z12]) (fun _ _ _ _ => chk_nil) ?_ ⟨fun x hx => ?_, _, _, _, _, _, _, _, _, _, _, _, _, rfl⟩) ?_
      · rintro x l δ m ⟨hx, z1, z2, z3, z4, z5, z6, z7, z8, z9, z10, z11, z12, rfl⟩
        obtain ⟨k, rfl, hk⟩ := hx x List.mem_cons_self
        refine ⟨[some (.scr ns), some (.int (k : Int)), z2, z3, z4, z5, z6, z7, z8, z9, z10, z11, z12], rfl, ?_⟩
        obtain ⟨p, e, hp⟩ := law_purse_ok ns k hk m
        obtain ⟨n, hn⟩ : ∃ n, n = m.length := ⟨_, rfl⟩
        refine ws_step (δ' := [some (.scr ns), some (.int (k : Int)), some (.cell n), z3, z4, z5, z6, z7, z8, z9, z10, z11, z12]) (m' := m ++ [ePu p]) ?_ ?_
        · rw [hn]; simp! only [e]; rfl
        -- the span
        have gp : (m ++ [ePu p] ++ [Cell.lst (([] : List Int).map D.int)])[n]? = some (ePu p) := by rw [hn]; simp
        have gl : (m ++ [ePu p] ++ [Cell.lst (([] : List Int).map D.int)])[n + 1]? = some (.lst (([] : List Int).map D.int)) := by rw [hn]; simp
        obtain ⟨s, p1, e1, s1, s2, s3, hp1⟩ := law_span_any (k := n) (l := n + 1) (b := 9000) (most := 999999999999) (by omega) gp gl (by simp) (hp.mono (by omega)) (by omega) (by omega)
        have hs : isSpan s = true := good_iff.mpr ⟨by omega, s2, by omega⟩
        obtain ⟨M, hM⟩ : ∃ M, M = ((m ++ [ePu p] ++ [Cell.lst (([] : List Int).map D.int)]).set n (ePu p1)).set (n + 1) (.lst ((([] : List Int) ++ [s.1, s.2]).map D.int)) := ⟨_, rfl⟩
        rw [← hM] at e1
        have gM : M[n]? = some (ePu p1) := by rw [hM, List.getElem?_set_ne (by omega)]; exact List.getElem?_set_self (List.getElem?_eq_some_iff.mp gp).1
        refine ws_step (δ' := [some (.scr ns), some (.int (k : Int)), some (.cell n), some (eS s), z4, z5, z6, z7, z8, z9, z10, z11, z12]) (m' := M) ?_ ?_
        · have l1 : (m ++ [ePu p]).length = n + 1 := by rw [hn]; simp
          simp! only [l1, List.append_assoc]
          simp only [List.append_assoc, List.map_nil] at e1
          simp! only [] at e1
          simp! only [e1]
        refine ws_step (δ' := [some (.scr ns), some (.int (k : Int)), some (.cell n), some (eS s), some (.str (tx (spanL s))), z5, z6, z7, z8, z9, z10, z11, z12]) (m' := M) ?_ ?_
        · simp! only [law_span_text_eq hs]
        have d1 : dueS s = .pl (.str (tx (spanL s))) := by unfold dueS; rw [if_pos hs]
        refine ws_step (δ' := [some (.scr ns), some (.int (k : Int)), some (.cell n), some (eS s), some (.str (tx (spanL s))), z5, z6, z7, z8, z9, z10, z11, z12]) (m' := M) ?_ ?_
        · simp! only [law_shown_span, d1, ne_str spanL_lt, read_span_ok hs, law_fine_ok]
        -- bad spans
        refine ws_mid (I := fun δ m' => m' = M ∧ ∃ z5, δ = [some (.scr ns), some (.int (k : Int)), some (.cell n), some (eS s), some (.str (tx (spanL s))), z5, z6, z7, z8, z9, z10, z11, z12]) ?_ ?_
        · have q1 : D.tup [.int s.2, .int s.1] = eS (s.2, s.1) := rfl
          refine ws_forS (wk := ⟨([(s.2, s.1), (s.1, s.1), (s.1, 1000000000000), (-1000000000000, s.2)] : List Sp2).map eS, []⟩) (m' := M) ?_ ?_
          · simp! only [eS, pRevT, srcOf_lst]
          refine ws_mono (forT (en := eS) (I := fun l δ m' => (∀ t ∈ l, isSpan t = false) ∧ m' = M ∧ ∃ z5, δ = [some (.scr ns), some (.int (k : Int)), some (.cell n), some (eS s), some (.str (tx (spanL s))), z5, z6, z7, z8, z9, z10, z11, z12]) (fun _ _ _ _ => chk_nil) ?_ ⟨fun t ht => ?_, rfl, _, rfl⟩) ?_
          · rintro t l δ m' ⟨ht, rfl, z5, rfl⟩
            have d2 : dueS t = .own [.str "span"] := by unfold dueS; rw [if_neg (by rw [ht t List.mem_cons_self]; decide)]
            refine ⟨[some (.scr ns), some (.int (k : Int)), some (.cell n), some (eS s), some (.str (tx (spanL s))), some (eS t), z6, z7, z8, z9, z10, z11, z12], rfl, ?_⟩
            refine ws_last (o := .nx [some (.scr ns), some (.int (k : Int)), some (.cell n), some (eS s), some (.str (tx (spanL s))), some (eS t), z6, z7, z8, z9, z10, z11, z12] m') ?_ ⟨_, _, rfl, fun u hu => ht u (List.mem_cons_of_mem _ hu), rfl, _, rfl⟩
            simp! only [law_shown_span, d2, ne_wrd ok_span]
          · refine not_good fun g => ?_
            have g1 := g.1
            have g2 := g.2.1
            have g3 := g.2.2
            simp only [List.mem_cons, List.not_mem_nil, or_false] at ht
            rcases ht with rfl | rfl | rfl | rfl
            · have g2 : s.2 < s.1 := g2; omega
            · have g2 : s.1 < s.1 := g2; omega
            · have g3 : (1000000000000 : Int) < 1000000000000 := g3; omega
            · have g1 : (-1000000000000 : Int) < -1000000000000 := g1; omega
          · rintro o ⟨δ, m', rfl, _, rfl, z5, rfl⟩
            exact ⟨_, _, rfl, rfl, z5, rfl⟩
        rintro δ m' ⟨rfl, z5, rfl⟩
        -- how many
        obtain ⟨v, p2, e2, v0, v1, hp2⟩ := law_draw_ok (b := 8000) (n := 13) gM (hp1.mono (by omega)) (by omega) (by omega)
        obtain ⟨mn, rfl⟩ : ∃ u : Nat, v = (u : Int) := ⟨v.toNat, by omega⟩
        have g2 : (m'.set n (ePu p2))[n]? = some (ePu p2) := List.getElem?_set_self (List.getElem?_eq_some_iff.mp gM).1
        refine ws_step (δ' := [some (.scr ns), some (.int (k : Int)), some (.cell n), some (eS s), some (.str (tx (spanL s))), z5, some (.int (mn : Int)), z7, z8, z9, z10, z11, z12]) (m' := m'.set n (ePu p2)) ?_ ?_
        · simp! only [e2]
        obtain ⟨w', p3, e3, w0, w1, hp3⟩ := law_draw_ok (b := 7000) (n := 8) g2 (hp2.mono (by omega)) (by omega) (by omega)
        rw [List.set_set] at e3
        refine ws_mid (I := fun δ m1 => ∃ mn : Nat, mn ≤ 200 ∧ m1 = m'.set n (ePu p3) ∧ δ = [some (.scr ns), some (.int (k : Int)), some (.cell n), some (eS s), some (.str (tx (spanL s))), z5, some (.int (mn : Int)), z7, z8, z9, z10, z11, z12]) ?_ ?_
        · by_cases hw : w' = 7
          · refine ws_last (o := .nx [some (.scr ns), some (.int (k : Int)), some (.cell n), some (eS s), some (.str (tx (spanL s))), z5, some (.int ((200 : Nat) : Int)), z7, z8, z9, z10, z11, z12] (m'.set n (ePu p3))) ?_ ⟨_, _, rfl, 200, by omega, rfl, rfl⟩
            simp! only [e3, decide_eq_true hw]
            rfl
          · refine ws_last (o := .nx [some (.scr ns), some (.int (k : Int)), some (.cell n), some (eS s), some (.str (tx (spanL s))), z5, some (.int (mn : Int)), z7, z8, z9, z10, z11, z12] (m'.set n (ePu p3))) ?_ ⟨_, _, rfl, mn, by omega, rfl, rfl⟩
            simp! only [e3, decide_eq_false hw]
        rintro δ m1 ⟨mn, hmn, rfl, rfl⟩
        have g3 : (m'.set n (ePu p3))[n]? = some (ePu p3) := List.getElem?_set_self (List.getElem?_eq_some_iff.mp gM).1
        obtain ⟨cs, p4, e4, lcs, gcs, ccs, hp4⟩ := law_cover_4_ok (b := 5000) g3 hmn (hp3.mono (by omega))
        rw [List.set_set] at e4
        obtain ⟨N, hN⟩ : ∃ N, N = m'.set n (ePu p4) := ⟨_, rfl⟩
        rw [← hN] at e4
        have gN : N[n]? = some (ePu p4) := by rw [hN]; exact List.getElem?_set_self (List.getElem?_eq_some_iff.mp gM).1
        have ln : n < N.length := (List.getElem?_eq_some_iff.mp gN).1
        refine ws_step (δ' := [some (.scr ns), some (.int (k : Int)), some (.cell n), some (eS s), some (.str (tx (spanL s))), z5, some (.int (mn : Int)), some (.lst (cs.map eS)), z8, z9, z10, z11, z12]) (m' := N) ?_ ?_
        · simp! only [e4]
        -- the cover and bent ones
        obtain ⟨ds, m2, lc, ll, hP, q5, rfl, hq5⟩ := lcM_inv (g := mName 8) (e := dat (fCall0 f_law_bent_5 (aCons (eVar 2) (aCons (eVar 7) aNil)))) (c := (Wk.mk ((List.range 4).map fun i : Nat => D.int (i : Int)) []).chk) (δ := [some (.scr ns), some (.int (k : Int)), some (.cell n), some (eS s), some (.str (tx (spanL s))), z5, some (.int (mn : Int)), some (.lst (cs.map eS)), none, z9, z10, z11, z12]) (fun i : Nat => D.int (i : Int)) (fun _ d => ∃ ts : List Sp2, d = .lst (ts.map eS) ∧ ts.length ≤ 500) (fun r m' => ∃ q, m' = N.set n (ePu q) ∧ Pok (4000 + 3 * r) q) (fun _ _ _ => chk_nil) (fun y r m' ⟨q, hm, hq⟩ => by
          subst hm
          obtain ⟨ts, q2, e6, tl, hq2⟩ := law_bent_5_ok (b := 4000 + 3 * r) (p := q) (ss := cs) (List.getElem?_set_self ln) lcs (hq.mono (by omega))
          rw [List.set_set] at e6
          exact ⟨[some (.scr ns), some (.int (k : Int)), some (.cell n), some (eS s), some (.str (tx (spanL s))), z5, some (.int (mn : Int)), some (.lst (cs.map eS)), some (.int (y : Int)), z9, z10, z11, z12], .lst (ts.map eS), N.set n (ePu q2), rfl, by simp! only [e6], ⟨ts, rfl, tl⟩, q2, rfl, hq2⟩) (List.range 4) N ⟨p4, (set_same gN).symm, hp4.mono (by simp)⟩
        have lc' : lcM (mName 8) mYes (dat (fCall0 f_law_bent_5 (aCons (eVar 2) (aCons (eVar 7) aNil)))) (Wk.mk (rng 0 4) []).chk [some (.scr ns), some (.int (k : Int)), some (.cell n), some (eS s), some (.str (tx (spanL s))), z5, some (.int (mn : Int)), some (.lst (cs.map eS)), none, z9, z10, z11, z12] (rng 0 4) N = ret ds (N.set n (ePu q5)) := by
          rw [show rng 0 4 = (List.range 4).map fun i : Nat => D.int (i : Int) from rng_0]; exact lc
        have dsl : ds.length = 4 := by rw [ll]; rfl
        have alld : ∀ d ∈ D.lst (cs.map eS) :: ds, ∃ ts : List Sp2, d = .lst (ts.map eS) ∧ ts.length ≤ 500 := fun d hd => by
          rcases List.mem_cons.mp hd with rfl | hd
          · exact ⟨cs, rfl, by omega⟩
          · obtain ⟨i, hi, rfl⟩ := List.mem_iff_getElem.mp hd
            exact hP i (by rw [← ll]; exact hi) hi
        obtain ⟨R, hR⟩ : ∃ R, R = N.set n (ePu q5) := ⟨_, rfl⟩
        rw [← hR] at lc'
        refine ws_mid (I := fun δ m' => m' = R ∧ ∃ z8 z9 z10, δ = [some (.scr ns), some (.int (k : Int)), some (.cell n), some (eS s), some (.str (tx (spanL s))), z5, some (.int (mn : Int)), some (.lst (cs.map eS)), z8, z9, z10, z11, z12]) ?_ ?_
        · refine ws_forS (wk := ⟨.lst (cs.map eS) :: ds, []⟩) (m' := R) ?_ ?_
          · have r4 : (rng 0 4).length < 100000 := by decide
            simp! only [wRng1, h4, r4, wipeE, lc', dsl, srcOf_lst]
          refine ws_mono (forN (I := fun l δ m' => (∀ d ∈ l, ∃ ts : List Sp2, d = .lst (ts.map eS) ∧ ts.length ≤ 500) ∧ m' = R ∧ ∃ z8 z9 z10, δ = [some (.scr ns), some (.int (k : Int)), some (.cell n), some (eS s), some (.str (tx (spanL s))), z5, some (.int (mn : Int)), some (.lst (cs.map eS)), z8, z9, z10, z11, z12]) (fun _ _ _ _ => chk_nil) ?_ ⟨alld, rfl, _, _, _, rfl⟩) ?_
          · rintro d l δ m' ⟨hd, rfl, z8, z9, z10, rfl⟩
            obtain ⟨ts, rfl, tl⟩ := hd d List.mem_cons_self
            have a1 := law_shown_cover (m := m') (d := .lst (ts.map eS)) (ss := ts) .lst (by omega)
            have a2 := law_due_7_eq (m := m') (ss := ts) (by omega)
            have a3 : pNeD (.lst (ts.map eS)) (.lst (ts.map eS)) m' = ret (.bl false) m' := ne_self vw_lst vw_lst sh_spans
            have a4 := ne_due ts m'
            unfold FT.dat at a4
            refine ⟨[some (.scr ns), some (.int (k : Int)), some (.cell n), some (eS s), some (.str (tx (spanL s))), z5, some (.int (mn : Int)), some (.lst (cs.map eS)), z8, some (.lst (ts.map eS)), z10, z11, z12], rfl, ?_⟩
            refine ws_step (δ' := [some (.scr ns), some (.int (k : Int)), some (.cell n), some (eS s), some (.str (tx (spanL s))), z5, some (.int (mn : Int)), some (.lst (cs.map eS)), z8, some (.lst (ts.map eS)), some (.lst (ts.map eS)), z11, z12]) (m' := m') ?_ ?_
            · simp! only []
            refine ws_last (o := .nx [some (.scr ns), some (.int (k : Int)), some (.cell n), some (eS s), some (.str (tx (spanL s))), z5, some (.int (mn : Int)), some (.lst (cs.map eS)), z8, some (.lst (ts.map eS)), some (.lst (ts.map eS)), z11, z12] m') ?_ ⟨_, _, rfl, fun u hu => hd u (List.mem_cons_of_mem _ hu), rfl, _, _, _, rfl⟩
            simp! only [a1, a2, a3, a4]
          · rintro o ⟨δ, m', rfl, _, rfl, z8, z9, z10, rfl⟩
            exact ⟨_, _, rfl, rfl, z8, z9, z10, rfl⟩
        rintro δ m' ⟨rfl, z8, z9, z10, rfl⟩
        have dt : dueT cs = .pl (.str (tx (coverL cs))) := by unfold dueT; rw [if_pos (List.all_eq_true.mpr gcs), if_pos ccs]
        have a2 := law_due_7_eq (m := m') (ss := cs) (by omega)
        rw [dt] at a2
        refine ws_step (δ' := [some (.scr ns), some (.int (k : Int)), some (.cell n), some (eS s), some (.str (tx (coverL cs))), z5, some (.int (mn : Int)), some (.lst (cs.map eS)), z8, z9, z10, z11, z12]) (m' := m') ?_ ?_
        · simp! only [a2]
        refine ws_mono (R := fun o => ∃ δ m', o = .nx δ m' ∧ ∃ z1 z2 z3 z4 z5 z6 z7 z8 z9 z10 z11 z12, δ = [some (.scr ns), z1, z2, z3, z4, z5, z6, z7, z8, z9, z10, z11, z12]) ?_ ?_
        · refine ws_forS (wk := ⟨rng 0 2, []⟩) (m' := m') ?_ ?_
          · simp! only [wRng1, h2]
          refine ws_mono (forN (I := fun l δ m' => ∃ z8 z11, δ = [some (.scr ns), some (.int (k : Int)), some (.cell n), some (eS s), some (.str (tx (coverL cs))), z5, some (.int (mn : Int)), some (.lst (cs.map eS)), z8, z9, z10, z11, z12]) (fun _ _ _ _ => chk_nil) ?_ ⟨_, _, rfl⟩) ?_
          · rintro x l δ m3 ⟨z8, z11, rfl⟩
            have rc := read_cover_ok gcs ccs lcs m3
            have g0 : (m3 ++ [Cell.lst (cs.map eS)])[m3.length]? = some (.lst (cs.map eS)) := app_get
            have hyl : isTy "list" "list" = true := rfl
            have ty1 := (Rd.cell g0).t
            unfold tyN at ty1
            have a3 : pNeD (.cell m3.length) (.lst (cs.map eS)) (m3 ++ [.lst (cs.map eS)]) = ret (.bl false) (m3 ++ [.lst (cs.map eS)]) := ne_self (Rd.cell g0).v vw_lst sh_spans
            have c1 : cs.length < 100000 := by omega
            have lf := lcM_pure (g := mName 12) (t := mNot (tst (pla (fCall0 f_law_fine (aCons (eVar 12) (aCons (eVar 12) aNil)))))) (e := eVar 12) (c := (Wk.mk (cs.map eS) (srcOf (.cell m3.length) (cs.map eS))).chk) (δ := [some (.scr ns), some (.int (k : Int)), some (.cell n), some (eS s), some (.str (tx (coverL cs))), z5, some (.int (mn : Int)), some (.lst (cs.map eS)), some x, z9, z10, some (.cell m3.length), none]) (m := m3 ++ [.lst (cs.map eS)]) (chk_one g0) eS (fun _ => false) eS cs fun t _ => ⟨[some (.scr ns), some (.int (k : Int)), some (.cell n), some (eS s), some (.str (tx (coverL cs))), z5, some (.int (mn : Int)), some (.lst (cs.map eS)), some x, z9, z10, some (.cell m3.length), some (eS t)], rfl, by simp! only [law_fine_ok], fun z => nomatch z⟩
            have ff : cs.filter (fun _ => false) = [] := by simp
            rw [ff] at lf
            refine ⟨[some (.scr ns), some (.int (k : Int)), some (.cell n), some (eS s), some (.str (tx (coverL cs))), z5, some (.int (mn : Int)), some (.lst (cs.map eS)), some x, z9, z10, z11, z12], rfl, ?_⟩
            refine ws_step (δ' := [some (.scr ns), some (.int (k : Int)), some (.cell n), some (eS s), some (.str (tx (coverL cs))), z5, some (.int (mn : Int)), some (.lst (cs.map eS)), some x, z9, z10, some (.cell m3.length), z12]) (m' := m3 ++ [.lst (cs.map eS)]) ?_ ?_
            · simp! only [rc]
            refine ws_step (δ' := [some (.scr ns), some (.int (k : Int)), some (.cell n), some (eS s), some (.str (tx (coverL cs))), z5, some (.int (mn : Int)), some (.lst (cs.map eS)), some x, z9, z10, some (.cell m3.length), z12]) (m' := m3 ++ [.lst (cs.map eS)]) ?_ ?_
            · simp! only [ty1, hyl, a3]
            refine ws_step (δ' := [some (.scr ns), some (.int (k : Int)), some (.cell n), some (eS s), some (.str (tx (coverL cs))), z5, some (.int (mn : Int)), some (.lst (cs.map eS)), some x, z9, z10, some (.cell m3.length), z12]) (m' := m3 ++ [.lst (cs.map eS)]) ?_ ?_
            · simp! only [rdQ_cell g0, List.length_map, c1, wipeE, lf, List.map_nil, List.length_nil]
              rfl
            refine ws_last (o := .nx [some (.scr ns), some (.int (k : Int)), some (.cell n), some (eS s), some (.str (tx (coverL cs))), z5, some (.int (mn : Int)), some (.lst (cs.map eS)), some x, z9, z10, some (.cell m3.length), z12] ((m3 ++ [Cell.lst (cs.map eS)]).set m3.length (Cell.lst (cs.map eS ++ [D.tup [.int 0, .int 1]])))) ?_ ⟨_, _, rfl, _, _, rfl⟩
            simp! only [isLst_cell g0, cellL_cell g0, List.length_map, c1]
          · rintro o ⟨δ, m', rfl, z8, z11, rfl⟩
            exact ⟨_, _, rfl, _, _, _, _, _, _, _, _, _, _, _, _, rfl⟩
        · rintro o ⟨δ, m', rfl, h⟩
          exact ⟨_, _, rfl, fun y hy => hx y (List.mem_cons_of_mem _ hy), h⟩
      · obtain ⟨i, hi, rfl⟩ := List.mem_map.mp hx
        have := List.mem_range.mp hi
        exact ⟨i, by simp, by omega⟩
      · rintro o ⟨δ, m', rfl, _⟩
        exact ⟨_, _, rfl, trivial⟩
    · rintro δ m' _
      simp_arith only [fin_top]
  obtain ⟨r, m', e, rfl⟩ := wp_get key
  exact ⟨m', e⟩
end DL
open DL
namespace LW
open PySem PySem.Spec PyProof.Rows L2 DL
structure Txt (K : PySem.W.Frag) (mg : Str → Option Value) : Prop where
  n_len : mg "len" = none
  n_max : mg "max" = none
  n_range : mg "range" = none
  n_min : mg "min" = none
  n_str : mg "str" = none
  n_sorted : mg "sorted" = none
  n_set : mg "set" = none
  n_abs : mg "abs" = none
  n_zip : mg "zip" = none
  n_int : mg "int" = none
  n_all : mg "all" = none
  n_isinstance : mg "isinstance" = none
  n_ValueError : mg "ValueError" = none
  n_bool : mg "bool" = none
  n_tuple : mg "tuple" = none
  n_list : mg "list" = none
  c_MOST_FIGURES : ∃ t, mg "MOST_FIGURES" = some (.int 12 t)
  c_FIGURES : ∃ t, mg "FIGURES" = some (.str "0123456789" t)
  c_BEYOND : ∃ t, mg "BEYOND" = some (.int 1000000000000 t)
  c_MOST_SPANS : ∃ t, mg "MOST_SPANS" = some (.int 200 t)
  xs : Xs K xnames
  x_ShelfError : XCls K xnames "ShelfError"
  g_ShelfError : mg "ShelfError" = some (.ref (ga K "ShelfError"))
  x_NoSpan : XCls K xnames "NoSpan"
  g_NoSpan : mg "NoSpan" = some (.ref (ga K "NoSpan"))
  x_NoPlace : XCls K xnames "NoPlace"
  g_NoPlace : mg "NoPlace" = some (.ref (ga K "NoPlace"))
  x_NoCover : XCls K xnames "NoCover"
  g_NoCover : mg "NoCover" = some (.ref (ga K "NoCover"))
  x_NoWeight : XCls K xnames "NoWeight"
  g_NoWeight : mg "NoWeight" = some (.ref (ga K "NoWeight"))
  x_NoCount : XCls K xnames "NoCount"
  g_NoCount : mg "NoCount" = some (.ref (ga K "NoCount"))
  x_NoName : XCls K xnames "NoName"
  g_NoName : mg "NoName" = some (.ref (ga K "NoName"))
  x_Twice : XCls K xnames "Twice"
  g_Twice : mg "Twice" = some (.ref (ga K "Twice"))
  x_Full : XCls K xnames "Full"
  g_Full : mg "Full" = some (.ref (ga K "Full"))
  x_Bare : XCls K xnames "Bare"
  g_Bare : mg "Bare" = some (.ref (ga K "Bare"))
  x_NoDeed : XCls K xnames "NoDeed"
  g_NoDeed : mg "NoDeed" = some (.ref (ga K "NoDeed"))
  x_NoText : XCls K xnames "NoText"
  g_NoText : mg "NoText" = some (.ref (ga K "NoText"))
  x_NoLine : XCls K xnames "NoLine"
  g_NoLine : mg "NoLine" = some (.ref (ga K "NoLine"))
def t_law_at (K : PySem.W.Frag) (W : WX) : TS :=
  (tSeq (tIfS (tTest (tOp oLt (tVar 1) (tCB (Evl.rLenS K) (tCons (tVar 0) tNil)))) (tRet (tOp (rIxL K) (tVar 0) (tVar 1))) tNext)
    (tRet (tC (.int 0))))
theorem so_law_at {K : PySem.W.Frag} (xs : Xs K xnames) : SS K (t_law_at K) e_law_at :=
  (ss_seq (ss_if (fun W => (so_test (so_op s2_pLt so_var (so_eCB sc_pLen (so_acons so_var so_anil))))) (ss_ret (fun W => (so_op s2_pIxL so_var so_var))) ss_next)
    (ss_ret (fun W => so_cint)))
def t_law_purse (K : PySem.W.Frag) (W : WX) : TS :=
  (tSeq (tAsg (tCall (spF K f_law_at) [] E0 (tCons (tVar 0) (tCons (tVar 1) tNil))) (gName 2))
    (tRet (tLst (tCons (tCB Evl.rMax2 (tCons (tOp oSub (tVar 2) (tOp oPow (tC (.int 10)) (tC (.int 18)))) (tCons (tC (.int 0)) tNil))) (tCons (tOp oMod (tVar 2) (tC (.int 2147483647))) (tCons (tOp oMul (tC (.int 1000)) (tVar 1)) tNil))))))
theorem so_law_purse {K : PySem.W.Frag} (xs : Xs K xnames) : SS K (t_law_purse K) e_law_purse :=
  (ss_seq (ss_set (fun W => (so_pla (so_call0 (so_acons so_var (so_acons so_var so_anil))))))
    (ss_ret (fun W => (so_cel (so_lst (so_acons (so_eCB sc_pMax2 (so_acons (so_op s2_pSub so_var (so_op s2_pPow so_cint so_cint)) (so_acons so_cint so_anil))) (so_acons (so_op s2_pMod so_var so_cint) (so_acons (so_op s2_pMul so_cint so_var) so_anil))))))))
def t_law_mixed (K : PySem.W.Frag) (W : WX) : TS :=
  (tSeq (tAsg (tOp oMod (tOp oAdd (tOp oAdd (tOp oAdd (tOp oMul (tVar 0) (tC (.int 1103515245))) (tOp oMul (tOp oMul (tC (.int 7919)) (tVar 1)) (tVar 1))) (tVar 1)) (tC (.int 1))) (tC (.int 2147483647))) (gName 2))
    (tSeq (tAsg (tOp oMod (tOp oAdd (tOp oMul (tVar 2) (tVar 2)) (tC (.int 69621))) (tC (.int 2147483629))) (gName 2))
    (tRet (tOp oMod (tOp oMul (tVar 2) (tC (.int 48271))) (tC (.int 2147483587))))))
theorem so_law_mixed {K : PySem.W.Frag} (xs : Xs K xnames) : SS K (t_law_mixed K) e_law_mixed :=
  (ss_seq (ss_set (fun W => (so_op s2_pMod (so_op s2_pAdd (so_op s2_pAdd (so_op s2_pAdd (so_op s2_pMul so_var so_cint) (so_op s2_pMul (so_op s2_pMul so_cint so_var) so_var)) so_var) so_cint) so_cint)))
    (ss_seq (ss_set (fun W => (so_op s2_pMod (so_op s2_pAdd (so_op s2_pMul so_var so_var) so_cint) so_cint)))
    (ss_ret (fun W => (so_op s2_pMod (so_op s2_pMul so_var so_cint) so_cint)))))
def t_law_draw (K : PySem.W.Frag) (W : WX) : TS :=
  (tSeq (tIfS (tTest (tOp oGt (tOp (rIxL K) (tVar 0) (tC (.int 0))) (tC (.int 0)))) (tSeq (tAsg (tOp oMod (tOp (rIxL K) (tVar 0) (tC (.int 0))) (tVar 1)) (gName 2))
    (tSeq (tAsg (tOp oDiv (tOp (rIxL K) (tVar 0) (tC (.int 0))) (tVar 1)) (gSub (tVar 0) (tC (.int 0)) rSetL))
    (tRet (tVar 2)))) tNext)
    (tSeq (tAsg (tC (.int 0)) (gName 3))
    (tSeq (tFor (iRng1 (tCons (tOp oAdd (tC (.int 1)) (tOp oDiv (tBits (tVar 1)) (tC (.int 30)))) tNil)) (gName 4)
    ((tSeq (tAsg (tOp oAdd (tOp (rIxL K) (tVar 0) (tC (.int 2))) (tC (.int 1))) (gSub (tVar 0) (tC (.int 2)) rSetL))
    (tAsg (tOp oAdd (tOp oMul (tVar 3) (tC (.int 2147483587))) (tCall (spF K f_law_mixed) [] E0 (tCons (tOp (rIxL K) (tVar 0) (tC (.int 1))) (tCons (tOp (rIxL K) (tVar 0) (tC (.int 2))) tNil)))) (gName 3)))))
    (tRet (tOp oMod (tVar 3) (tVar 1))))))
theorem so_law_draw {K : PySem.W.Frag} (xs : Xs K xnames) : SS K (t_law_draw K) e_law_draw :=
  (ss_seq (ss_if (fun W => (so_test (so_op s2_pGt (so_op s2_pIxL so_var so_cint) so_cint))) (ss_seq (ss_set (fun W => (so_op s2_pMod (so_op s2_pIxL so_var so_cint) so_var)))
    (ss_seq (ss_setI (fun W => (so_op s2_pDiv (so_op s2_pIxL so_var so_cint) so_var)) (fun W => so_var) (fun W => so_cint))
    (ss_ret (fun W => so_var)))) ss_next)
    (ss_seq (ss_set (fun W => so_cint))
    (ss_seq (ss_for (fun W => (so_wRng1 (so_acons (so_op s2_pAdd so_cint (so_op s2_pDiv (so_bits so_var) so_cint)) so_anil))) sg_name
    (ss_seq (ss_setI (fun W => (so_op s2_pAdd (so_op s2_pIxL so_var so_cint) so_cint)) (fun W => so_var) (fun W => so_cint))
    (ss_set (fun W => (so_op s2_pAdd (so_op s2_pMul so_var so_cint) (so_pla (so_call0 (so_acons (so_op s2_pIxL so_var so_cint) (so_acons (so_op s2_pIxL so_var so_cint) so_anil)))))))))
    (ss_ret (fun W => (so_op s2_pMod so_var so_var))))))
def t_law_number (K : PySem.W.Frag) (W : WX) : TS :=
  (tSeq (tAsg (tOp (rIxL K) (tLst (tCons (tC (.int 1)) (tCons (tC (.int 4)) (tCons (tC (.int 30)) (tCons (tVar 1) tNil))))) (tCall (spF K f_law_draw) [] E0 (tCons (tVar 0) (tCons (tC (.int 4)) tNil)))) (gName 2))
    (tRet (tOp oSub (tCall (spF K f_law_draw) [] E0 (tCons (tVar 0) (tCons (tOp oAdd (tOp oMul (tC (.int 2)) (tVar 2)) (tC (.int 1))) tNil))) (tVar 2))))
theorem so_law_number {K : PySem.W.Frag} (xs : Xs K xnames) : SS K (t_law_number K) e_law_number :=
  (ss_seq (ss_set (fun W => (so_op s2_pIxL (so_dat (so_lst (so_acons so_cint (so_acons so_cint (so_acons so_cint (so_acons so_var so_anil)))))) (so_pla (so_call0 (so_acons so_var (so_acons so_cint so_anil)))))))
    (ss_ret (fun W => (so_op s2_pSub (so_pla (so_call0 (so_acons so_var (so_acons (so_op s2_pAdd (so_op s2_pMul so_cint so_var) so_cint) so_anil)))) so_var))))
def t_law_end (K : PySem.W.Frag) (W : WX) : TS :=
  (tSeq (tIfS (tAnd (tTest (tOp (rNeD K) (tVar 1) (tLst tNil))) (tTest (tOp oGt (tCall (spF K f_law_draw) [] E0 (tCons (tVar 0) (tCons (tC (.int 3)) tNil))) (tC (.int 0))))) (tSeq (tAsg (tOp oSub (tOp oAdd (tOp (rIxL K) (tVar 1) (tCall (spF K f_law_draw) [] E0 (tCons (tVar 0) (tCons (tCB (Evl.rLenS K) (tCons (tVar 1) tNil)) tNil)))) (tCall (spF K f_law_draw) [] E0 (tCons (tVar 0) (tCons (tC (.int 3)) tNil)))) (tC (.int 1))) (gName 3))
    (tRet (tCB Evl.rMax2 (tCons (tOp oSub (tC (.int 0)) (tVar 2)) (tCons (tCB rMin2 (tCons (tVar 2) (tCons (tVar 3) tNil))) tNil))))) tNext)
    (tRet (tCall (spF K f_law_number) [] E0 (tCons (tVar 0) (tCons (tVar 2) tNil)))))
theorem so_law_end {K : PySem.W.Frag} (xs : Xs K xnames) : SS K (t_law_end K) e_law_end :=
  (ss_seq (ss_if (fun W => (so_mAnd (so_test (so_op s2_pNeD so_var (so_dat (so_lst so_anil)))) (so_test (so_op s2_pGt (so_pla (so_call0 (so_acons so_var (so_acons so_cint so_anil)))) so_cint)))) (ss_seq (ss_set (fun W => (so_op s2_pSub (so_op s2_pAdd (so_op s2_pIxL so_var (so_pla (so_call0 (so_acons so_var (so_acons (so_eCB sc_pLen (so_acons so_var so_anil)) so_anil))))) (so_pla (so_call0 (so_acons so_var (so_acons so_cint so_anil))))) so_cint)))
    (ss_ret (fun W => (so_eCB sc_pMax2 (so_acons (so_op s2_pSub so_cint so_var) (so_acons (so_eCB sc_pMin2 (so_acons so_var (so_acons so_var so_anil))) so_anil)))))) ss_next)
    (ss_ret (fun W => (so_pla (so_call0 (so_acons so_var (so_acons so_var so_anil)))))))
def t_law_span (K : PySem.W.Frag) (W : WX) : TS :=
  (tSeq (tAsg (tCall (spF K f_law_end) [] E0 (tCons (tVar 0) (tCons (tVar 1) (tCons (tVar 2) tNil)))) (gName 3))
    (tSeq (tAsg (tCall (spF K f_law_end) [] E0 (tCons (tVar 0) (tCons (tOp rCat (tVar 1) (tLst (tCons (tVar 3) tNil))) (tCons (tVar 2) tNil)))) (gName 4))
    (tSeq (tAsg (tCB (rNuC3 nuMin3) (tCons (tVar 3) (tCons (tVar 4) (tCons (tOp oSub (tVar 2) (tC (.int 1))) tNil)))) (gName 5))
    (tSeq (tAsg (tCB (rNuC3 nuMax3) (tCons (tVar 3) (tCons (tVar 4) (tCons (tOp oAdd (tVar 5) (tC (.int 1))) tNil)))) (gName 6))
    (tSeq (tDrop (tBM K "list" rAppend (tVar 1) (tCons (tVar 5) tNil)))
    (tSeq (tDrop (tBM K "list" rAppend (tVar 1) (tCons (tVar 6) tNil)))
    (tRet (tTup (tCons (tVar 5) (tCons (tVar 6) tNil))))))))))
theorem so_law_span {K : PySem.W.Frag} (xs : Xs K xnames) : SS K (t_law_span K) e_law_span :=
  (ss_seq (ss_set (fun W => (so_pla (so_call0 (so_acons so_var (so_acons so_var (so_acons so_var so_anil)))))))
    (ss_seq (ss_set (fun W => (so_pla (so_call0 (so_acons so_var (so_acons (so_dat (so_fop s2_pCat so_var (so_dat (so_lst (so_acons so_var so_anil))))) (so_acons so_var so_anil)))))))
    (ss_seq (ss_set (fun W => (so_eCB sc_pMin3 (so_acons so_var (so_acons so_var (so_acons (so_op s2_pSub so_var so_cint) so_anil))))))
    (ss_seq (ss_set (fun W => (so_eCB sc_pMax3 (so_acons so_var (so_acons so_var (so_acons (so_op s2_pAdd so_var so_cint) so_anil))))))
    (ss_seq (ss_expr (fun W => (so_bm sm_pAppend so_var (so_acons so_var so_anil))))
    (ss_seq (ss_expr (fun W => (so_bm sm_pAppend so_var (so_acons so_var so_anil))))
    (ss_ret (fun W => (so_tup (so_acons so_var (so_acons so_var so_anil)))))))))))
def t_law_span_text (K : PySem.W.Frag) (W : WX) : TS :=
  (tRet (tOp oAddS (tOp oAddS (tCB rStrI (tCons (tOp (rIxT K) (tVar 0) (tC (.int 0))) tNil)) (tC (.str ".."))) (tCB rStrI (tCons (tOp (rIxT K) (tVar 0) (tC (.int 1))) tNil))))
theorem so_law_span_text {K : PySem.W.Frag} (xs : Xs K xnames) : SS K (t_law_span_text K) e_law_span_text :=
  (ss_ret (fun W => (so_op s2_pAddS (so_op s2_pAddS (so_eCB sc_pStrI (so_acons (so_op s2_pIxT so_var so_cint) so_anil)) so_cstr) (so_eCB sc_pStrI (so_acons (so_op s2_pIxT so_var so_cint) so_anil)))))
def t_law_cover (K : PySem.W.Frag) (W : WX) : TS :=
  (tSeq (tAsg (tLst tNil) (gName 2))
    (tSeq (tFor (iRng1 (tCons (tOp oMul (tC (.int 2)) (tVar 1)) tNil)) (gName 3)
    ((tDrop (tBM K "list" rAppend (tVar 2) (tCons (tCall (spF K f_law_end) [] E0 (tCons (tVar 0) (tCons (tVar 2) (tCons (tOp oSub (tOp oPow (tC (.int 10)) (tC (.int 12))) (tC (.int 1))) tNil)))) tNil)))))
    (tSeq (tAsg (tSortSet K (tVar 2)) (gName 2))
    (tRet (tLc (iRng1 (tCons (tOp oDiv (tCB (Evl.rLenS K) (tCons (tVar 2) tNil)) (tC (.int 2))) tNil)) (gName 3) tYes (tTup (tCons (tOp (rIxL K) (tVar 2) (tOp oMul (tC (.int 2)) (tVar 3))) (tCons (tOp (rIxL K) (tVar 2) (tOp oAdd (tOp oMul (tC (.int 2)) (tVar 3)) (tC (.int 1)))) tNil))) [3])))))
theorem so_law_cover {K : PySem.W.Frag} (xs : Xs K xnames) : SS K (t_law_cover K) e_law_cover_4 :=
  (ss_seq (ss_set (fun W => (so_cel (so_lst so_anil))))
    (ss_seq (ss_for (fun W => (so_wRng1 (so_acons (so_op s2_pMul so_cint so_var) so_anil))) sg_name
    (ss_expr (fun W => (so_bm sm_pAppend so_var (so_acons (so_pla (so_call0 (so_acons so_var (so_acons so_var (so_acons (so_op s2_pSub (so_op s2_pPow so_cint so_cint) so_cint) so_anil))))) so_anil)))))
    (ss_seq (ss_set (fun W => (so_cel (so_sortSet so_var))))
    (ss_ret (fun W => (so_cel (so_lc (vs := [3]) (so_wRng1 (so_acons (so_op s2_pDiv (so_eCB sc_pLen (so_acons so_var so_anil)) so_cint) so_anil)) (sgw_name (by decide)) so_yes (so_tup (so_acons (so_op s2_pIxL so_var (so_op s2_pMul so_cint so_var)) (so_acons (so_op s2_pIxL so_var (so_op s2_pAdd (so_op s2_pMul so_cint so_var) so_cint)) so_anil))))))))))
def t_law_is_span (K : PySem.W.Frag) (W : WX) : TS :=
  (tRet (tAndV (tOp oLt (tOp (rIxT K) (tVar 0) (tC (.int 0))) (tOp (rIxT K) (tVar 0) (tC (.int 1)))) (tOp oLt (tCB Evl.rMax2 (tCons (tCB rAbs (tCons (tOp (rIxT K) (tVar 0) (tC (.int 0))) tNil)) (tCons (tCB rAbs (tCons (tOp (rIxT K) (tVar 0) (tC (.int 1))) tNil)) tNil))) (tOp oPow (tC (.int 10)) (tC (.int 12))))))
theorem so_law_is_span {K : PySem.W.Frag} (xs : Xs K xnames) : SS K (t_law_is_span K) e_law_is_span :=
  (ss_ret (fun W => (so_and (so_op s2_pLt (so_op s2_pIxT so_var so_cint) (so_op s2_pIxT so_var so_cint)) (so_op s2_pLt (so_eCB sc_pMax2 (so_acons (so_eCB sc_pAbs (so_acons (so_op s2_pIxT so_var so_cint) so_anil)) (so_acons (so_eCB sc_pAbs (so_acons (so_op s2_pIxT so_var so_cint) so_anil)) so_anil))) (so_op s2_pPow so_cint so_cint)))))
def t_law_due (K : PySem.W.Frag) (W : WX) : TS :=
  (tSeq (tIfS (tTest (tOp oGt (tCB (Evl.rLenS K) (tCons (tLc (iList K (tVar 0)) (gName 1) (tNot (tB (tCall (spF K f_law_is_span) [] E0 (tCons (tVar 1) tNil)))) (tVar 1) [1]) tNil)) (tC (.int 0)))) (tRet (tLst (tCons (tC (.str "span")) tNil))) tNext)
    (tSeq (tAsg (tLc (iZip K (tCons (tVar 0) (tCons (tSl (rSlL K) (tVar 0) (tPart (tC (.int 1))) tNoPart) tNil))) (gTup K 2 (gCons (gName 2) (gCons (gName 3) gNil))) (tTest (tOp oGe (tOp (rIxT K) (tVar 2) (tC (.int 1))) (tOp (rIxT K) (tVar 3) (tC (.int 0))))) (tVar 2) [2, 3]) (gName 4))
    (tSeq (tIfS (tOr (tTest (tOp oGt (tCB (Evl.rLenS K) (tCons (tVar 0) tNil)) (tC (.int 200)))) (tTest (tOp (rNeD K) (tVar 4) (tLst tNil)))) (tRet (tLst (tCons (tC (.str "cover")) tNil))) tNext)
    (tRet (tM1 (rJoin K) (tC (.str " ")) (tLc (iList K (tVar 0)) (gName 1) tYes (tCall (spF K f_law_span_text) [] E0 (tCons (tVar 1) tNil)) [1]))))))
theorem so_law_due {K : PySem.W.Frag} (xs : Xs K xnames) : SS K (t_law_due K) e_law_due_7 :=
  (ss_seq (ss_if (fun W => (so_test (so_op s2_pGt (so_eCB sc_pLen (so_acons (so_dat (so_lc (vs := [1]) (so_wList so_var) (sgw_name (by decide)) (so_mNot (so_B (so_pla (so_call0 (so_acons so_var so_anil))))) so_var)) so_anil)) so_cint))) (ss_ret (fun W => (so_cel (so_lst (so_acons so_cstr so_anil))))) ss_next)
    (ss_seq (ss_set (fun W => (so_dat (so_lc (vs := [2, 3]) (so_wZip (so_acons so_var (so_acons (so_dat (so_sl so_var (so_some so_cint) so_none)) so_anil))) (sgw_tup (.cons (.cons .nil)) (sgws_cons (sgw_name (by decide)) (sgws_cons (sgw_name (by decide)) sgws_nil))) (so_test (so_op s2_pGe (so_op s2_pIxT so_var so_cint) (so_op s2_pIxT so_var so_cint))) so_var))))
    (ss_seq (ss_if (fun W => (so_mOr (so_test (so_op s2_pGt (so_eCB sc_pLen (so_acons so_var so_anil)) so_cint)) (so_test (so_op s2_pNeD so_var (so_dat (so_lst so_anil)))))) (ss_ret (fun W => (so_cel (so_lst (so_acons so_cstr so_anil))))) ss_next)
    (ss_ret (fun W => (so_join so_cstr (so_dat (so_lc (vs := [1]) (so_wList so_var) (sgw_name (by decide)) so_yes (so_pla (so_call0 (so_acons so_var so_anil)))))))))))
def t_must (K : PySem.W.Frag) (W : WX) : TS :=
  (tIfS (tNot (tB (tVar 0))) (tRaise W (.ref (ga K "NoText"))) tNext)
theorem so_must {K : PySem.W.Frag} (xs : Xs K xnames) : SS K (t_must K) e_must :=
  (ss_if (fun W => (so_mNot (so_B so_var))) ss_raise ss_next)
def t_is_number (K : PySem.W.Frag) (W : WX) : TS :=
  (tSeq (tAsg (tSl rSlS (tVar 0) (tPart (tCB rInt1 (tCons (tOp rEq (tSl rSlS (tVar 0) tNoPart (tPart (tC (.int 1)))) (tC (.str "-"))) tNil))) tNoPart) (gName 1))
    (tSeq (tIfS (tOr (tNot (tTest (tChain oLe oLe (tC (.int 1)) (tCB rLenTx (tCons (tVar 1) tNil)) (tC (.int 12))))) (tNot (tB (tCB (rAll K) (tCons (tLc (iStr (tVar 1)) (gName 2) tYes (tOp (rInSg false) (tVar 2) (tC (.str "0123456789"))) [2]) tNil))))) (tRet (tC (.bl false))) tNext)
    (tRet (tOrV (tOp rNe (tOp rIxS (tVar 1) (tC (.int 0))) (tC (.str "0"))) (tOp rEq (tVar 0) (tC (.str "0")))))))
theorem so_is_number {K : PySem.W.Frag} (xs : Xs K xnames) : SS K (t_is_number K) e_is_number :=
  (ss_seq (ss_set (fun W => (so_slS so_var (so_some (so_eCB sc_pInt1 (so_acons (so_op s2_pEq (so_slS so_var so_none (so_some so_cint)) so_cstr) so_anil))) so_none)))
    (ss_seq (ss_if (fun W => (so_mOr (so_mNot (so_test (so_chain s2_pLe s2_pLe so_cint (so_eCB sc_pLenS (so_acons so_var so_anil)) so_cint))) (so_mNot (so_B (so_eCB sc_pAll (so_acons (so_dat (so_lc (vs := [2]) (so_wStr so_var) (sgw_name (by decide)) so_yes (so_op s2_pInSg so_var so_cstr))) so_anil)))))) (ss_ret (fun W => so_cbl)) ss_next)
    (ss_ret (fun W => (so_or (so_op s2_pNe (so_op s2_pIxS so_var so_cint) so_cstr) (so_op s2_pEq so_var so_cstr))))))
def t_read_number (K : PySem.W.Frag) (W : WX) : TS :=
  (tSeq (tDrop (tCallS (spF K f_must) (WE W) (tCons (tCall (spF K f_is_number) [] E0 (tCons (tVar 0) tNil)) tNil)))
    (tRet (tCB rIntS (tCons (tVar 0) tNil))))
theorem so_read_number {K : PySem.W.Frag} (xs : Xs K xnames) : SS K (t_read_number K) e_read_number :=
  (ss_seq (ss_expr (fun W => (so_pla (so_call (so_acons (so_pla (so_call0 (so_acons so_var so_anil))) so_anil)))))
    (ss_ret (fun W => (so_eCB sc_pIntS (so_acons so_var so_anil)))))
def t_is_place (K : PySem.W.Frag) (W : WX) : TS :=
  (tRet (tChain oLt oLt (tOp oSub (tC (.int 0)) (tC (.int 1000000000000))) (tVar 0) (tC (.int 1000000000000))))
theorem so_is_place {K : PySem.W.Frag} (xs : Xs K xnames) : SS K (t_is_place K) e_is_place :=
  (ss_ret (fun W => (so_chain s2_pLt s2_pLt (so_op s2_pSub so_cint so_cint) so_var so_cint)))
def t_is_span (K : PySem.W.Frag) (W : WX) : TS :=
  (tRet (tAndV (tCall (spF K f_is_place) [] E0 (tCons (tOp (rIxT K) (tVar 0) (tC (.int 0))) tNil)) (tAndV (tCall (spF K f_is_place) [] E0 (tCons (tOp (rIxT K) (tVar 0) (tC (.int 1))) tNil)) (tOp oLt (tOp (rIxT K) (tVar 0) (tC (.int 0))) (tOp (rIxT K) (tVar 0) (tC (.int 1)))))))
theorem so_is_span {K : PySem.W.Frag} (xs : Xs K xnames) : SS K (t_is_span K) e_is_span :=
  (ss_ret (fun W => (so_and (so_pla (so_call0 (so_acons (so_op s2_pIxT so_var so_cint) so_anil))) (so_and (so_pla (so_call0 (so_acons (so_op s2_pIxT so_var so_cint) so_anil))) (so_op s2_pLt (so_op s2_pIxT so_var so_cint) (so_op s2_pIxT so_var so_cint))))))
def t_read_span (K : PySem.W.Frag) (W : WX) : TS :=
  (tSeq (tAsg (tM1 rPart (tVar 0) (tC (.str ".."))) (gTup K 3 (gCons (gName 1) (gCons (gName 2) (gCons (gName 3) gNil)))))
    (tSeq (tAsg (tTup (tCons (tCallS (spF K f_read_number) (WE W) (tCons (tVar 1) tNil)) (tCons (tCallS (spF K f_read_number) (WE W) (tCons (tVar 3) tNil)) tNil))) (gName 4))
    (tSeq (tDrop (tCallS (spF K f_must) (WE W) (tCons (tCall (spF K f_is_span) [] E0 (tCons (tVar 4) tNil)) tNil)))
    (tRet (tVar 4)))))
theorem so_read_span {K : PySem.W.Frag} (xs : Xs K xnames) : SS K (t_read_span K) e_read_span :=
  (ss_seq (ss_asg (fun W => (so_part so_var so_cstr)) (sg_tup (.cons (.cons (.cons .nil))) (sgs_cons sg_name (sgs_cons sg_name (sgs_cons sg_name sgs_nil)))))
    (ss_seq (ss_set (fun W => (so_tup (so_acons (so_pla (so_call (so_acons so_var so_anil))) (so_acons (so_pla (so_call (so_acons so_var so_anil))) so_anil)))))
    (ss_seq (ss_expr (fun W => (so_pla (so_call (so_acons (so_pla (so_call0 (so_acons so_var so_anil))) so_anil)))))
    (ss_ret (fun W => so_var)))))
def t_must_span (K : PySem.W.Frag) (W : WX) : TS :=
  (tIfS (tNot (tB (tCall (spF K f_is_span) [] E0 (tCons (tVar 0) tNil)))) (tRaise W (.ref (ga K "NoSpan"))) tNext)
theorem so_must_span {K : PySem.W.Frag} (xs : Xs K xnames) : SS K (t_must_span K) e_must_span :=
  (ss_if (fun W => (so_mNot (so_B (so_pla (so_call0 (so_acons so_var so_anil)))))) ss_raise ss_next)
def t_must_spans (K : PySem.W.Frag) (W : WX) : TS :=
  (tFor (iList K (tVar 0)) (gName 1)
    ((tDrop (tCallS (spF K f_must_span) (WE W) (tCons (tVar 1) tNil)))))
theorem so_must_spans {K : PySem.W.Frag} (xs : Xs K xnames) : SS K (t_must_spans K) e_must_spans :=
  (ss_for (fun W => (so_wList so_var)) sg_name
    (ss_expr (fun W => (so_pla (so_call (so_acons so_var so_anil))))))
def t_must_cover (K : PySem.W.Frag) (W : WX) : TS :=
  (tSeq (tDrop (tCallS (spF K f_must_spans) (WE W) (tCons (tVar 0) tNil)))
    (tSeq (tIfS (tTest (tOp oGt (tCB (Evl.rLenS K) (tCons (tVar 0) tNil)) (tC (.int 200)))) (tRaise W (.ref (ga K "NoCover"))) tNext)
    (tFor (iZip K (tCons (tVar 0) (tCons (tSl (rSlL K) (tVar 0) (tPart (tC (.int 1))) tNoPart) tNil))) (gTup K 2 (gCons (gName 1) (gCons (gName 2) gNil)))
    ((tIfS (tTest (tOp oLe (tOp (rIxT K) (tVar 2) (tC (.int 0))) (tOp (rIxT K) (tVar 1) (tC (.int 1))))) (tRaise W (.ref (ga K "NoCover"))) tNext)))))
theorem so_must_cover {K : PySem.W.Frag} (xs : Xs K xnames) : SS K (t_must_cover K) e_must_cover :=
  (ss_seq (ss_expr (fun W => (so_pla (so_call (so_acons so_var so_anil)))))
    (ss_seq (ss_if (fun W => (so_test (so_op s2_pGt (so_eCB sc_pLen (so_acons so_var so_anil)) so_cint))) ss_raise ss_next)
    (ss_for (fun W => (so_wZip (so_acons so_var (so_acons (so_dat (so_sl so_var (so_some so_cint) so_none)) so_anil)))) (sg_tup (.cons (.cons .nil)) (sgs_cons sg_name (sgs_cons sg_name sgs_nil)))
    (ss_if (fun W => (so_test (so_op s2_pLe (so_op s2_pIxT so_var so_cint) (so_op s2_pIxT so_var so_cint)))) ss_raise ss_next))))
def t_read_cover (K : PySem.W.Frag) (W : WX) : TS :=
  (tSeq (tIfS (tTest (tOp rEq (tVar 0) (tC (.str "")))) (tRet (tLst tNil)) tNext)
    (tSeq (tAsg (tLc (iList K (tM1 rSplit (tVar 0) (tC (.str " ")))) (gName 1) tYes (tCall (spF K f_read_span) [] E0 (tCons (tVar 1) tNil)) [1]) (gName 2))
    (tSeq (tTryN K (.ref (ga K "NoCover")) (fun W => (tDrop (tCallS (spF K f_must_cover) (WE W) (tCons (tVar 2) tNil)))))
    (tRet (tVar 2)))))
theorem so_read_cover {K : PySem.W.Frag} (xs : Xs K xnames) : SS K (t_read_cover K) e_read_cover :=
  (ss_seq (ss_if (fun W => (so_test (so_op s2_pEq so_var so_cstr))) (ss_ret (fun W => (so_cel (so_lst so_anil)))) ss_next)
    (ss_seq (ss_set (fun W => (so_cel (so_lc (vs := [1]) (so_wList (so_dat (so_split so_var so_cstr))) (sgw_name (by decide)) so_yes (so_pla (so_call0 (so_acons so_var so_anil)))))))
    (ss_seq (ss_tryN (ss_expr (fun W => (so_pla (so_call (so_acons so_var so_anil))))))
    (ss_ret (fun W => so_var)))))
def t_show_span (K : PySem.W.Frag) (W : WX) : TS :=
  (tSeq (tDrop (tCallS (spF K f_must_span) (WE W) (tCons (tVar 0) tNil)))
    (tRet (tOp oAddS (tOp oAddS (tCB rStrI (tCons (tOp (rIxT K) (tVar 0) (tC (.int 0))) tNil)) (tC (.str ".."))) (tCB rStrI (tCons (tOp (rIxT K) (tVar 0) (tC (.int 1))) tNil)))))
theorem so_show_span {K : PySem.W.Frag} (xs : Xs K xnames) : SS K (t_show_span K) e_show_span :=
  (ss_seq (ss_expr (fun W => (so_pla (so_call (so_acons so_var so_anil)))))
    (ss_ret (fun W => (so_op s2_pAddS (so_op s2_pAddS (so_eCB sc_pStrI (so_acons (so_op s2_pIxT so_var so_cint) so_anil)) so_cstr) (so_eCB sc_pStrI (so_acons (so_op s2_pIxT so_var so_cint) so_anil))))))
def t_show_cover (K : PySem.W.Frag) (W : WX) : TS :=
  (tSeq (tDrop (tCallS (spF K f_must_cover) (WE W) (tCons (tVar 0) tNil)))
    (tRet (tM1 (rJoin K) (tC (.str " ")) (tLc (iList K (tVar 0)) (gName 1) tYes (tCall (spF K f_show_span) [] E0 (tCons (tVar 1) tNil)) [1]))))
theorem so_show_cover {K : PySem.W.Frag} (xs : Xs K xnames) : SS K (t_show_cover K) e_show_cover :=
  (ss_seq (ss_expr (fun W => (so_pla (so_call (so_acons so_var so_anil)))))
    (ss_ret (fun W => (so_join so_cstr (so_dat (so_lc (vs := [1]) (so_wList so_var) (sgw_name (by decide)) so_yes (so_pla (so_call0 (so_acons so_var so_anil)))))))))
def t_law_class (K : PySem.W.Frag) (W : WX) : TS :=
  (tSeq (tIfS (tTest (tOp oIsN (tVar 0) (tC .non))) (tRet (tC (.str "done"))) tNext)
    (tSeq (tAsg (tLst (tCons (tCB (rIsA K) (tCons (tVar 0) (tCons (tC (.ref (ga K "NoSpan"))) tNil))) (tCons (tCB (rIsA K) (tCons (tVar 0) (tCons (tC (.ref (ga K "NoPlace"))) tNil))) (tCons (tCB (rIsA K) (tCons (tVar 0) (tCons (tC (.ref (ga K "NoCover"))) tNil))) tNil)))) (gName 1))
    (tSeq (tAsg (tOp rCat (tVar 1) (tLst (tCons (tCB (rIsA K) (tCons (tVar 0) (tCons (tC (.ref (ga K "NoWeight"))) tNil))) (tCons (tCB (rIsA K) (tCons (tVar 0) (tCons (tC (.ref (ga K "NoCount"))) tNil))) (tCons (tCB (rIsA K) (tCons (tVar 0) (tCons (tC (.ref (ga K "NoName"))) tNil))) tNil))))) (gName 1))
    (tSeq (tAsg (tOp rCat (tVar 1) (tLst (tCons (tCB (rIsA K) (tCons (tVar 0) (tCons (tC (.ref (ga K "Twice"))) tNil))) (tCons (tCB (rIsA K) (tCons (tVar 0) (tCons (tC (.ref (ga K "Full"))) tNil))) (tCons (tCB (rIsA K) (tCons (tVar 0) (tCons (tC (.ref (ga K "Bare"))) tNil))) tNil))))) (gName 1))
    (tSeq (tAsg (tOp rCat (tVar 1) (tLst (tCons (tCB (rIsA K) (tCons (tVar 0) (tCons (tC (.ref (ga K "NoDeed"))) tNil))) (tCons (tCB (rIsA K) (tCons (tVar 0) (tCons (tC (.ref (ga K "NoText"))) tNil))) (tCons (tCB (rIsA K) (tCons (tVar 0) (tCons (tC (.ref (ga K "NoLine"))) tNil))) tNil))))) (gName 1))
    (tSeq (tAsg (tLst (tCons (tC (.str "span")) (tCons (tC (.str "place")) (tCons (tC (.str "cover")) (tCons (tC (.str "weight")) (tCons (tC (.str "count")) (tCons (tC (.str "name")) (tCons (tC (.str "twice")) (tCons (tC (.str "full")) (tCons (tC (.str "bare")) (tCons (tC (.str "deed")) (tCons (tC (.str "text")) (tCons (tC (.str "line")) tNil))))))))))))) (gName 2))
    (tSeq (tAsg (tLc (iZip K (tCons (tVar 2) (tCons (tVar 1) tNil))) (gTup K 2 (gCons (gName 3) (gCons (gName 4) gNil))) (tB (tVar 4)) (tVar 3) [3, 4]) (gName 5))
    (tSeq (tIfS (tOr (tTest (tOp rNe (tCB (Evl.rLenS K) (tCons (tVar 5) tNil)) (tC (.int 1)))) (tNot (tB (tCB (rIsA K) (tCons (tVar 0) (tCons (tC (.ty "ValueError")) tNil)))))) (tRet (tC (.str "odd"))) tNext)
    (tRet (tOp (rIxL K) (tVar 5) (tC (.int 0))))))))))))
theorem so_law_class {K : PySem.W.Frag} (xs : Xs K xnames) : SS K (t_law_class K) e_law_class :=
  (ss_seq (ss_if (fun W => (so_test (so_op s2_pIsN so_var so_cnon))) (ss_ret (fun W => so_cstr)) ss_next)
    (ss_seq (ss_set (fun W => (so_dat (so_lst (so_acons (so_isX xs (ck_one xs (by decide) (by decide)) so_var) (so_acons (so_isX xs (ck_one xs (by decide) (by decide)) so_var) (so_acons (so_isX xs (ck_one xs (by decide) (by decide)) so_var) so_anil)))))))
    (ss_seq (ss_set (fun W => (so_dat (so_fop s2_pCat so_var (so_dat (so_lst (so_acons (so_isX xs (ck_one xs (by decide) (by decide)) so_var) (so_acons (so_isX xs (ck_one xs (by decide) (by decide)) so_var) (so_acons (so_isX xs (ck_one xs (by decide) (by decide)) so_var) so_anil)))))))))
    (ss_seq (ss_set (fun W => (so_dat (so_fop s2_pCat so_var (so_dat (so_lst (so_acons (so_isX xs (ck_one xs (by decide) (by decide)) so_var) (so_acons (so_isX xs (ck_one xs (by decide) (by decide)) so_var) (so_acons (so_isX xs (ck_one xs (by decide) (by decide)) so_var) so_anil)))))))))
    (ss_seq (ss_set (fun W => (so_dat (so_fop s2_pCat so_var (so_dat (so_lst (so_acons (so_isX xs (ck_one xs (by decide) (by decide)) so_var) (so_acons (so_isX xs (ck_one xs (by decide) (by decide)) so_var) (so_acons (so_isX xs (ck_one xs (by decide) (by decide)) so_var) so_anil)))))))))
    (ss_seq (ss_set (fun W => (so_dat (so_lst (so_acons so_cstr (so_acons so_cstr (so_acons so_cstr (so_acons so_cstr (so_acons so_cstr (so_acons so_cstr (so_acons so_cstr (so_acons so_cstr (so_acons so_cstr (so_acons so_cstr (so_acons so_cstr (so_acons so_cstr so_anil))))))))))))))))
    (ss_seq (ss_set (fun W => (so_dat (so_lc (vs := [3, 4]) (so_wZip (so_acons so_var (so_acons so_var so_anil))) (sgw_tup (.cons (.cons .nil)) (sgws_cons (sgw_name (by decide)) (sgws_cons (sgw_name (by decide)) sgws_nil))) (so_B so_var) so_var))))
    (ss_seq (ss_if (fun W => (so_mOr (so_test (so_op s2_pNe (so_eCB sc_pLen (so_acons so_var so_anil)) so_cint)) (so_mNot (so_B (so_isX xs (ck_ve xs) so_var))))) (ss_ret (fun W => so_cstr)) ss_next)
    (ss_ret (fun W => (so_op s2_pIxL so_var so_cint)))))))))))
def t_law_shown (K : PySem.W.Frag) (W : WX) : TS :=
  (tSeq (tAsg (tC .non) (gName 2))
    (tSeq (tAsg (tC .non) (gName 3))
    (tSeq (tTry K (.ref (ga K "ShelfError")) 4 2 (fun W => (tIfS (tB (tVar 1)) (tAsg (tCallS (spF K f_show_cover) (WE W) (tCons (tVar 0) tNil)) (gName 3)) (tAsg (tCallS (spF K f_show_span) (WE W) (tCons (tVar 0) tNil)) (gName 3)))))
    (tSeq (tIfS (tTest (tOp oNotN (tVar 2) (tC .non))) (tRet (tLst (tCons (tCall (spF K f_law_class) [] E0 (tCons (tVar 2) tNil)) tNil))) tNext)
    (tRet (tVar 3))))))
theorem so_law_shown {K : PySem.W.Frag} (xs : Xs K xnames) : SS K (t_law_shown K) e_law_shown :=
  (ss_seq (ss_set (fun W => so_cnon))
    (ss_seq (ss_set (fun W => so_cnon))
    (ss_seq (ss_try xs (ss_if (fun W => (so_B so_var)) (ss_set (fun W => (so_pla (so_call (so_acons so_var so_anil))))) (ss_set (fun W => (so_pla (so_call (so_acons so_var so_anil)))))))
    (ss_seq (ss_if (fun W => (so_test (so_op s2_pNotN so_var so_cnon))) (ss_ret (fun W => (so_cel (so_lst (so_acons (so_pla (so_call0 (so_acons so_var so_anil))) so_anil))))) ss_next)
    (ss_ret (fun W => so_var))))))
def t_law_whole (K : PySem.W.Frag) (W : WX) : TS :=
  (tRet (tAndV (tCB (rIsi K) (tCons (tVar 0) (tCons (tC (.ty "int")) tNil))) (tNotV (tCB (rIsi K) (tCons (tVar 0) (tCons (tC (.ty "bool")) tNil))))))
theorem so_law_whole {K : PySem.W.Frag} (xs : Xs K xnames) : SS K (t_law_whole K) e_law_whole :=
  (ss_ret (fun W => (so_and (so_isT ka_int so_var) (so_not (so_isT ka_bool so_var)))))
def t_law_fine (K : PySem.W.Frag) (W : WX) : TS :=
  (tRet (tAndV (tCB (rIsi K) (tCons (tVar 0) (tCons (tC (.ty "tuple")) tNil))) (tAndV (tOp (rEqD K) (tVar 0) (tVar 1)) (tAndV (tCall (spF K f_law_whole) [] E0 (tCons (tOp (rIxT K) (tVar 0) (tC (.int 0))) tNil)) (tCall (spF K f_law_whole) [] E0 (tCons (tOp (rIxT K) (tVar 0) (tC (.int 1))) tNil))))))
theorem so_law_fine {K : PySem.W.Frag} (xs : Xs K xnames) : SS K (t_law_fine K) e_law_fine :=
  (ss_ret (fun W => (so_and (so_isT ka_tuple so_var) (so_and (so_op s2_pEqD so_var so_var) (so_and (so_pla (so_call0 (so_acons (so_op s2_pIxT so_var so_cint) so_anil))) (so_pla (so_call0 (so_acons (so_op s2_pIxT so_var so_cint) so_anil))))))))
def t_law_bent (K : PySem.W.Frag) (W : WX) : TS :=
  (tSeq (tAsg (tCall (spF K f_law_draw) [] E0 (tCons (tVar 0) (tCons (tC (.int 7)) tNil))) (gName 2))
    (tSeq (tAsg (tCall (spF K f_law_draw) [] E0 (tCons (tVar 0) (tCons (tOp oAdd (tCB (Evl.rLenS K) (tCons (tVar 1) tNil)) (tC (.int 1))) tNil))) (gName 3))
    (tSeq (tAsg (tOp (rIxL K) (tOp rCat (tVar 1) (tLst (tCons (tTup (tCons (tC (.int 0)) (tCons (tC (.int 1)) tNil))) tNil))) (tVar 3)) (gName 4))
    (tSeq (tIfS (tTest (tOp rEq (tVar 2) (tC (.int 0)))) (tRet (tOp rCat (tOp rCat (tSl (rSlL K) (tVar 1) tNoPart (tPart (tVar 3))) (tLst (tCons (tRevT K (tVar 4)) tNil))) (tSl (rSlL K) (tVar 1) (tPart (tOp oAdd (tVar 3) (tC (.int 1)))) tNoPart))) tNext)
    (tSeq (tIfS (tTest (tOp rEq (tVar 2) (tC (.int 1)))) (tRet (tOp rCat (tOp rCat (tSl (rSlL K) (tVar 1) tNoPart (tPart (tVar 3))) (tLst (tCons (tOp (rIxL K) (tLst (tCons (tTup (tCons (tOp (rIxT K) (tVar 4) (tC (.int 0))) (tCons (tOp (rIxT K) (tVar 4) (tC (.int 0))) tNil))) (tCons (tTup (tCons (tOp (rIxT K) (tVar 4) (tC (.int 0))) (tCons (tOp oPow (tC (.int 10)) (tC (.int 12))) tNil))) (tCons (tTup (tCons (tUn oNeg (tOp oPow (tC (.int 10)) (tC (.int 12)))) (tCons (tOp (rIxT K) (tVar 4) (tC (.int 1))) tNil))) tNil)))) (tOp oMod (tVar 3) (tC (.int 3)))) tNil))) (tSl (rSlL K) (tVar 1) (tPart (tOp oAdd (tVar 3) (tC (.int 1)))) tNoPart))) tNext)
    (tSeq (tIfS (tTest (tOp rEq (tVar 2) (tC (.int 2)))) (tRet (tRevL K (tVar 1))) tNext)
    (tSeq (tIfS (tTest (tOp rEq (tVar 2) (tC (.int 3)))) (tRet (tOp rCat (tOp rCat (tSl (rSlL K) (tVar 1) tNoPart (tPart (tVar 3))) (tLst (tCons (tVar 4) tNil))) (tSl (rSlL K) (tVar 1) (tPart (tVar 3)) tNoPart))) tNext)
    (tSeq (tIfS (tTest (tOp rEq (tVar 2) (tC (.int 4)))) (tRet (tOp rCat (tOp rCat (tSl (rSlL K) (tVar 1) tNoPart (tPart (tVar 3))) (tLst (tCons (tTup (tCons (tOp (rIxT K) (tVar 4) (tC (.int 0))) (tCons (tOp oAdd (tOp (rIxT K) (tVar 4) (tC (.int 1))) (tC (.int 1))) tNil))) tNil))) (tSl (rSlL K) (tVar 1) (tPart (tOp oAdd (tVar 3) (tC (.int 1)))) tNoPart))) tNext)
    (tSeq (tIfS (tTest (tOp rEq (tVar 2) (tC (.int 5)))) (tRet (tOp rCat (tOp rCat (tSl (rSlL K) (tVar 1) tNoPart (tPart (tVar 3))) (tLst (tCons (tTup (tCons (tOp oSub (tOp (rIxT K) (tVar 4) (tC (.int 0))) (tC (.int 1))) (tCons (tOp (rIxT K) (tVar 4) (tC (.int 0))) tNil))) (tCons (tVar 4) tNil)))) (tSl (rSlL K) (tVar 1) (tPart (tOp oAdd (tVar 3) (tC (.int 1)))) tNoPart))) tNext)
    (tRet (tLc (iRng1 (tCons (tOp oAdd (tC (.int 200)) (tCall (spF K f_law_draw) [] E0 (tCons (tVar 0) (tCons (tC (.int 2)) tNil)))) tNil)) (gName 5) tYes (tTup (tCons (tOp oMul (tC (.int 2)) (tVar 5)) (tCons (tOp oAdd (tOp oMul (tC (.int 2)) (tVar 5)) (tC (.int 1))) tNil))) [5])))))))))))
theorem so_law_bent {K : PySem.W.Frag} (xs : Xs K xnames) : SS K (t_law_bent K) e_law_bent_5 :=
  (ss_seq (ss_set (fun W => (so_pla (so_call0 (so_acons so_var (so_acons so_cint so_anil))))))
    (ss_seq (ss_set (fun W => (so_pla (so_call0 (so_acons so_var (so_acons (so_op s2_pAdd (so_eCB sc_pLen (so_acons so_var so_anil)) so_cint) so_anil))))))
    (ss_seq (ss_set (fun W => (so_op s2_pIxL (so_dat (so_fop s2_pCat so_var (so_dat (so_lst (so_acons (so_tup (so_acons so_cint (so_acons so_cint so_anil))) so_anil))))) so_var)))
    (ss_seq (ss_if (fun W => (so_test (so_op s2_pEq so_var so_cint))) (ss_ret (fun W => (so_cel (so_fop s2_pCat (so_dat (so_fop s2_pCat (so_dat (so_sl so_var so_none (so_some so_var))) (so_dat (so_lst (so_acons (so_revT so_var) so_anil))))) (so_dat (so_sl so_var (so_some (so_op s2_pAdd so_var so_cint)) so_none)))))) ss_next)
    (ss_seq (ss_if (fun W => (so_test (so_op s2_pEq so_var so_cint))) (ss_ret (fun W => (so_cel (so_fop s2_pCat (so_dat (so_fop s2_pCat (so_dat (so_sl so_var so_none (so_some so_var))) (so_dat (so_lst (so_acons (so_op s2_pIxL (so_dat (so_lst (so_acons (so_tup (so_acons (so_op s2_pIxT so_var so_cint) (so_acons (so_op s2_pIxT so_var so_cint) so_anil))) (so_acons (so_tup (so_acons (so_op s2_pIxT so_var so_cint) (so_acons (so_op s2_pPow so_cint so_cint) so_anil))) (so_acons (so_tup (so_acons (so_un s1_pNeg (so_op s2_pPow so_cint so_cint)) (so_acons (so_op s2_pIxT so_var so_cint) so_anil))) so_anil))))) (so_op s2_pMod so_var so_cint)) so_anil))))) (so_dat (so_sl so_var (so_some (so_op s2_pAdd so_var so_cint)) so_none)))))) ss_next)
    (ss_seq (ss_if (fun W => (so_test (so_op s2_pEq so_var so_cint))) (ss_ret (fun W => (so_cel (so_rev so_var)))) ss_next)
    (ss_seq (ss_if (fun W => (so_test (so_op s2_pEq so_var so_cint))) (ss_ret (fun W => (so_cel (so_fop s2_pCat (so_dat (so_fop s2_pCat (so_dat (so_sl so_var so_none (so_some so_var))) (so_dat (so_lst (so_acons so_var so_anil))))) (so_dat (so_sl so_var (so_some so_var) so_none)))))) ss_next)
    (ss_seq (ss_if (fun W => (so_test (so_op s2_pEq so_var so_cint))) (ss_ret (fun W => (so_cel (so_fop s2_pCat (so_dat (so_fop s2_pCat (so_dat (so_sl so_var so_none (so_some so_var))) (so_dat (so_lst (so_acons (so_tup (so_acons (so_op s2_pIxT so_var so_cint) (so_acons (so_op s2_pAdd (so_op s2_pIxT so_var so_cint) so_cint) so_anil))) so_anil))))) (so_dat (so_sl so_var (so_some (so_op s2_pAdd so_var so_cint)) so_none)))))) ss_next)
    (ss_seq (ss_if (fun W => (so_test (so_op s2_pEq so_var so_cint))) (ss_ret (fun W => (so_cel (so_fop s2_pCat (so_dat (so_fop s2_pCat (so_dat (so_sl so_var so_none (so_some so_var))) (so_dat (so_lst (so_acons (so_tup (so_acons (so_op s2_pSub (so_op s2_pIxT so_var so_cint) so_cint) (so_acons (so_op s2_pIxT so_var so_cint) so_anil))) (so_acons so_var so_anil)))))) (so_dat (so_sl so_var (so_some (so_op s2_pAdd so_var so_cint)) so_none)))))) ss_next)
    (ss_ret (fun W => (so_cel (so_lc (vs := [5]) (so_wRng1 (so_acons (so_op s2_pAdd so_cint (so_pla (so_call0 (so_acons so_var (so_acons so_cint so_anil))))) so_anil)) (sgw_name (by decide)) so_yes (so_tup (so_acons (so_op s2_pMul so_cint so_var) (so_acons (so_op s2_pAdd (so_op s2_pMul so_cint so_var) so_cint) so_anil))))))))))))))))
def t_law (K : PySem.W.Frag) (W : WX) : TS :=
  (tSeq (tFor (iRng1 (tCons (tC (.int 4)) tNil)) (gName 1)
    ((tSeq (tAsg (tCall (spF K f_law_purse) [] E0 (tCons (tVar 0) (tCons (tVar 1) tNil))) (gName 2))
    (tSeq (tAsg (tCall (spF K f_law_span) [] E0 (tCons (tVar 2) (tCons (tLst tNil) (tCons (tOp oSub (tOp oPow (tC (.int 10)) (tC (.int 12))) (tC (.int 1))) tNil)))) (gName 3))
    (tSeq (tAsg (tCall (spF K f_law_span_text) [] E0 (tCons (tVar 3) tNil)) (gName 4))
    (tSeq (tIfS (tOr (tTest (tOp (rNeD K) (tCall (spF K f_law_shown) [] E0 (tCons (tVar 3) (tCons (tC (.bl false)) tNil))) (tVar 4))) (tNot (tB (tCall (spF K f_law_fine) [] E0 (tCons (tCall (spF K f_read_span) [] E0 (tCons (tVar 4) tNil)) (tCons (tVar 3) tNil)))))) (tRet (tC (.bl false))) tNext)
    (tSeq (tFor (iList K (tLst (tCons (tRevT K (tVar 3)) (tCons (tTup (tCons (tOp (rIxT K) (tVar 3) (tC (.int 0))) (tCons (tOp (rIxT K) (tVar 3) (tC (.int 0))) tNil))) (tCons (tTup (tCons (tOp (rIxT K) (tVar 3) (tC (.int 0))) (tCons (tOp oPow (tC (.int 10)) (tC (.int 12))) tNil))) (tCons (tTup (tCons (tUn oNeg (tOp oPow (tC (.int 10)) (tC (.int 12)))) (tCons (tOp (rIxT K) (tVar 3) (tC (.int 1))) tNil))) tNil)))))) (gName 5)
    ((tIfS (tTest (tOp (rNeD K) (tCall (spF K f_law_shown) [] E0 (tCons (tVar 5) (tCons (tC (.bl false)) tNil))) (tLst (tCons (tC (.str "span")) tNil)))) (tRet (tC (.bl false))) tNext)))
    (tSeq (tAsg (tCall (spF K f_law_draw) [] E0 (tCons (tVar 2) (tCons (tC (.int 13)) tNil))) (gName 6))
    (tSeq (tIfS (tTest (tOp rEq (tCall (spF K f_law_draw) [] E0 (tCons (tVar 2) (tCons (tC (.int 8)) tNil))) (tC (.int 7)))) (tAsg (tC (.int 200)) (gName 6)) tNext)
    (tSeq (tAsg (tCall (spF K f_law_cover_4) [] E0 (tCons (tVar 2) (tCons (tVar 6) tNil))) (gName 7))
    (tSeq (tFor (iList K (tOp rCat (tLst (tCons (tVar 7) tNil)) (tLc (iRng1 (tCons (tC (.int 4)) tNil)) (gName 8) tYes (tCall (spF K f_law_bent_5) [] E0 (tCons (tVar 2) (tCons (tVar 7) tNil))) [8]))) (gName 9)
    ((tSeq (tAsg (tCB (Evl.rListS K) (tCons (tVar 9) tNil)) (gName 10))
    (tIfS (tOr (tTest (tOp (rNeD K) (tCall (spF K f_law_shown) [] E0 (tCons (tVar 10) (tCons (tC (.bl true)) tNil))) (tCall (spF K f_law_due_7) [] E0 (tCons (tVar 9) tNil)))) (tTest (tOp (rNeD K) (tVar 10) (tVar 9)))) (tRet (tC (.bl false))) tNext))))
    (tSeq (tAsg (tCall (spF K f_law_due_7) [] E0 (tCons (tVar 7) tNil)) (gName 4))
    (tFor (iRng1 (tCons (tC (.int 2)) tNil)) (gName 8)
    ((tSeq (tAsg (tCall (spF K f_read_cover) [] E0 (tCons (tVar 4) tNil)) (gName 11))
    (tSeq (tIfS (tOr (tNot (tB (tCB (rIsi K) (tCons (tVar 11) (tCons (tC (.ty "list")) tNil))))) (tTest (tOp (rNeD K) (tVar 11) (tVar 7)))) (tRet (tC (.bl false))) tNext)
    (tSeq (tIfS (tTest (tOp oGt (tCB (Evl.rLenS K) (tCons (tLc (iList K (tVar 11)) (gName 12) (tNot (tB (tCall (spF K f_law_fine) [] E0 (tCons (tVar 12) (tCons (tVar 12) tNil))))) (tVar 12) [12]) tNil)) (tC (.int 0)))) (tRet (tC (.bl false))) tNext)
    (tDrop (tBM K "list" rAppend (tVar 11) (tCons (tTup (tCons (tC (.int 0)) (tCons (tC (.int 1)) tNil))) tNil))))))))))))))))))))
    (tRet (tC (.bl true))))
theorem so_law {K : PySem.W.Frag} (xs : Xs K xnames) : SS K (t_law K) e_law_k75 :=
  (ss_seq (ss_for (fun W => (so_wRng1 (so_acons so_cint so_anil))) sg_name
    (ss_seq (ss_set (fun W => (so_cel (so_call0 (so_acons so_var (so_acons so_var so_anil))))))
    (ss_seq (ss_set (fun W => (so_pla (so_call0 (so_acons so_var (so_acons (so_cel (so_lst so_anil)) (so_acons (so_op s2_pSub (so_op s2_pPow so_cint so_cint) so_cint) so_anil)))))))
    (ss_seq (ss_set (fun W => (so_pla (so_call0 (so_acons so_var so_anil)))))
    (ss_seq (ss_if (fun W => (so_mOr (so_test (so_op s2_pNeD (so_dat (so_call0 (so_acons so_var (so_acons so_cbl so_anil)))) so_var)) (so_mNot (so_B (so_pla (so_call0 (so_acons (so_pla (so_call0 (so_acons so_var so_anil))) (so_acons so_var so_anil)))))))) (ss_ret (fun W => so_cbl)) ss_next)
    (ss_seq (ss_for (fun W => (so_wList (so_dat (so_lst (so_acons (so_revT so_var) (so_acons (so_tup (so_acons (so_op s2_pIxT so_var so_cint) (so_acons (so_op s2_pIxT so_var so_cint) so_anil))) (so_acons (so_tup (so_acons (so_op s2_pIxT so_var so_cint) (so_acons (so_op s2_pPow so_cint so_cint) so_anil))) (so_acons (so_tup (so_acons (so_un s1_pNeg (so_op s2_pPow so_cint so_cint)) (so_acons (so_op s2_pIxT so_var so_cint) so_anil))) so_anil)))))))) sg_name
    (ss_if (fun W => (so_test (so_op s2_pNeD (so_dat (so_call0 (so_acons so_var (so_acons so_cbl so_anil)))) (so_dat (so_lst (so_acons so_cstr so_anil)))))) (ss_ret (fun W => so_cbl)) ss_next))
    (ss_seq (ss_set (fun W => (so_pla (so_call0 (so_acons so_var (so_acons so_cint so_anil))))))
    (ss_seq (ss_if (fun W => (so_test (so_op s2_pEq (so_pla (so_call0 (so_acons so_var (so_acons so_cint so_anil)))) so_cint))) (ss_set (fun W => so_cint)) ss_next)
    (ss_seq (ss_set (fun W => (so_dat (so_call0 (so_acons so_var (so_acons so_var so_anil))))))
    (ss_seq (ss_for (fun W => (so_wList (so_dat (so_fop s2_pCat (so_dat (so_lst (so_acons so_var so_anil))) (so_dat (so_lc (vs := [8]) (so_wRng1 (so_acons so_cint so_anil)) (sgw_name (by decide)) so_yes (so_dat (so_call0 (so_acons so_var (so_acons so_var so_anil)))))))))) sg_name
    (ss_seq (ss_set (fun W => (so_dat (so_fCB sc_pList (so_acons so_var so_anil)))))
    (ss_if (fun W => (so_mOr (so_test (so_op s2_pNeD (so_dat (so_call0 (so_acons so_var (so_acons so_cbl so_anil)))) (so_dat (so_call0 (so_acons so_var so_anil))))) (so_test (so_op s2_pNeD so_var so_var)))) (ss_ret (fun W => so_cbl)) ss_next)))
    (ss_seq (ss_set (fun W => (so_dat (so_call0 (so_acons so_var so_anil)))))
    (ss_for (fun W => (so_wRng1 (so_acons so_cint so_anil))) sg_name
    (ss_seq (ss_set (fun W => (so_cel (so_call0 (so_acons so_var so_anil)))))
    (ss_seq (ss_if (fun W => (so_mOr (so_mNot (so_B (so_isT ka_list so_var))) (so_test (so_op s2_pNeD so_var so_var)))) (ss_ret (fun W => so_cbl)) ss_next)
    (ss_seq (ss_if (fun W => (so_test (so_op s2_pGt (so_eCB sc_pLen (so_acons (so_dat (so_lc (vs := [12]) (so_wList so_var) (sgw_name (by decide)) (so_mNot (so_B (so_pla (so_call0 (so_acons so_var (so_acons so_var so_anil)))))) so_var)) so_anil)) so_cint))) (ss_ret (fun W => so_cbl)) ss_next)
    (ss_expr (fun W => (so_bm sm_pAppend so_var (so_acons (so_tup (so_acons so_cint (so_acons so_cint so_anil))) so_anil)))))))))))))))))))
    (ss_ret (fun W => so_cbl)))
section
variable {P : Program} {w : World} {K : PySem.W.Frag} {mg : Str → Option Value} {base : Heap}
theorem ok_law_at (T : Txt K mg) {f : Addr} {fd : FuncData} (F : FnP K "_law_at" s_law_at f fd) : FnOk P w K mg base (L2.CX P w) 1 f fd ["_law_script", "_law_k"] (spF K f_law_at) :=
  fn_okG (b := e_law_at) F sc_law_at (t_law_at K) (fun cdv A outer s H E hr =>
    (pss_cons (ps_if (pt_cmpR op_lt (pv 1) (pe_callB call_len_seq (by rfl) T.n_len bt_len (pa_cons (pv 0) pa_nil)) (nomark _)) (pss_one (ps_ret (pe_ix ix_list (pv 0) (pv 1) (fun _ _ => rfl)))) pss_nil) (pss_one (ps_ret pe_int)))) (so_law_at T.xs) rfl rfl rfl
theorem ok_law_purse (T : Txt K mg) (C_law_at : CalF P w K mg base "_law_at" 1 ["_law_script", "_law_k"] f_law_at) {f : Addr} {fd : FuncData} (F : FnP K "_law_purse" s_law_purse f fd) : FnOk P w K mg base (L2.CX P w) 2 f fd ["_law_script", "_law_at_here"] (spF K f_law_purse) :=
  fn_okG (b := e_law_purse) F sc_law_purse (t_law_purse K) (fun cdv A outer s H E hr =>
    (pss_cons (ps_set (i := 2) sc_law_purse.nd rfl (Or.inl rfl) (pc_own C_law_at (hr.mono (by decide)) (by rfl) (pa_cons (pv 0) (pa_cons (pv 1) pa_nil)))) (pss_one (ps_ret (pe_lst (pa_cons (pe_callB (call_max2 rfl) (by rfl) T.n_max bt_max (pa_cons (pe_op op_sub (pv 2) (pe_op op_pow pe_int pe_int)) (pa_cons pe_int pa_nil))) (pa_cons (pe_op op_mod (pv 2) pe_int) (pa_cons (pe_op op_mul pe_int (pv 1)) pa_nil)))))))) (so_law_purse T.xs) rfl rfl rfl
theorem ok_law_mixed (T : Txt K mg) {f : Addr} {fd : FuncData} (F : FnP K "_law_mixed" s_law_mixed f fd) : FnOk P w K mg base (L2.CX P w) 1 f fd ["_law_cell", "_law_k"] (spF K f_law_mixed) :=
  fn_okG (b := e_law_mixed) F sc_law_mixed (t_law_mixed K) (fun cdv A outer s H E hr =>
    (pss_cons (ps_set (i := 2) sc_law_mixed.nd rfl (Or.inl rfl) (pe_op op_mod (pe_op op_add (pe_op op_add (pe_op op_add (pe_op op_mul (pv 0) pe_int) (pe_op op_mul (pe_op op_mul pe_int (pv 1)) (pv 1))) (pv 1)) pe_int) pe_int)) (pss_cons (ps_set (i := 2) sc_law_mixed.nd rfl (Or.inl rfl) (pe_op op_mod (pe_op op_add (pe_op op_mul (pv 2) (pv 2)) pe_int) pe_int)) (pss_one (ps_ret (pe_op op_mod (pe_op op_mul (pv 2) pe_int) pe_int)))))) (so_law_mixed T.xs) rfl rfl rfl
theorem ok_law_draw (T : Txt K mg) (C_law_mixed : CalF P w K mg base "_law_mixed" 1 ["_law_cell", "_law_k"] f_law_mixed) {f : Addr} {fd : FuncData} (F : FnP K "_law_draw" s_law_draw f fd) : FnOk P w K mg base (L2.CX P w) 2 f fd ["_law_purse_here", "_law_out_of"] (spF K f_law_draw) :=
  fn_okG (b := e_law_draw) F sc_law_draw (t_law_draw K) (fun cdv A outer s H E hr =>
    (pss_cons (ps_if (pt_cmpR op_gt (pe_ix ix_list (pv 0) pe_int (fun _ _ => rfl)) pe_int (nomark _)) (pss_cons (ps_set (i := 2) sc_law_draw.nd rfl (Or.inl rfl) (pe_op op_mod (pe_ix ix_list (pv 0) pe_int (fun _ _ => rfl)) (pv 1))) (pss_cons (ps_asg (pe_op op_fdivW (pe_ix ix_list (pv 0) pe_int (fun _ _ => rfl)) (pv 1)) (pg_sub (pv 0) pe_int set_list)) (pss_one (ps_ret (pv 2))))) pss_nil) (pss_cons (ps_set (i := 3) sc_law_draw.nd rfl (Or.inl rfl) pe_int) (pss_cons (ps_for (passes_of rfl) rfl (pi_range1 (by rfl) T.n_range (pa_cons (pe_op op_add pe_int (pe_op op_fdivW (pe_bits (pv 1)) pe_int)) pa_nil)) (pg_name (i := 4) sc_law_draw.nd rfl (Or.inl rfl)) (pss_cons (ps_asg (pe_op op_add (pe_ix ix_list (pv 0) pe_int (fun _ _ => rfl)) pe_int) (pg_sub (pv 0) pe_int set_list)) (pss_one (ps_set (i := 3) sc_law_draw.nd rfl (Or.inl rfl) (pe_op op_add (pe_op op_mul (pv 3) pe_int) (pc_own C_law_mixed (hr.mono (by decide)) (by rfl) (pa_cons (pe_ix ix_list (pv 0) pe_int (fun _ _ => rfl)) (pa_cons (pe_ix ix_list (pv 0) pe_int (fun _ _ => rfl)) pa_nil)))))))) (pss_one (ps_ret (pe_op op_mod (pv 3) (pv 1)))))))) (so_law_draw T.xs) rfl rfl rfl
theorem ok_law_number (T : Txt K mg) (C_law_draw : CalF P w K mg base "_law_draw" 2 ["_law_purse_here", "_law_out_of"] f_law_draw) {f : Addr} {fd : FuncData} (F : FnP K "_law_number" s_law_number f fd) : FnOk P w K mg base (L2.CX P w) 3 f fd ["_law_purse_here", "_law_most"] (spF K f_law_number) :=
  fn_okG (b := e_law_number) F sc_law_number (t_law_number K) (fun cdv A outer s H E hr =>
    (pss_cons (ps_set (i := 2) sc_law_number.nd rfl (Or.inl rfl) (pe_ix ix_list (pe_lst (pa_cons pe_int (pa_cons pe_int (pa_cons pe_int (pa_cons (pv 1) pa_nil))))) (pc_own C_law_draw (hr.mono (by decide)) (by rfl) (pa_cons (pv 0) (pa_cons pe_int pa_nil))) (fun _ _ => rfl))) (pss_one (ps_ret (pe_op op_sub (pc_own C_law_draw (hr.mono (by decide)) (by rfl) (pa_cons (pv 0) (pa_cons (pe_op op_add (pe_op op_mul pe_int (pv 2)) pe_int) pa_nil))) (pv 2)))))) (so_law_number T.xs) rfl rfl rfl
theorem ok_law_end (T : Txt K mg) (C_law_draw : CalF P w K mg base "_law_draw" 2 ["_law_purse_here", "_law_out_of"] f_law_draw) (C_law_number : CalF P w K mg base "_law_number" 3 ["_law_purse_here", "_law_most"] f_law_number) {f : Addr} {fd : FuncData} (F : FnP K "_law_end" s_law_end f fd) : FnOk P w K mg base (L2.CX P w) 4 f fd ["_law_purse_here", "_law_ends", "_law_most"] (spF K f_law_end) :=
  fn_okG (b := e_law_end) F sc_law_end (t_law_end K) (fun cdv A outer s H E hr =>
    (pss_cons (ps_if (PW.pt (pw_and (pt_cmpR (op_neD hr.units) (pv 1) (pe_lst pa_nil) (nomark _)) (pw_and1 (pt_cmpR op_gt (pc_own C_law_draw (hr.mono (by decide)) (by rfl) (pa_cons (pv 0) (pa_cons pe_int pa_nil))) pe_int (nomark _))))) (pss_cons (ps_set (i := 3) sc_law_end.nd rfl (Or.inl rfl) (pe_op op_sub (pe_op op_add (pe_ix ix_list (pv 1) (pc_own C_law_draw (hr.mono (by decide)) (by rfl) (pa_cons (pv 0) (pa_cons (pe_callB call_len_seq (by rfl) T.n_len bt_len (pa_cons (pv 1) pa_nil)) pa_nil))) (fun _ _ => rfl)) (pc_own C_law_draw (hr.mono (by decide)) (by rfl) (pa_cons (pv 0) (pa_cons pe_int pa_nil)))) pe_int)) (pss_one (ps_ret (pe_callB (call_max2 rfl) (by rfl) T.n_max bt_max (pa_cons (pe_op op_sub pe_int (pv 2)) (pa_cons (pe_callB (call_min2 rfl) (by rfl) T.n_min bt_min (pa_cons (pv 2) (pa_cons (pv 3) pa_nil))) pa_nil)))))) pss_nil) (pss_one (ps_ret (pc_own C_law_number (hr.mono (by decide)) (by rfl) (pa_cons (pv 0) (pa_cons (pv 2) pa_nil))))))) (so_law_end T.xs) rfl rfl rfl
theorem ok_law_span (T : Txt K mg) (C_law_end : CalF P w K mg base "_law_end" 4 ["_law_purse_here", "_law_ends", "_law_most"] f_law_end) {f : Addr} {fd : FuncData} (F : FnP K "_law_span" s_law_span f fd) : FnOk P w K mg base (L2.CX P w) 5 f fd ["_law_purse_here", "_law_ends", "_law_most"] (spF K f_law_span) :=
  fn_okG (b := e_law_span) F sc_law_span (t_law_span K) (fun cdv A outer s H E hr =>
    (pss_cons (ps_set (i := 3) sc_law_span.nd rfl (Or.inl rfl) (pc_own C_law_end (hr.mono (by decide)) (by rfl) (pa_cons (pv 0) (pa_cons (pv 1) (pa_cons (pv 2) pa_nil))))) (pss_cons (ps_set (i := 4) sc_law_span.nd rfl (Or.inl rfl) (pc_own C_law_end (hr.mono (by decide)) (by rfl) (pa_cons (pv 0) (pa_cons (pe_op op_cat (pv 1) (pe_lst (pa_cons (pv 3) pa_nil))) (pa_cons (pv 2) pa_nil))))) (pss_cons (ps_set (i := 5) sc_law_span.nd rfl (Or.inl rfl) (pe_callB (call_min3Nu rfl) (by rfl) T.n_min bt_min (pa_cons (pv 3) (pa_cons (pv 4) (pa_cons (pe_op op_sub (pv 2) pe_int) pa_nil))))) (pss_cons (ps_set (i := 6) sc_law_span.nd rfl (Or.inl rfl) (pe_callB (call_max3Nu rfl) (by rfl) T.n_max bt_max (pa_cons (pv 3) (pa_cons (pv 4) (pa_cons (pe_op op_add (pv 5) pe_int) pa_nil))))) (pss_cons (ps_expr (pe_bm PySem.F.plainAttrs_list PySem.F.slot_list_append PySem.F.type_list_append mt_append (pv 1) (pa_cons (pv 5) pa_nil))) (pss_cons (ps_expr (pe_bm PySem.F.plainAttrs_list PySem.F.slot_list_append PySem.F.type_list_append mt_append (pv 1) (pa_cons (pv 6) pa_nil))) (pss_one (ps_ret (pe_tup (pa_cons (pv 5) (pa_cons (pv 6) pa_nil)))))))))))) (so_law_span T.xs) rfl rfl rfl
theorem ok_law_span_text (T : Txt K mg) {f : Addr} {fd : FuncData} (F : FnP K "_law_span_text" s_law_span_text f fd) : FnOk P w K mg base (L2.CX P w) 1 f fd ["_law_span_here"] (spF K f_law_span_text) :=
  fn_okG (b := e_law_span_text) F sc_law_span_text (t_law_span_text K) (fun cdv A outer s H E hr =>
    (pss_one (ps_ret (pe_op op_add_str (pe_op op_add_str (pe_callTy call_str_int (by rfl) T.n_str bt_str (pa_cons (pe_ix ix_tup (pv 0) pe_int (fun _ _ => rfl)) pa_nil)) pe_str) (pe_callTy call_str_int (by rfl) T.n_str bt_str (pa_cons (pe_ix ix_tup (pv 0) pe_int (fun _ _ => rfl)) pa_nil)))))) (so_law_span_text T.xs) rfl rfl rfl
theorem ok_law_cover (T : Txt K mg) (C_law_end : CalF P w K mg base "_law_end" 4 ["_law_purse_here", "_law_ends", "_law_most"] f_law_end) {f : Addr} {fd : FuncData} (F : FnP K "_law_cover" s_law_cover f fd) : FnOk P w K mg base (L2.CX P w) 5 f fd ["_law_purse_here", "_law_many"] (spF K f_law_cover_4) :=
  fn_okG (b := e_law_cover_4) F sc_law_cover (t_law_cover K) (fun cdv A outer s H E hr =>
    (pss_cons (ps_set (i := 2) sc_law_cover.nd rfl (Or.inr rfl) (pe_lst pa_nil)) (pss_cons (ps_for (passes_of rfl) rfl (pi_range1 (by rfl) T.n_range (pa_cons (pe_op op_mul pe_int (pv 1)) pa_nil)) (pg_name (i := 3) sc_law_cover.nd rfl (Or.inl rfl)) (pss_one (ps_expr (pe_bm PySem.F.plainAttrs_list PySem.F.slot_list_append PySem.F.type_list_append mt_append (pv 2) (pa_cons (pc_own C_law_end (hr.mono (by decide)) (by rfl) (pa_cons (pv 0) (pa_cons (pv 2) (pa_cons (pe_op op_sub (pe_op op_pow pe_int pe_int) pe_int) pa_nil)))) pa_nil))))) (pss_cons (ps_set (i := 2) sc_law_cover.nd rfl (Or.inr rfl) (pe_sortSet (by rfl) T.n_sorted (by rfl) T.n_set (pv 2))) (pss_one (ps_ret (pe_lc (own := [("_law_k", 3)]) (g := (gName 3)) (tt := tYes) rfl sc_law_cover.nd (pi_range1 (by rfl) T.n_range (pa_cons (pe_op op_fdivW (pe_callB call_len_seq (by rfl) T.n_len bt_len (pa_cons (pv 2) pa_nil)) pe_int) pa_nil)) (blkOk_by (own := [("_law_k", 3)]) (N := N_law_cover) (sc := defScope s_law_cover) (by decide +kernel)) (fun _ _ _ _ _ => (pg_name (i := 3) sc_law_cover.nd rfl (Or.inl rfl))) (fun _ _ _ _ _ => pts_nil) (fun _ _ _ _ _ => (pe_tup (pa_cons (pe_ix ix_list (pv 2) (pe_op op_mul pe_int (pv 3)) (fun _ _ => rfl)) (pa_cons (pe_ix ix_list (pv 2) (pe_op op_add (pe_op op_mul pe_int (pv 3)) pe_int) (fun _ _ => rfl)) pa_nil))))))))))) (so_law_cover T.xs) rfl rfl rfl
theorem ok_law_is_span (T : Txt K mg) {f : Addr} {fd : FuncData} (F : FnP K "_law_is_span" s_law_is_span f fd) : FnOk P w K mg base (L2.CX P w) 1 f fd ["_law_span_here"] (spF K f_law_is_span) :=
  fn_okG (b := e_law_is_span) F sc_law_is_span (t_law_is_span K) (fun cdv A outer s H E hr =>
    (pss_one (ps_ret (pe_and (pe_cmpR op_lt (pe_ix ix_tup (pv 0) pe_int (fun _ _ => rfl)) (pe_ix ix_tup (pv 0) pe_int (fun _ _ => rfl)) (nomark _)) (pe_one (pe_cmpR op_lt (pe_callB (call_max2 rfl) (by rfl) T.n_max bt_max (pa_cons (pe_callB call_abs (by rfl) T.n_abs bt_abs (pa_cons (pe_ix ix_tup (pv 0) pe_int (fun _ _ => rfl)) pa_nil)) (pa_cons (pe_callB call_abs (by rfl) T.n_abs bt_abs (pa_cons (pe_ix ix_tup (pv 0) pe_int (fun _ _ => rfl)) pa_nil)) pa_nil))) (pe_op op_pow pe_int pe_int) (nomark _))))))) (so_law_is_span T.xs) rfl rfl rfl
theorem ok_law_due (T : Txt K mg) (C_law_is_span : CalF P w K mg base "_law_is_span" 1 ["_law_span_here"] f_law_is_span) (C_law_span_text : CalF P w K mg base "_law_span_text" 1 ["_law_span_here"] f_law_span_text) {f : Addr} {fd : FuncData} (F : FnP K "_law_due" s_law_due f fd) : FnOk P w K mg base (L2.CX P w) 2 f fd ["_law_cover_here"] (spF K f_law_due_7) :=
  fn_okG (b := e_law_due_7) F sc_law_due (t_law_due K) (fun cdv A outer s H E hr =>
    (pss_cons (ps_if (pt_cmpR op_gt (pe_callB call_len_seq (by rfl) T.n_len bt_len (pa_cons (pe_lc (own := [("_law_span_here", 1)]) (g := (gName 1)) (tt := (tNot (tB (tCall (spF K f_law_is_span) [] E0 (tCons (tVar 1) tNil))))) rfl sc_law_due.nd (pi_list (pv 0)) (blkOk_by (own := [("_law_span_here", 1)]) (N := N_law_due) (sc := defScope s_law_due) (by decide +kernel)) (fun _ _ _ _ _ => (pg_name (i := 1) sc_law_due.nd rfl (Or.inl rfl))) (fun _ _ _ _ _ => (pts_one (pt_not (pt_val (pc_own C_law_is_span (hr.mono (by decide)) (by rfl) (pa_cons (pv 1) pa_nil)))))) (fun _ _ _ _ _ => (pv 1))) pa_nil)) pe_int (nomark _)) (pss_one (ps_ret (pe_lst (pa_cons pe_str pa_nil)))) pss_nil) (pss_cons (ps_setLc (i := 4) (own := [("_law_one", 2), ("_law_other", 3)]) rfl sc_law_due.nd rfl rfl (sw_true rfl rfl rfl (by decide +kernel)) (pi_zip (by rfl) T.n_zip (pa_cons (pv 0) (pa_cons (pe_slice sl_list (pv 0) (po_some pe_int) po_none) pa_nil))) (blkOk_by (own := [("_law_one", 2), ("_law_other", 3)]) (N := N_law_due) (sc := defScope s_law_due) (by decide +kernel)) (fun _ _ _ _ _ => (pg_tup (by rfl) (pgs_cons (pg_name (i := 2) sc_law_due.nd rfl (Or.inl rfl)) (pgs_cons (pg_name (i := 3) sc_law_due.nd rfl (Or.inl rfl)) pgs_nil)))) (fun _ _ _ _ _ => (pts_one (pt_cmpR op_ge (pe_ix ix_tup (pv 2) pe_int (fun _ _ => rfl)) (pe_ix ix_tup (pv 3) pe_int (fun _ _ => rfl)) (nomark _)))) (fun _ _ _ _ _ => (pv 2))) (pss_cons (ps_if (PW.pt (pw_or (pt_cmpR op_gt (pe_callB call_len_seq (by rfl) T.n_len bt_len (pa_cons (pv 0) pa_nil)) pe_int (nomark _)) (pw_or1 (pt_cmpR (op_neD hr.units) (pv 4) (pe_lst pa_nil) (nomark _))))) (pss_one (ps_ret (pe_lst (pa_cons pe_str pa_nil)))) pss_nil) (pss_one (ps_ret (pe_join pe_str (pe_lc (own := [("_law_span_here", 1)]) (g := (gName 1)) (tt := tYes) rfl sc_law_due.nd (pi_list (pv 0)) (blkOk_by (own := [("_law_span_here", 1)]) (N := N_law_due) (sc := defScope s_law_due) (by decide +kernel)) (fun _ _ _ _ _ => (pg_name (i := 1) sc_law_due.nd rfl (Or.inl rfl))) (fun _ _ _ _ _ => pts_nil) (fun _ _ _ _ _ => (pc_own C_law_span_text (hr.mono (by decide)) (by rfl) (pa_cons (pv 1) pa_nil))))))))))) (so_law_due T.xs) rfl rfl rfl
theorem ok_must (T : Txt K mg) {f : Addr} {fd : FuncData} (F : FnP K "must" s_must f fd) : FnOk P w K mg base (L2.CX P w) 1 f fd ["fine"] (spF K f_must) :=
  fn_okG (b := e_must) F sc_must (t_must K) (fun cdv A outer s H E hr =>
    (pss_one (ps_if (pt_not (pt_val (pv 0))) (pss_one (ps_raiseK T.x_NoText T.g_NoText rfl (takes_of rfl rfl rfl rfl) (by rfl))) pss_nil))) (so_must T.xs) rfl rfl rfl
theorem ok_is_number (T : Txt K mg) {f : Addr} {fd : FuncData} (F : FnP K "is_number" s_is_number f fd) : FnOk P w K mg base (L2.CX P w) 1 f fd ["text"] (spF K f_is_number) :=
  fn_okG (b := e_is_number) F sc_is_number (t_is_number K) (fun cdv A outer s H E hr =>
    (pss_cons (ps_set (i := 1) sc_is_number.nd rfl (Or.inl rfl) (pe_slice sl_str (pv 0) (po_some (pe_callTy call_int1 (by rfl) T.n_int bt_int (pa_cons (pe_cmpR op_eq (pe_slice sl_str (pv 0) po_none (po_some pe_int)) pe_str (nomark _)) pa_nil))) po_none)) (pss_cons (ps_if (PW.pt (pw_or (pt_not (pt_chain op_le op_le pe_int (pe_callB call_len_str (by rfl) T.n_len bt_len (pa_cons (pv 1) pa_nil)) (pe_const T.c_MOST_FIGURES (by rfl)))) (pw_or1 (pt_not (pt_val (pe_callB (cr_all rfl) (by rfl) T.n_all bt_all (pa_cons (pe_lc (own := [("sign", 2)]) (g := (gName 2)) (tt := tYes) rfl sc_is_number.nd (pi_str (pv 1)) (blkOk_by (own := [("sign", 2)]) (N := N_is_number) (sc := defScope s_is_number) (by decide +kernel)) (fun _ _ _ _ _ => (pg_name (i := 2) sc_is_number.nd rfl (Or.inl rfl))) (fun _ _ _ _ _ => pts_nil) (fun _ _ _ _ _ => (pe_cmpR op_in_sign (pv 2) (pe_constS T.c_FIGURES (by rfl)) (by rfl)))) pa_nil))))))) (pss_one (ps_ret pe_bl)) pss_nil) (pss_one (ps_ret (pe_or (pe_cmpR op_ne (pe_ix ix_str (pv 1) pe_int (fun _ _ => rfl)) pe_str (nomark _)) (pe_one (pe_cmpR op_eq (pv 0) pe_str (nomark _))))))))) (so_is_number T.xs) rfl rfl rfl
theorem ok_read_number (T : Txt K mg) (C_must : CalF P w K mg base "must" 1 ["fine"] f_must) (C_is_number : CalF P w K mg base "is_number" 1 ["text"] f_is_number) {f : Addr} {fd : FuncData} (F : FnP K "read_number" s_read_number f fd) : FnOk P w K mg base (L2.CX P w) 2 f fd ["text"] (spF K f_read_number) :=
  fn_okG (b := e_read_number) F sc_read_number (t_read_number K) (fun cdv A outer s H E hr =>
    (pss_cons (ps_expr (pc_ownS C_must (takes_of rfl rfl rfl rfl) (hr.mono (by decide)) (by rfl) (pa_cons (pc_own C_is_number (hr.mono (by decide)) (by rfl) (pa_cons (pv 0) pa_nil)) pa_nil))) (pss_one (ps_ret (pe_callTy call_int_str (by rfl) T.n_int bt_int (pa_cons (pv 0) pa_nil)))))) (so_read_number T.xs) rfl rfl rfl
theorem ok_is_place (T : Txt K mg) {f : Addr} {fd : FuncData} (F : FnP K "is_place" s_is_place f fd) : FnOk P w K mg base (L2.CX P w) 1 f fd ["number"] (spF K f_is_place) :=
  fn_okG (b := e_is_place) F sc_is_place (t_is_place K) (fun cdv A outer s H E hr =>
    (pss_one (ps_ret (pe_chain op_lt op_lt (pe_op op_sub pe_int (pe_const T.c_BEYOND (by rfl))) (pv 0) (pe_const T.c_BEYOND (by rfl)))))) (so_is_place T.xs) rfl rfl rfl
theorem ok_is_span (T : Txt K mg) (C_is_place : CalF P w K mg base "is_place" 1 ["number"] f_is_place) {f : Addr} {fd : FuncData} (F : FnP K "is_span" s_is_span f fd) : FnOk P w K mg base (L2.CX P w) 2 f fd ["span"] (spF K f_is_span) :=
  fn_okG (b := e_is_span) F sc_is_span (t_is_span K) (fun cdv A outer s H E hr =>
    (pss_one (ps_ret (pe_and (pc_own C_is_place (hr.mono (by decide)) (by rfl) (pa_cons (pe_ix ix_tup (pv 0) pe_int (fun _ _ => rfl)) pa_nil)) (pe_and (pc_own C_is_place (hr.mono (by decide)) (by rfl) (pa_cons (pe_ix ix_tup (pv 0) pe_int (fun _ _ => rfl)) pa_nil)) (pe_one (pe_cmpR op_lt (pe_ix ix_tup (pv 0) pe_int (fun _ _ => rfl)) (pe_ix ix_tup (pv 0) pe_int (fun _ _ => rfl)) (nomark _)))))))) (so_is_span T.xs) rfl rfl rfl
theorem ok_read_span (T : Txt K mg) (C_read_number : CalF P w K mg base "read_number" 2 ["text"] f_read_number) (C_must : CalF P w K mg base "must" 1 ["fine"] f_must) (C_is_span : CalF P w K mg base "is_span" 2 ["span"] f_is_span) {f : Addr} {fd : FuncData} (F : FnP K "read_span" s_read_span f fd) : FnOk P w K mg base (L2.CX P w) 3 f fd ["text"] (spF K f_read_span) :=
  fn_okG (b := e_read_span) F sc_read_span (t_read_span K) (fun cdv A outer s H E hr =>
    (pss_cons (ps_asg (pe_partition (pv 0) pe_str) (pg_tup (by rfl) (pgs_cons (pg_name (i := 1) sc_read_span.nd rfl (Or.inl rfl)) (pgs_cons (pg_name (i := 2) sc_read_span.nd rfl (Or.inl rfl)) (pgs_cons (pg_name (i := 3) sc_read_span.nd rfl (Or.inl rfl)) pgs_nil))))) (pss_cons (ps_set (i := 4) sc_read_span.nd rfl (Or.inl rfl) (pe_tup (pa_cons (pc_ownS C_read_number (takes_of rfl rfl rfl rfl) (hr.mono (by decide)) (by rfl) (pa_cons (pv 1) pa_nil)) (pa_cons (pc_ownS C_read_number (takes_of rfl rfl rfl rfl) (hr.mono (by decide)) (by rfl) (pa_cons (pv 3) pa_nil)) pa_nil)))) (pss_cons (ps_expr (pc_ownS C_must (takes_of rfl rfl rfl rfl) (hr.mono (by decide)) (by rfl) (pa_cons (pc_own C_is_span (hr.mono (by decide)) (by rfl) (pa_cons (pv 4) pa_nil)) pa_nil))) (pss_one (ps_ret (pv 4))))))) (so_read_span T.xs) rfl rfl rfl
theorem ok_must_span (T : Txt K mg) (C_is_span : CalF P w K mg base "is_span" 2 ["span"] f_is_span) {f : Addr} {fd : FuncData} (F : FnP K "must_span" s_must_span f fd) : FnOk P w K mg base (L2.CX P w) 3 f fd ["span"] (spF K f_must_span) :=
  fn_okG (b := e_must_span) F sc_must_span (t_must_span K) (fun cdv A outer s H E hr =>
    (pss_one (ps_if (pt_not (pt_val (pc_own C_is_span (hr.mono (by decide)) (by rfl) (pa_cons (pv 0) pa_nil)))) (pss_one (ps_raiseK T.x_NoSpan T.g_NoSpan rfl (takes_of rfl rfl rfl rfl) (by rfl))) pss_nil))) (so_must_span T.xs) rfl rfl rfl
theorem ok_must_spans (T : Txt K mg) (C_must_span : CalF P w K mg base "must_span" 3 ["span"] f_must_span) {f : Addr} {fd : FuncData} (F : FnP K "must_spans" s_must_spans f fd) : FnOk P w K mg base (L2.CX P w) 4 f fd ["spans"] (spF K f_must_spans) :=
  fn_okG (b := e_must_spans) F sc_must_spans (t_must_spans K) (fun cdv A outer s H E hr =>
    (pss_one (ps_for (passes_of rfl) rfl (pi_list (pv 0)) (pg_name (i := 1) sc_must_spans.nd rfl (Or.inl rfl)) (pss_one (ps_expr (pc_ownS C_must_span (takes_of rfl rfl rfl rfl) (hr.mono (by decide)) (by rfl) (pa_cons (pv 1) pa_nil))))))) (so_must_spans T.xs) rfl rfl rfl
theorem ok_must_cover (T : Txt K mg) (C_must_spans : CalF P w K mg base "must_spans" 4 ["spans"] f_must_spans) {f : Addr} {fd : FuncData} (F : FnP K "must_cover" s_must_cover f fd) : FnOk P w K mg base (L2.CX P w) 5 f fd ["cover"] (spF K f_must_cover) :=
  fn_okG (b := e_must_cover) F sc_must_cover (t_must_cover K) (fun cdv A outer s H E hr =>
    (pss_cons (ps_expr (pc_ownS C_must_spans (takes_of rfl rfl rfl rfl) (hr.mono (by decide)) (by rfl) (pa_cons (pv 0) pa_nil))) (pss_cons (ps_if (pt_cmpR op_gt (pe_callB call_len_seq (by rfl) T.n_len bt_len (pa_cons (pv 0) pa_nil)) (pe_const T.c_MOST_SPANS (by rfl)) (nomark _)) (pss_one (ps_raiseK T.x_NoCover T.g_NoCover rfl (takes_of rfl rfl rfl rfl) (by rfl))) pss_nil) (pss_one (ps_for (passes_of rfl) rfl (pi_zip (by rfl) T.n_zip (pa_cons (pv 0) (pa_cons (pe_slice sl_list (pv 0) (po_some pe_int) po_none) pa_nil))) (pg_tup (by rfl) (pgs_cons (pg_name (i := 1) sc_must_cover.nd rfl (Or.inl rfl)) (pgs_cons (pg_name (i := 2) sc_must_cover.nd rfl (Or.inl rfl)) pgs_nil))) (pss_one (ps_if (pt_cmpR op_le (pe_ix ix_tup (pv 2) pe_int (fun _ _ => rfl)) (pe_ix ix_tup (pv 1) pe_int (fun _ _ => rfl)) (nomark _)) (pss_one (ps_raiseK T.x_NoCover T.g_NoCover rfl (takes_of rfl rfl rfl rfl) (by rfl))) pss_nil))))))) (so_must_cover T.xs) rfl rfl rfl
theorem ok_read_cover (T : Txt K mg) (C_read_span : CalF P w K mg base "read_span" 3 ["text"] f_read_span) (C_must_cover : CalF P w K mg base "must_cover" 5 ["cover"] f_must_cover) {f : Addr} {fd : FuncData} (F : FnP K "read_cover" s_read_cover f fd) : FnOk P w K mg base (L2.CX P w) 6 f fd ["text"] (spF K f_read_cover) :=
  fn_okG (b := e_read_cover) F sc_read_cover (t_read_cover K) (fun cdv A outer s H E hr =>
    (pss_cons (ps_if (pt_cmpR op_eq (pv 0) pe_str (nomark _)) (pss_one (ps_ret (pe_lst pa_nil))) pss_nil) (pss_cons (ps_setLc (i := 2) (own := [("word", 1)]) rfl sc_read_cover.nd rfl rfl (sw_true rfl rfl rfl (by decide +kernel)) (pi_list (pe_split (pv 0) pe_str)) (blkOk_by (own := [("word", 1)]) (N := N_read_cover) (sc := defScope s_read_cover) (by decide +kernel)) (fun _ _ _ _ _ => (pg_name (i := 1) sc_read_cover.nd rfl (Or.inl rfl))) (fun _ _ _ _ _ => pts_nil) (fun _ _ _ _ _ => (pc_own C_read_span (hr.mono (by decide)) (by rfl) (pa_cons (pv 1) pa_nil)))) (pss_cons (ps_try_only (c := .ref (ga K "NoCover")) (tb := fun W => (tDrop (tCallS (spF K f_must_cover) (WE W) (tCons (tVar 2) tNil)))) (ts := fun _ _ _ => fun _ _ _ => False) rfl rfl ⟨rfl, by decide, .inl T.g_NoCover⟩ takes_none (fun W pn xe tk po => (pss_one (ps_expr (pc_ownS C_must_cover tk (hr.mono (by decide)) (by rfl) (pa_cons (pv 2) pa_nil))))) (fun a oe cls d pn _ _ => pss_no)) (pss_one (ps_ret (pv 2))))))) (so_read_cover T.xs) rfl rfl rfl
theorem ok_show_span (T : Txt K mg) (C_must_span : CalF P w K mg base "must_span" 3 ["span"] f_must_span) {f : Addr} {fd : FuncData} (F : FnP K "show_span" s_show_span f fd) : FnOk P w K mg base (L2.CX P w) 4 f fd ["span"] (spF K f_show_span) :=
  fn_okG (b := e_show_span) F sc_show_span (t_show_span K) (fun cdv A outer s H E hr =>
    (pss_cons (ps_expr (pc_ownS C_must_span (takes_of rfl rfl rfl rfl) (hr.mono (by decide)) (by rfl) (pa_cons (pv 0) pa_nil))) (pss_one (ps_ret (pe_op op_add_str (pe_op op_add_str (pe_callTy call_str_int (by rfl) T.n_str bt_str (pa_cons (pe_ix ix_tup (pv 0) pe_int (fun _ _ => rfl)) pa_nil)) pe_str) (pe_callTy call_str_int (by rfl) T.n_str bt_str (pa_cons (pe_ix ix_tup (pv 0) pe_int (fun _ _ => rfl)) pa_nil))))))) (so_show_span T.xs) rfl rfl rfl
theorem ok_show_cover (T : Txt K mg) (C_must_cover : CalF P w K mg base "must_cover" 5 ["cover"] f_must_cover) (C_show_span : CalF P w K mg base "show_span" 4 ["span"] f_show_span) {f : Addr} {fd : FuncData} (F : FnP K "show_cover" s_show_cover f fd) : FnOk P w K mg base (L2.CX P w) 6 f fd ["cover"] (spF K f_show_cover) :=
  fn_okG (b := e_show_cover) F sc_show_cover (t_show_cover K) (fun cdv A outer s H E hr =>
    (pss_cons (ps_expr (pc_ownS C_must_cover (takes_of rfl rfl rfl rfl) (hr.mono (by decide)) (by rfl) (pa_cons (pv 0) pa_nil))) (pss_one (ps_ret (pe_join pe_str (pe_lc (own := [("span", 1)]) (g := (gName 1)) (tt := tYes) rfl sc_show_cover.nd (pi_list (pv 0)) (blkOk_by (own := [("span", 1)]) (N := N_show_cover) (sc := defScope s_show_cover) (by decide +kernel)) (fun _ _ _ _ _ => (pg_name (i := 1) sc_show_cover.nd rfl (Or.inl rfl))) (fun _ _ _ _ _ => pts_nil) (fun _ _ _ _ _ => (pc_own C_show_span (hr.mono (by decide)) (by rfl) (pa_cons (pv 1) pa_nil))))))))) (so_show_cover T.xs) rfl rfl rfl
theorem ok_law_class (T : Txt K mg) {f : Addr} {fd : FuncData} (F : FnP K "_law_class" s_law_class f fd) : FnOk P w K mg base (L2.CX P w) 1 f fd ["_law_caught"] (spF K f_law_class) :=
  fn_okG (b := e_law_class) F sc_law_class (t_law_class K) (fun cdv A outer s H E hr =>
    (pss_cons (ps_if (pt_cmpR op_isN (pv 0) pe_non (nomark _)) (pss_one (ps_ret pe_str)) pss_nil) (pss_cons (ps_set (i := 1) sc_law_class.nd rfl (Or.inl rfl) (pe_lst (pa_cons (pe_callB call_isA (by rfl) T.n_isinstance bt_isinstance (pa_cons (pv 0) (pa_cons (pe_glob (v := .ref (ga K "NoSpan")) (by rfl) T.g_NoSpan rfl) pa_nil))) (pa_cons (pe_callB call_isA (by rfl) T.n_isinstance bt_isinstance (pa_cons (pv 0) (pa_cons (pe_glob (v := .ref (ga K "NoPlace")) (by rfl) T.g_NoPlace rfl) pa_nil))) (pa_cons (pe_callB call_isA (by rfl) T.n_isinstance bt_isinstance (pa_cons (pv 0) (pa_cons (pe_glob (v := .ref (ga K "NoCover")) (by rfl) T.g_NoCover rfl) pa_nil))) pa_nil))))) (pss_cons (ps_set (i := 1) sc_law_class.nd rfl (Or.inl rfl) (pe_op op_cat (pv 1) (pe_lst (pa_cons (pe_callB call_isA (by rfl) T.n_isinstance bt_isinstance (pa_cons (pv 0) (pa_cons (pe_glob (v := .ref (ga K "NoWeight")) (by rfl) T.g_NoWeight rfl) pa_nil))) (pa_cons (pe_callB call_isA (by rfl) T.n_isinstance bt_isinstance (pa_cons (pv 0) (pa_cons (pe_glob (v := .ref (ga K "NoCount")) (by rfl) T.g_NoCount rfl) pa_nil))) (pa_cons (pe_callB call_isA (by rfl) T.n_isinstance bt_isinstance (pa_cons (pv 0) (pa_cons (pe_glob (v := .ref (ga K "NoName")) (by rfl) T.g_NoName rfl) pa_nil))) pa_nil)))))) (pss_cons (ps_set (i := 1) sc_law_class.nd rfl (Or.inl rfl) (pe_op op_cat (pv 1) (pe_lst (pa_cons (pe_callB call_isA (by rfl) T.n_isinstance bt_isinstance (pa_cons (pv 0) (pa_cons (pe_glob (v := .ref (ga K "Twice")) (by rfl) T.g_Twice rfl) pa_nil))) (pa_cons (pe_callB call_isA (by rfl) T.n_isinstance bt_isinstance (pa_cons (pv 0) (pa_cons (pe_glob (v := .ref (ga K "Full")) (by rfl) T.g_Full rfl) pa_nil))) (pa_cons (pe_callB call_isA (by rfl) T.n_isinstance bt_isinstance (pa_cons (pv 0) (pa_cons (pe_glob (v := .ref (ga K "Bare")) (by rfl) T.g_Bare rfl) pa_nil))) pa_nil)))))) (pss_cons (ps_set (i := 1) sc_law_class.nd rfl (Or.inl rfl) (pe_op op_cat (pv 1) (pe_lst (pa_cons (pe_callB call_isA (by rfl) T.n_isinstance bt_isinstance (pa_cons (pv 0) (pa_cons (pe_glob (v := .ref (ga K "NoDeed")) (by rfl) T.g_NoDeed rfl) pa_nil))) (pa_cons (pe_callB call_isA (by rfl) T.n_isinstance bt_isinstance (pa_cons (pv 0) (pa_cons (pe_glob (v := .ref (ga K "NoText")) (by rfl) T.g_NoText rfl) pa_nil))) (pa_cons (pe_callB call_isA (by rfl) T.n_isinstance bt_isinstance (pa_cons (pv 0) (pa_cons (pe_glob (v := .ref (ga K "NoLine")) (by rfl) T.g_NoLine rfl) pa_nil))) pa_nil)))))) (pss_cons (ps_set (i := 2) sc_law_class.nd rfl (Or.inl rfl) (pe_lst (pa_cons pe_str (pa_cons pe_str (pa_cons pe_str (pa_cons pe_str (pa_cons pe_str (pa_cons pe_str (pa_cons pe_str (pa_cons pe_str (pa_cons pe_str (pa_cons pe_str (pa_cons pe_str (pa_cons pe_str pa_nil)))))))))))))) (pss_cons (ps_setLc (i := 5) (own := [("_law_word", 3), ("_law_truth", 4)]) rfl sc_law_class.nd rfl rfl (sw_true rfl rfl rfl (by decide +kernel)) (pi_zip (by rfl) T.n_zip (pa_cons (pv 2) (pa_cons (pv 1) pa_nil))) (blkOk_by (own := [("_law_word", 3), ("_law_truth", 4)]) (N := N_law_class) (sc := defScope s_law_class) (by decide +kernel)) (fun _ _ _ _ _ => (pg_tup (by rfl) (pgs_cons (pg_name (i := 3) sc_law_class.nd rfl (Or.inl rfl)) (pgs_cons (pg_name (i := 4) sc_law_class.nd rfl (Or.inl rfl)) pgs_nil)))) (fun _ _ _ _ _ => (pts_one (pt_val (pv 4)))) (fun _ _ _ _ _ => (pv 3))) (pss_cons (ps_if (PW.pt (pw_or (pt_cmpR op_ne (pe_callB call_len_seq (by rfl) T.n_len bt_len (pa_cons (pv 5) pa_nil)) pe_int (nomark _)) (pw_or1 (pt_not (pt_val (pe_callB call_isA (by rfl) T.n_isinstance bt_isinstance (pa_cons (pv 0) (pa_cons (pe_bltn (v := .ty "ValueError") (by rfl) T.n_ValueError bt_ValueError rfl) pa_nil)))))))) (pss_one (ps_ret pe_str)) pss_nil) (pss_one (ps_ret (pe_ix ix_list (pv 5) pe_int (fun _ _ => rfl))))))))))))) (so_law_class T.xs) rfl rfl rfl
theorem ok_law_shown (T : Txt K mg) (C_show_cover : CalF P w K mg base "show_cover" 6 ["cover"] f_show_cover) (C_show_span : CalF P w K mg base "show_span" 4 ["span"] f_show_span) (C_law_class : CalF P w K mg base "_law_class" 1 ["_law_caught"] f_law_class) {f : Addr} {fd : FuncData} (F : FnP K "_law_shown" s_law_shown f fd) : FnOk P w K mg base (L2.CX P w) 7 f fd ["_law_thing", "_law_cover_here"] (spF K f_law_shown) :=
  fn_okG (b := e_law_shown) F sc_law_shown (t_law_shown K) (fun cdv A outer s H E hr =>
    (pss_cons (ps_set (i := 2) sc_law_shown.nd rfl (Or.inl rfl) pe_non) (pss_cons (ps_set (i := 3) sc_law_shown.nd rfl (Or.inl rfl) pe_non) (pss_cons (ps_try_keep (i := 4) (j := 2) (c := .ref (ga K "ShelfError")) (tb := fun W => (tIfS (tB (tVar 1)) (tAsg (tCallS (spF K f_show_cover) (WE W) (tCons (tVar 0) tNil)) (gName 3)) (tAsg (tCallS (spF K f_show_span) (WE W) (tCons (tVar 0) tNil)) (gName 3)))) rfl rfl rfl sc_law_shown.nd rfl rfl ⟨rfl, by decide, .inl T.g_ShelfError⟩ (fun W pn xe tk po => (pss_one (ps_if (pt_val (pv 1)) (pss_one (ps_set (i := 3) sc_law_shown.nd rfl (Or.inl rfl) (pc_ownS C_show_cover tk (hr.mono (by decide)) (by rfl) (pa_cons (pv 0) pa_nil)))) (pss_one (ps_set (i := 3) sc_law_shown.nd rfl (Or.inl rfl) (pc_ownS C_show_span tk (hr.mono (by decide)) (by rfl) (pa_cons (pv 0) pa_nil))))))) (fun a oe pn => pss_one (ps_set (i := 2) sc_law_shown.nd rfl (Or.inl rfl) (pv 4)))) (pss_cons (ps_if (pt_cmpR op_notN (pv 2) pe_non (nomark _)) (pss_one (ps_ret (pe_lst (pa_cons (pc_own C_law_class (hr.mono (by decide)) (by rfl) (pa_cons (pv 2) pa_nil)) pa_nil)))) pss_nil) (pss_one (ps_ret (pv 3)))))))) (so_law_shown T.xs) rfl rfl rfl
theorem ok_law_whole (T : Txt K mg) {f : Addr} {fd : FuncData} (F : FnP K "_law_whole" s_law_whole f fd) : FnOk P w K mg base (L2.CX P w) 1 f fd ["_law_found"] (spF K f_law_whole) :=
  fn_okG (b := e_law_whole) F sc_law_whole (t_law_whole K) (fun cdv A outer s H E hr =>
    (pss_one (ps_ret (pe_and (pe_callB call_isi (by rfl) T.n_isinstance bt_isinstance (pa_cons (pv 0) (pa_cons (pe_bltn (v := .ty "int") (by rfl) T.n_int bt_int rfl) pa_nil))) (pe_one (pe_not (pe_callB call_isi (by rfl) T.n_isinstance bt_isinstance (pa_cons (pv 0) (pa_cons (pe_bltn (v := .ty "bool") (by rfl) T.n_bool bt_bool rfl) pa_nil))))))))) (so_law_whole T.xs) rfl rfl rfl
theorem ok_law_fine (T : Txt K mg) (C_law_whole : CalF P w K mg base "_law_whole" 1 ["_law_found"] f_law_whole) {f : Addr} {fd : FuncData} (F : FnP K "_law_fine" s_law_fine f fd) : FnOk P w K mg base (L2.CX P w) 2 f fd ["_law_found", "_law_span_here"] (spF K f_law_fine) :=
  fn_okG (b := e_law_fine) F sc_law_fine (t_law_fine K) (fun cdv A outer s H E hr =>
    (pss_one (ps_ret (pe_and (pe_callB call_isi (by rfl) T.n_isinstance bt_isinstance (pa_cons (pv 0) (pa_cons (pe_bltn (v := .ty "tuple") (by rfl) T.n_tuple bt_tuple rfl) pa_nil))) (pe_and (pe_cmpR (op_eqD hr.units) (pv 0) (pv 1) (nomark _)) (pe_and (pc_own C_law_whole (hr.mono (by decide)) (by rfl) (pa_cons (pe_ix ix_tup (pv 0) pe_int (fun _ _ => rfl)) pa_nil)) (pe_one (pc_own C_law_whole (hr.mono (by decide)) (by rfl) (pa_cons (pe_ix ix_tup (pv 0) pe_int (fun _ _ => rfl)) pa_nil))))))))) (so_law_fine T.xs) rfl rfl rfl
theorem ok_law_bent (T : Txt K mg) (C_law_draw : CalF P w K mg base "_law_draw" 2 ["_law_purse_here", "_law_out_of"] f_law_draw) {f : Addr} {fd : FuncData} (F : FnP K "_law_bent" s_law_bent f fd) : FnOk P w K mg base (L2.CX P w) 3 f fd ["_law_purse_here", "_law_cover_here"] (spF K f_law_bent_5) :=
  fn_okG (b := e_law_bent_5) F sc_law_bent (t_law_bent K) (fun cdv A outer s H E hr =>
    (pss_cons (ps_set (i := 2) sc_law_bent.nd rfl (Or.inl rfl) (pc_own C_law_draw (hr.mono (by decide)) (by rfl) (pa_cons (pv 0) (pa_cons pe_int pa_nil)))) (pss_cons (ps_set (i := 3) sc_law_bent.nd rfl (Or.inl rfl) (pc_own C_law_draw (hr.mono (by decide)) (by rfl) (pa_cons (pv 0) (pa_cons (pe_op op_add (pe_callB call_len_seq (by rfl) T.n_len bt_len (pa_cons (pv 1) pa_nil)) pe_int) pa_nil)))) (pss_cons (ps_set (i := 4) sc_law_bent.nd rfl (Or.inl rfl) (pe_ix ix_list (pe_op op_cat (pv 1) (pe_lst (pa_cons (pe_tup (pa_cons pe_int (pa_cons pe_int pa_nil))) pa_nil))) (pv 3) (fun _ _ => rfl))) (pss_cons (ps_if (pt_cmpR op_eq (pv 2) pe_int (nomark _)) (pss_one (ps_ret (pe_op op_cat (pe_op op_cat (pe_slice sl_list (pv 1) po_none (po_some (pv 3))) (pe_lst (pa_cons (pe_revT (pv 4)) pa_nil))) (pe_slice sl_list (pv 1) (po_some (pe_op op_add (pv 3) pe_int)) po_none)))) pss_nil) (pss_cons (ps_if (pt_cmpR op_eq (pv 2) pe_int (nomark _)) (pss_one (ps_ret (pe_op op_cat (pe_op op_cat (pe_slice sl_list (pv 1) po_none (po_some (pv 3))) (pe_lst (pa_cons (pe_ix ix_list (pe_lst (pa_cons (pe_tup (pa_cons (pe_ix ix_tup (pv 4) pe_int (fun _ _ => rfl)) (pa_cons (pe_ix ix_tup (pv 4) pe_int (fun _ _ => rfl)) pa_nil))) (pa_cons (pe_tup (pa_cons (pe_ix ix_tup (pv 4) pe_int (fun _ _ => rfl)) (pa_cons (pe_op op_pow pe_int pe_int) pa_nil))) (pa_cons (pe_tup (pa_cons (pe_un un_neg (pe_op op_pow pe_int pe_int)) (pa_cons (pe_ix ix_tup (pv 4) pe_int (fun _ _ => rfl)) pa_nil))) pa_nil)))) (pe_op op_mod (pv 3) pe_int) (fun _ _ => rfl)) pa_nil))) (pe_slice sl_list (pv 1) (po_some (pe_op op_add (pv 3) pe_int)) po_none)))) pss_nil) (pss_cons (ps_if (pt_cmpR op_eq (pv 2) pe_int (nomark _)) (pss_one (ps_ret (pe_revL (pv 1)))) pss_nil) (pss_cons (ps_if (pt_cmpR op_eq (pv 2) pe_int (nomark _)) (pss_one (ps_ret (pe_op op_cat (pe_op op_cat (pe_slice sl_list (pv 1) po_none (po_some (pv 3))) (pe_lst (pa_cons (pv 4) pa_nil))) (pe_slice sl_list (pv 1) (po_some (pv 3)) po_none)))) pss_nil) (pss_cons (ps_if (pt_cmpR op_eq (pv 2) pe_int (nomark _)) (pss_one (ps_ret (pe_op op_cat (pe_op op_cat (pe_slice sl_list (pv 1) po_none (po_some (pv 3))) (pe_lst (pa_cons (pe_tup (pa_cons (pe_ix ix_tup (pv 4) pe_int (fun _ _ => rfl)) (pa_cons (pe_op op_add (pe_ix ix_tup (pv 4) pe_int (fun _ _ => rfl)) pe_int) pa_nil))) pa_nil))) (pe_slice sl_list (pv 1) (po_some (pe_op op_add (pv 3) pe_int)) po_none)))) pss_nil) (pss_cons (ps_if (pt_cmpR op_eq (pv 2) pe_int (nomark _)) (pss_one (ps_ret (pe_op op_cat (pe_op op_cat (pe_slice sl_list (pv 1) po_none (po_some (pv 3))) (pe_lst (pa_cons (pe_tup (pa_cons (pe_op op_sub (pe_ix ix_tup (pv 4) pe_int (fun _ _ => rfl)) pe_int) (pa_cons (pe_ix ix_tup (pv 4) pe_int (fun _ _ => rfl)) pa_nil))) (pa_cons (pv 4) pa_nil)))) (pe_slice sl_list (pv 1) (po_some (pe_op op_add (pv 3) pe_int)) po_none)))) pss_nil) (pss_one (ps_ret (pe_lc (own := [("_law_k", 5)]) (g := (gName 5)) (tt := tYes) rfl sc_law_bent.nd (pi_range1 (by rfl) T.n_range (pa_cons (pe_op op_add pe_int (pc_own C_law_draw (hr.mono (by decide)) (by rfl) (pa_cons (pv 0) (pa_cons pe_int pa_nil)))) pa_nil)) (blkOk_by (own := [("_law_k", 5)]) (N := N_law_bent) (sc := defScope s_law_bent) (by decide +kernel)) (fun _ _ _ _ _ => (pg_name (i := 5) sc_law_bent.nd rfl (Or.inl rfl))) (fun _ _ _ _ _ => pts_nil) (fun _ _ _ _ _ => (pe_tup (pa_cons (pe_op op_mul pe_int (pv 5)) (pa_cons (pe_op op_add (pe_op op_mul pe_int (pv 5)) pe_int) pa_nil))))))))))))))))) (so_law_bent T.xs) rfl rfl rfl
theorem ok_law (T : Txt K mg) (C_law_purse : CalF P w K mg base "_law_purse" 2 ["_law_script", "_law_at_here"] f_law_purse) (C_law_span : CalF P w K mg base "_law_span" 5 ["_law_purse_here", "_law_ends", "_law_most"] f_law_span) (C_law_span_text : CalF P w K mg base "_law_span_text" 1 ["_law_span_here"] f_law_span_text) (C_law_shown : CalF P w K mg base "_law_shown" 7 ["_law_thing", "_law_cover_here"] f_law_shown) (C_law_fine : CalF P w K mg base "_law_fine" 2 ["_law_found", "_law_span_here"] f_law_fine) (C_read_span : CalF P w K mg base "read_span" 3 ["text"] f_read_span) (C_law_draw : CalF P w K mg base "_law_draw" 2 ["_law_purse_here", "_law_out_of"] f_law_draw) (C_law_cover : CalF P w K mg base "_law_cover" 5 ["_law_purse_here", "_law_many"] f_law_cover_4) (C_law_bent : CalF P w K mg base "_law_bent" 3 ["_law_purse_here", "_law_cover_here"] f_law_bent_5) (C_law_due : CalF P w K mg base "_law_due" 2 ["_law_cover_here"] f_law_due_7) (C_read_cover : CalF P w K mg base "read_cover" 6 ["text"] f_read_cover) {f : Addr} {fd : FuncData} (F : FnP K "law" s_law f fd) : FnOk P w K mg base CX0 8 f fd ["_law_script"] (spF K f_law_k75) :=
  fn_okG (b := e_law_k75) F sc_law (t_law K) (fun cdv A outer s H E hr =>
    (pss_cons (ps_for (passes_of rfl) rfl (pi_range1 (by rfl) T.n_range (pa_cons pe_int pa_nil)) (pg_name (i := 1) sc_law.nd rfl (Or.inl rfl)) (pss_cons (ps_set (i := 2) sc_law.nd rfl (Or.inr rfl) (pc_own C_law_purse (hr.mono (by decide)) (by rfl) (pa_cons (pv 0) (pa_cons (pv 1) pa_nil)))) (pss_cons (ps_set (i := 3) sc_law.nd rfl (Or.inl rfl) (pc_own C_law_span (hr.mono (by decide)) (by rfl) (pa_cons (pv 2) (pa_cons (pe_lst pa_nil) (pa_cons (pe_op op_sub (pe_op op_pow pe_int pe_int) pe_int) pa_nil))))) (pss_cons (ps_set (i := 4) sc_law.nd rfl (Or.inl rfl) (pc_own C_law_span_text (hr.mono (by decide)) (by rfl) (pa_cons (pv 3) pa_nil))) (pss_cons (ps_if (PW.pt (pw_or (pt_cmpR (op_neD hr.units) (pc_own C_law_shown (hr.mono (by decide)) (by rfl) (pa_cons (pv 3) (pa_cons pe_bl pa_nil))) (pv 4) (nomark _)) (pw_or1 (pt_not (pt_val (pc_own C_law_fine (hr.mono (by decide)) (by rfl) (pa_cons (pc_own C_read_span (hr.mono (by decide)) (by rfl) (pa_cons (pv 4) pa_nil)) (pa_cons (pv 3) pa_nil)))))))) (pss_one (ps_ret pe_bl)) pss_nil) (pss_cons (ps_for (passes_of rfl) rfl (pi_list (pe_lst (pa_cons (pe_revT (pv 3)) (pa_cons (pe_tup (pa_cons (pe_ix ix_tup (pv 3) pe_int (fun _ _ => rfl)) (pa_cons (pe_ix ix_tup (pv 3) pe_int (fun _ _ => rfl)) pa_nil))) (pa_cons (pe_tup (pa_cons (pe_ix ix_tup (pv 3) pe_int (fun _ _ => rfl)) (pa_cons (pe_op op_pow pe_int pe_int) pa_nil))) (pa_cons (pe_tup (pa_cons (pe_un un_neg (pe_op op_pow pe_int pe_int)) (pa_cons (pe_ix ix_tup (pv 3) pe_int (fun _ _ => rfl)) pa_nil))) pa_nil)))))) (pg_name (i := 5) sc_law.nd rfl (Or.inl rfl)) (pss_one (ps_if (pt_cmpR (op_neD hr.units) (pc_own C_law_shown (hr.mono (by decide)) (by rfl) (pa_cons (pv 5) (pa_cons pe_bl pa_nil))) (pe_lst (pa_cons pe_str pa_nil)) (nomark _)) (pss_one (ps_ret pe_bl)) pss_nil))) (pss_cons (ps_set (i := 6) sc_law.nd rfl (Or.inl rfl) (pc_own C_law_draw (hr.mono (by decide)) (by rfl) (pa_cons (pv 2) (pa_cons pe_int pa_nil)))) (pss_cons (ps_if (pt_cmpR op_eq (pc_own C_law_draw (hr.mono (by decide)) (by rfl) (pa_cons (pv 2) (pa_cons pe_int pa_nil))) pe_int (nomark _)) (pss_one (ps_set (i := 6) sc_law.nd rfl (Or.inl rfl) pe_int)) pss_nil) (pss_cons (ps_set (i := 7) sc_law.nd rfl (Or.inr rfl) (pc_own C_law_cover (hr.mono (by decide)) (by rfl) (pa_cons (pv 2) (pa_cons (pv 6) pa_nil)))) (pss_cons (ps_for (passes_of rfl) rfl (pi_list (pe_op op_cat (pe_lst (pa_cons (pv 7) pa_nil)) (pe_lc (own := [("_law_turn", 8)]) (g := (gName 8)) (tt := tYes) rfl sc_law.nd (pi_range1 (by rfl) T.n_range (pa_cons pe_int pa_nil)) (blkOk_by (own := [("_law_turn", 8)]) (N := N_law) (sc := defScope s_law) (by decide +kernel)) (fun _ _ _ _ _ => (pg_name (i := 8) sc_law.nd rfl (Or.inl rfl))) (fun _ _ _ _ _ => pts_nil) (fun _ _ _ _ _ => (pc_own C_law_bent (hr.mono (by decide)) (by rfl) (pa_cons (pv 2) (pa_cons (pv 7) pa_nil))))))) (pg_name (i := 9) sc_law.nd rfl (Or.inl rfl)) (pss_cons (ps_set (i := 10) sc_law.nd rfl (Or.inl rfl) (pe_callTy call_list_of (by rfl) T.n_list bt_list (pa_cons (pv 9) pa_nil))) (pss_one (ps_if (PW.pt (pw_or (pt_cmpR (op_neD hr.units) (pc_own C_law_shown (hr.mono (by decide)) (by rfl) (pa_cons (pv 10) (pa_cons pe_bl pa_nil))) (pc_own C_law_due (hr.mono (by decide)) (by rfl) (pa_cons (pv 9) pa_nil)) (nomark _)) (pw_or1 (pt_cmpR (op_neD hr.units) (pv 10) (pv 9) (nomark _))))) (pss_one (ps_ret pe_bl)) pss_nil)))) (pss_cons (ps_set (i := 4) sc_law.nd rfl (Or.inl rfl) (pc_own C_law_due (hr.mono (by decide)) (by rfl) (pa_cons (pv 7) pa_nil))) (pss_one (ps_for (passes_of rfl) rfl (pi_range1 (by rfl) T.n_range (pa_cons pe_int pa_nil)) (pg_name (i := 8) sc_law.nd rfl (Or.inl rfl)) (pss_cons (ps_set (i := 11) sc_law.nd rfl (Or.inl rfl) (pc_own C_read_cover (hr.mono (by decide)) (by rfl) (pa_cons (pv 4) pa_nil))) (pss_cons (ps_if (PW.pt (pw_or (pt_not (pt_val (pe_callB call_isi (by rfl) T.n_isinstance bt_isinstance (pa_cons (pv 11) (pa_cons (pe_bltn (v := .ty "list") (by rfl) T.n_list bt_list rfl) pa_nil))))) (pw_or1 (pt_cmpR (op_neD hr.units) (pv 11) (pv 7) (nomark _))))) (pss_one (ps_ret pe_bl)) pss_nil) (pss_cons (ps_if (pt_cmpR op_gt (pe_callB call_len_seq (by rfl) T.n_len bt_len (pa_cons (pe_lc (own := [("_law_one", 12)]) (g := (gName 12)) (tt := (tNot (tB (tCall (spF K f_law_fine) [] E0 (tCons (tVar 12) (tCons (tVar 12) tNil)))))) rfl sc_law.nd (pi_list (pv 11)) (blkOk_by (own := [("_law_one", 12)]) (N := N_law) (sc := defScope s_law) (by decide +kernel)) (fun _ _ _ _ _ => (pg_name (i := 12) sc_law.nd rfl (Or.inl rfl))) (fun _ _ _ _ _ => (pts_one (pt_not (pt_val (pc_own C_law_fine (hr.mono (by decide)) (by rfl) (pa_cons (pv 12) (pa_cons (pv 12) pa_nil))))))) (fun _ _ _ _ _ => (pv 12))) pa_nil)) pe_int (nomark _)) (pss_one (ps_ret pe_bl)) pss_nil) (pss_one (ps_expr (pe_bm PySem.F.plainAttrs_list PySem.F.slot_list_append PySem.F.type_list_append mt_append (pv 11) (pa_cons (pe_tup (pa_cons pe_int (pa_cons pe_int pa_nil))) pa_nil)))))))))))))))))))) (pss_one (ps_ret pe_bl)))) (so_law T.xs) rfl rfl rfl
end
theorem facts {P : Program} {w : World} {K : PySem.W.Frag} {h : Heap} {mg : Str → Option Value} {f : Addr} (X : K.In h) (G : h.Ns mainGlobals mg) (hfa : mg ("law" : Str) = some (.ref f)) (c : He.SaysD fa fn K) (xs : Xs K xnames) :
    ∃ fd : FuncData, (∀ (s : Shared) (v : Value), BindsTo s fd ⟨[v], []⟩ [("_law_script", v)]) ∧ ∀ base : Heap, K.In base → base.Ns mainGlobals mg → FnOk P w K mg base CX0 8 f fd ["_law_script"] (spF K f_law_k75) := by
  have T : Txt K mg := ⟨He.free_ok X G (c.fact 29 (f := .free "len") rfl), He.free_ok X G (c.fact 30 (f := .free "max") rfl), He.free_ok X G (c.fact 31 (f := .free "range") rfl), He.free_ok X G (c.fact 32 (f := .free "min") rfl), He.free_ok X G (c.fact 33 (f := .free "str") rfl), He.free_ok X G (c.fact 34 (f := .free "sorted") rfl), He.free_ok X G (c.fact 35 (f := .free "set") rfl), He.free_ok X G (c.fact 36 (f := .free "abs") rfl), He.free_ok X G (c.fact 37 (f := .free "zip") rfl), He.free_ok X G (c.fact 38 (f := .free "int") rfl), He.free_ok X G (c.fact 39 (f := .free "all") rfl), He.free_ok X G (c.fact 40 (f := .free "isinstance") rfl), He.free_ok X G (c.fact 41 (f := .free "ValueError") rfl), He.free_ok X G (c.fact 42 (f := .free "bool") rfl), He.free_ok X G (c.fact 43 (f := .free "tuple") rfl), He.free_ok X G (c.fact 44 (f := .free "list") rfl), He.int_ok X G (c.fact 45 rfl), He.str_ok X G (c.fact 46 rfl), He.int_ok X G (c.fact 47 rfl), He.int_ok X G (c.fact 48 rfl), xs, xs.up, xs.up.mg X G, xs.one "NoSpan" (.head _), (xs.one "NoSpan" (.head _)).mg X G, xs.one "NoPlace" (.tail _ (.head _)), (xs.one "NoPlace" (.tail _ (.head _))).mg X G, xs.one "NoCover" (.tail _ (.tail _ (.head _))), (xs.one "NoCover" (.tail _ (.tail _ (.head _)))).mg X G, xs.one "NoWeight" (.tail _ (.tail _ (.tail _ (.head _)))), (xs.one "NoWeight" (.tail _ (.tail _ (.tail _ (.head _))))).mg X G, xs.one "NoCount" (.tail _ (.tail _ (.tail _ (.tail _ (.head _))))), (xs.one "NoCount" (.tail _ (.tail _ (.tail _ (.tail _ (.head _)))))).mg X G, xs.one "NoName" (.tail _ (.tail _ (.tail _ (.tail _ (.tail _ (.head _)))))), (xs.one "NoName" (.tail _ (.tail _ (.tail _ (.tail _ (.tail _ (.head _))))))).mg X G, xs.one "Twice" (.tail _ (.tail _ (.tail _ (.tail _ (.tail _ (.tail _ (.head _))))))), (xs.one "Twice" (.tail _ (.tail _ (.tail _ (.tail _ (.tail _ (.tail _ (.head _)))))))).mg X G, xs.one "Full" (.tail _ (.tail _ (.tail _ (.tail _ (.tail _ (.tail _ (.tail _ (.head _)))))))), (xs.one "Full" (.tail _ (.tail _ (.tail _ (.tail _ (.tail _ (.tail _ (.tail _ (.head _))))))))).mg X G, xs.one "Bare" (.tail _ (.tail _ (.tail _ (.tail _ (.tail _ (.tail _ (.tail _ (.tail _ (.head _))))))))), (xs.one "Bare" (.tail _ (.tail _ (.tail _ (.tail _ (.tail _ (.tail _ (.tail _ (.tail _ (.head _)))))))))).mg X G, xs.one "NoDeed" (.tail _ (.tail _ (.tail _ (.tail _ (.tail _ (.tail _ (.tail _ (.tail _ (.tail _ (.head _)))))))))), (xs.one "NoDeed" (.tail _ (.tail _ (.tail _ (.tail _ (.tail _ (.tail _ (.tail _ (.tail _ (.tail _ (.head _))))))))))).mg X G, xs.one "NoText" (.tail _ (.tail _ (.tail _ (.tail _ (.tail _ (.tail _ (.tail _ (.tail _ (.tail _ (.tail _ (.head _))))))))))), (xs.one "NoText" (.tail _ (.tail _ (.tail _ (.tail _ (.tail _ (.tail _ (.tail _ (.tail _ (.tail _ (.tail _ (.head _)))))))))))).mg X G, xs.one "NoLine" (.tail _ (.tail _ (.tail _ (.tail _ (.tail _ (.tail _ (.tail _ (.tail _ (.tail _ (.tail _ (.tail _ (.head _)))))))))))), (xs.one "NoLine" (.tail _ (.tail _ (.tail _ (.tail _ (.tail _ (.tail _ (.tail _ (.tail _ (.tail _ (.tail _ (.tail _ (.head _))))))))))))).mg X G⟩
  obtain ⟨fd_law_at, F_law_at⟩ := c.def_ 0 (d := d_law_at) rfl
  obtain ⟨fd_law_purse, F_law_purse⟩ := c.def_ 1 (d := d_law_purse) rfl
  obtain ⟨fd_law_mixed, F_law_mixed⟩ := c.def_ 2 (d := d_law_mixed) rfl
  obtain ⟨fd_law_draw, F_law_draw⟩ := c.def_ 3 (d := d_law_draw) rfl
  obtain ⟨fd_law_number, F_law_number⟩ := c.def_ 4 (d := d_law_number) rfl
  obtain ⟨fd_law_end, F_law_end⟩ := c.def_ 5 (d := d_law_end) rfl
  obtain ⟨fd_law_span, F_law_span⟩ := c.def_ 6 (d := d_law_span) rfl
  obtain ⟨fd_law_span_text, F_law_span_text⟩ := c.def_ 7 (d := d_law_span_text) rfl
  obtain ⟨fd_law_cover, F_law_cover⟩ := c.def_ 8 (d := d_law_cover) rfl
  obtain ⟨fd_law_is_span, F_law_is_span⟩ := c.def_ 9 (d := d_law_is_span) rfl
  obtain ⟨fd_law_due, F_law_due⟩ := c.def_ 10 (d := d_law_due) rfl
  obtain ⟨fd_must, F_must⟩ := c.def_ 11 (d := d_must) rfl
  obtain ⟨fd_is_number, F_is_number⟩ := c.def_ 12 (d := d_is_number) rfl
  obtain ⟨fd_read_number, F_read_number⟩ := c.def_ 13 (d := d_read_number) rfl
  obtain ⟨fd_is_place, F_is_place⟩ := c.def_ 14 (d := d_is_place) rfl
  obtain ⟨fd_is_span, F_is_span⟩ := c.def_ 15 (d := d_is_span) rfl
  obtain ⟨fd_read_span, F_read_span⟩ := c.def_ 16 (d := d_read_span) rfl
  obtain ⟨fd_must_span, F_must_span⟩ := c.def_ 17 (d := d_must_span) rfl
  obtain ⟨fd_must_spans, F_must_spans⟩ := c.def_ 18 (d := d_must_spans) rfl
  obtain ⟨fd_must_cover, F_must_cover⟩ := c.def_ 19 (d := d_must_cover) rfl
  obtain ⟨fd_read_cover, F_read_cover⟩ := c.def_ 20 (d := d_read_cover) rfl
  obtain ⟨fd_show_span, F_show_span⟩ := c.def_ 21 (d := d_show_span) rfl
  obtain ⟨fd_show_cover, F_show_cover⟩ := c.def_ 22 (d := d_show_cover) rfl
  obtain ⟨fd_law_class, F_law_class⟩ := c.def_ 23 (d := d_law_class) rfl
  obtain ⟨fd_law_shown, F_law_shown⟩ := c.def_ 24 (d := d_law_shown) rfl
  obtain ⟨fd_law_whole, F_law_whole⟩ := c.def_ 25 (d := d_law_whole) rfl
  obtain ⟨fd_law_fine, F_law_fine⟩ := c.def_ 26 (d := d_law_fine) rfl
  obtain ⟨fd_law_bent, F_law_bent⟩ := c.def_ 27 (d := d_law_bent) rfl
  obtain ⟨fd_law, F_law⟩ := c.def_ 28 (d := d_law) rfl
  have e := hfa.symm.trans (He.glo_ok X G (c.fact 28 (f := .glo "law") rfl))
  cases e
  have b := FunD.bindsA (ps := ["_law_script"]) F_law fun _ _ _ _ _ _ us hl => match us, hl with | [_], _ => rfl
  refine ⟨fd_law, fun s v => b s [v] rfl, fun base _ _ => ?_⟩
  have C_law_at : CalF P w K mg base "_law_at" 1 ["_law_script", "_law_k"] f_law_at := ⟨_, ok_law_at T F_law_at, FunD.bindsN F_law_at fun _ _ _ _ _ _ us hl => match us, hl with | [_, _], _ => rfl, F_law_at.kp, He.glo_ok X G (c.fact 0 (f := .glo "_law_at") rfl)⟩
  have C_law_purse : CalF P w K mg base "_law_purse" 2 ["_law_script", "_law_at_here"] f_law_purse := ⟨_, ok_law_purse T C_law_at F_law_purse, FunD.bindsN F_law_purse fun _ _ _ _ _ _ us hl => match us, hl with | [_, _], _ => rfl, F_law_purse.kp, He.glo_ok X G (c.fact 1 (f := .glo "_law_purse") rfl)⟩
  have C_law_mixed : CalF P w K mg base "_law_mixed" 1 ["_law_cell", "_law_k"] f_law_mixed := ⟨_, ok_law_mixed T F_law_mixed, FunD.bindsN F_law_mixed fun _ _ _ _ _ _ us hl => match us, hl with | [_, _], _ => rfl, F_law_mixed.kp, He.glo_ok X G (c.fact 2 (f := .glo "_law_mixed") rfl)⟩
  have C_law_draw : CalF P w K mg base "_law_draw" 2 ["_law_purse_here", "_law_out_of"] f_law_draw := ⟨_, ok_law_draw T C_law_mixed F_law_draw, FunD.bindsN F_law_draw fun _ _ _ _ _ _ us hl => match us, hl with | [_, _], _ => rfl, F_law_draw.kp, He.glo_ok X G (c.fact 3 (f := .glo "_law_draw") rfl)⟩
  have C_law_number : CalF P w K mg base "_law_number" 3 ["_law_purse_here", "_law_most"] f_law_number := ⟨_, ok_law_number T C_law_draw F_law_number, FunD.bindsN F_law_number fun _ _ _ _ _ _ us hl => match us, hl with | [_, _], _ => rfl, F_law_number.kp, He.glo_ok X G (c.fact 4 (f := .glo "_law_number") rfl)⟩
  have C_law_end : CalF P w K mg base "_law_end" 4 ["_law_purse_here", "_law_ends", "_law_most"] f_law_end := ⟨_, ok_law_end T C_law_draw C_law_number F_law_end, FunD.bindsN F_law_end fun _ _ _ _ _ _ us hl => match us, hl with | [_, _, _], _ => rfl, F_law_end.kp, He.glo_ok X G (c.fact 5 (f := .glo "_law_end") rfl)⟩
  have C_law_span : CalF P w K mg base "_law_span" 5 ["_law_purse_here", "_law_ends", "_law_most"] f_law_span := ⟨_, ok_law_span T C_law_end F_law_span, FunD.bindsN F_law_span fun _ _ _ _ _ _ us hl => match us, hl with | [_, _, _], _ => rfl, F_law_span.kp, He.glo_ok X G (c.fact 6 (f := .glo "_law_span") rfl)⟩
  have C_law_span_text : CalF P w K mg base "_law_span_text" 1 ["_law_span_here"] f_law_span_text := ⟨_, ok_law_span_text T F_law_span_text, FunD.bindsN F_law_span_text fun _ _ _ _ _ _ us hl => match us, hl with | [_], _ => rfl, F_law_span_text.kp, He.glo_ok X G (c.fact 7 (f := .glo "_law_span_text") rfl)⟩
  have C_law_cover : CalF P w K mg base "_law_cover" 5 ["_law_purse_here", "_law_many"] f_law_cover_4 := ⟨_, ok_law_cover T C_law_end F_law_cover, FunD.bindsN F_law_cover fun _ _ _ _ _ _ us hl => match us, hl with | [_, _], _ => rfl, F_law_cover.kp, He.glo_ok X G (c.fact 8 (f := .glo "_law_cover") rfl)⟩
  have C_law_is_span : CalF P w K mg base "_law_is_span" 1 ["_law_span_here"] f_law_is_span := ⟨_, ok_law_is_span T F_law_is_span, FunD.bindsN F_law_is_span fun _ _ _ _ _ _ us hl => match us, hl with | [_], _ => rfl, F_law_is_span.kp, He.glo_ok X G (c.fact 9 (f := .glo "_law_is_span") rfl)⟩
  have C_law_due : CalF P w K mg base "_law_due" 2 ["_law_cover_here"] f_law_due_7 := ⟨_, ok_law_due T C_law_is_span C_law_span_text F_law_due, FunD.bindsN F_law_due fun _ _ _ _ _ _ us hl => match us, hl with | [_], _ => rfl, F_law_due.kp, He.glo_ok X G (c.fact 10 (f := .glo "_law_due") rfl)⟩
  have C_must : CalF P w K mg base "must" 1 ["fine"] f_must := ⟨_, ok_must T F_must, FunD.bindsN F_must fun _ _ _ _ _ _ us hl => match us, hl with | [_], _ => rfl, F_must.kp, He.glo_ok X G (c.fact 11 (f := .glo "must") rfl)⟩
  have C_is_number : CalF P w K mg base "is_number" 1 ["text"] f_is_number := ⟨_, ok_is_number T F_is_number, FunD.bindsN F_is_number fun _ _ _ _ _ _ us hl => match us, hl with | [_], _ => rfl, F_is_number.kp, He.glo_ok X G (c.fact 12 (f := .glo "is_number") rfl)⟩
  have C_read_number : CalF P w K mg base "read_number" 2 ["text"] f_read_number := ⟨_, ok_read_number T C_must C_is_number F_read_number, FunD.bindsN F_read_number fun _ _ _ _ _ _ us hl => match us, hl with | [_], _ => rfl, F_read_number.kp, He.glo_ok X G (c.fact 13 (f := .glo "read_number") rfl)⟩
  have C_is_place : CalF P w K mg base "is_place" 1 ["number"] f_is_place := ⟨_, ok_is_place T F_is_place, FunD.bindsN F_is_place fun _ _ _ _ _ _ us hl => match us, hl with | [_], _ => rfl, F_is_place.kp, He.glo_ok X G (c.fact 14 (f := .glo "is_place") rfl)⟩
  have C_is_span : CalF P w K mg base "is_span" 2 ["span"] f_is_span := ⟨_, ok_is_span T C_is_place F_is_span, FunD.bindsN F_is_span fun _ _ _ _ _ _ us hl => match us, hl with | [_], _ => rfl, F_is_span.kp, He.glo_ok X G (c.fact 15 (f := .glo "is_span") rfl)⟩
  have C_read_span : CalF P w K mg base "read_span" 3 ["text"] f_read_span := ⟨_, ok_read_span T C_read_number C_must C_is_span F_read_span, FunD.bindsN F_read_span fun _ _ _ _ _ _ us hl => match us, hl with | [_], _ => rfl, F_read_span.kp, He.glo_ok X G (c.fact 16 (f := .glo "read_span") rfl)⟩
  have C_must_span : CalF P w K mg base "must_span" 3 ["span"] f_must_span := ⟨_, ok_must_span T C_is_span F_must_span, FunD.bindsN F_must_span fun _ _ _ _ _ _ us hl => match us, hl with | [_], _ => rfl, F_must_span.kp, He.glo_ok X G (c.fact 17 (f := .glo "must_span") rfl)⟩
  have C_must_spans : CalF P w K mg base "must_spans" 4 ["spans"] f_must_spans := ⟨_, ok_must_spans T C_must_span F_must_spans, FunD.bindsN F_must_spans fun _ _ _ _ _ _ us hl => match us, hl with | [_], _ => rfl, F_must_spans.kp, He.glo_ok X G (c.fact 18 (f := .glo "must_spans") rfl)⟩
  have C_must_cover : CalF P w K mg base "must_cover" 5 ["cover"] f_must_cover := ⟨_, ok_must_cover T C_must_spans F_must_cover, FunD.bindsN F_must_cover fun _ _ _ _ _ _ us hl => match us, hl with | [_], _ => rfl, F_must_cover.kp, He.glo_ok X G (c.fact 19 (f := .glo "must_cover") rfl)⟩
  have C_read_cover : CalF P w K mg base "read_cover" 6 ["text"] f_read_cover := ⟨_, ok_read_cover T C_read_span C_must_cover F_read_cover, FunD.bindsN F_read_cover fun _ _ _ _ _ _ us hl => match us, hl with | [_], _ => rfl, F_read_cover.kp, He.glo_ok X G (c.fact 20 (f := .glo "read_cover") rfl)⟩
  have C_show_span : CalF P w K mg base "show_span" 4 ["span"] f_show_span := ⟨_, ok_show_span T C_must_span F_show_span, FunD.bindsN F_show_span fun _ _ _ _ _ _ us hl => match us, hl with | [_], _ => rfl, F_show_span.kp, He.glo_ok X G (c.fact 21 (f := .glo "show_span") rfl)⟩
  have C_show_cover : CalF P w K mg base "show_cover" 6 ["cover"] f_show_cover := ⟨_, ok_show_cover T C_must_cover C_show_span F_show_cover, FunD.bindsN F_show_cover fun _ _ _ _ _ _ us hl => match us, hl with | [_], _ => rfl, F_show_cover.kp, He.glo_ok X G (c.fact 22 (f := .glo "show_cover") rfl)⟩
  have C_law_class : CalF P w K mg base "_law_class" 1 ["_law_caught"] f_law_class := ⟨_, ok_law_class T F_law_class, FunD.bindsN F_law_class fun _ _ _ _ _ _ us hl => match us, hl with | [_], _ => rfl, F_law_class.kp, He.glo_ok X G (c.fact 23 (f := .glo "_law_class") rfl)⟩
  have C_law_shown : CalF P w K mg base "_law_shown" 7 ["_law_thing", "_law_cover_here"] f_law_shown := ⟨_, ok_law_shown T C_show_cover C_show_span C_law_class F_law_shown, FunD.bindsN F_law_shown fun _ _ _ _ _ _ us hl => match us, hl with | [_, _], _ => rfl, F_law_shown.kp, He.glo_ok X G (c.fact 24 (f := .glo "_law_shown") rfl)⟩
  have C_law_whole : CalF P w K mg base "_law_whole" 1 ["_law_found"] f_law_whole := ⟨_, ok_law_whole T F_law_whole, FunD.bindsN F_law_whole fun _ _ _ _ _ _ us hl => match us, hl with | [_], _ => rfl, F_law_whole.kp, He.glo_ok X G (c.fact 25 (f := .glo "_law_whole") rfl)⟩
  have C_law_fine : CalF P w K mg base "_law_fine" 2 ["_law_found", "_law_span_here"] f_law_fine := ⟨_, ok_law_fine T C_law_whole F_law_fine, FunD.bindsN F_law_fine fun _ _ _ _ _ _ us hl => match us, hl with | [_, _], _ => rfl, F_law_fine.kp, He.glo_ok X G (c.fact 26 (f := .glo "_law_fine") rfl)⟩
  have C_law_bent : CalF P w K mg base "_law_bent" 3 ["_law_purse_here", "_law_cover_here"] f_law_bent_5 := ⟨_, ok_law_bent T C_law_draw F_law_bent, FunD.bindsN F_law_bent fun _ _ _ _ _ _ us hl => match us, hl with | [_, _], _ => rfl, F_law_bent.kp, He.glo_ok X G (c.fact 27 (f := .glo "_law_bent") rfl)⟩
  exact ok_law T C_law_purse C_law_span C_law_span_text C_law_shown C_law_fine C_read_span C_law_draw C_law_cover C_law_bent C_law_due C_read_cover F_law
end LW
open PySem PySem.W PySem.Calls PyProof.Rows
set_option maxRecDepth 100000 in
set_option maxHeartbeats 0 in
theorem PySem.Challenge.cw_spanshelf_k75_spans_and_covers_as_texts_holds : PySem.Challenge.rw_spanshelf_k75_spans_and_covers_as_texts.Holds := by
  w_on; o_law
  refine HandSHeadRun.head_any (r := OpenLaw.row PySem.Challenge.rw_spanshelf_k75_spans_and_covers_as_texts) (q := view (OpenLaw.row PySem.Challenge.rw_spanshelf_k75_spans_and_covers_as_texts).prog [50]) (H := LW.hk) (ob := LW.ob) (M := 40000) (loose := LW.loose) (d := HandSHeadRun.topDef (OpenLaw.row PySem.Challenge.rw_spanshelf_k75_spans_and_covers_as_texts).prog 50) (kwd := []) LW.ob_eq
    (by kernel_rfl) (fun s => by kernel_rfl) LW.run (by kernel_rfl) (by kernel_rfl) (by kernel_rfl) (by rfl) (by first | assumption | decide +kernel) (by decide +kernel) ⟨rfl, rfl, rfl, rfl, rfl, by decide +kernel⟩ ?hw ?hc
  case hw => w_witness2
  case hc =>
    refine L2.walk_ofE (l := PySem.Challenge.rw_spanshelf_k75_spans_and_covers_as_texts) (n := 63) (k := 8) (x := "_law_script") (CX := L2.CX0) rfl (by decide) (by kernel_rfl) ⟨rfl, by decide, by decide⟩ ?F (fun _ _ _ _ z => z)
    intro w mg fa h Y G hmg0
    obtain ⟨K, KX, c, hx⟩ := Y
    have hmg : mg ("law" : PySem.Str) = some (.ref fa) := by
      have e : (HandSHeadRun.topDef (OpenLaw.row PySem.Challenge.rw_spanshelf_k75_spans_and_covers_as_texts).prog 50).name = ("law" : PySem.Str) := by kernel_rfl
      rw [← e]
      exact hmg0
    obtain ⟨fd, hb, hF⟩ := LW.facts (P := (PySem.Challenge.rw_spanshelf_k75_spans_and_covers_as_texts).prog) (w := w) KX G hmg c (DL.xsB_ok hx)
    refine ⟨K, fd, DL.spF K DL.f_law_k75, KX, hb, fun H a ns hl _ hS => ?_, hF⟩
    obtain ⟨m', hm⟩ := DL.law_true ns hl
    exact DL.law_startF hS hm
