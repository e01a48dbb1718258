import PyProof.Rows.All
import Wide.All
import OpenK.AllK
import Wide.FinOn
import HandS.ForMost
import HandS.ForExc
import HandS.ExcValue
import HandS.ExcIs
import HandS.IsInst
import HandS.Evl
import HandS.HeadHook1
import HandS.Flt
import HandS.Wide
import HandS.WideBits
import HandS.Defaults
import HandS.Style
import HandS.TupLe
import HandS.HeadEnd
import HandS.HeadHook2
import HandS.Head0
import HandS.Head1
import HandS.Head2
import HandS.SortInts
import HandS.SortRule
import HandS.SetFor
import HandS.Conv
import HandS.Sort
import HandS.NoneIn
import HandS.More
import KE.DataFind
import HandS.Dict
import HandS.Text
import HandS.WordsDict
import HandS.Iter
import HandS.ListEq
import PyProof.DictCopy
import PyProof.DictUpdate
import HandS.Replace
import PyProof.NeKinds
import KE.KSortTupAny
import HandS.Deep
import HandS.TryOnly
import PySem.Challenge.RW_spanshelf_k70_clashes
set_option Elab.async false
set_option linter.all false
set_option maxRecDepth 100000
set_option maxHeartbeats 4000000
/-! Errors kept as values: an error that a clause has caught is put by a name and stays tracked; it may be asked for its class later. -/
namespace DL
open PySem PySem.Spec PyProof.Rows L2
/-- an exception object of the class cls at a (it may have been raised) -/
def ExV (cls : Value) (a : Addr) : HO := .ext fun h => ∃ (oe : Obj) (vs : Array Value), h.get? a = some oe ∧ Zc cls none oe ∧ oe.data = .fields vs
/-- an object that nobody tracked, younger than the entry, is tracked from now on -/
theorem inv_track {X : Cx} {pins : List (Addr × Obj)} {σ : L2.St} {H : Hp} {s : Shared} {a : Addr} {oe : Obj} {o : HO} (I : Inv X pins σ H s) (ha : s.heap.get? a = some oe) (na : H a = none) (nL : a ≠ X.env.locals)
    (nC : ∀ x c, X.env.cells.lookup x = some c → c ≠ a) (n0 : X.s_0.heap.get? a = none) (np : ∀ p ∈ X.pn ++ pins, p.1 ≠ a) (new : ObjOk X.prog X.w (upd H a o) s.heap a o) : Inv X pins σ (upd H a o) s := by
  have young : ∀ b u, X.s_0.heap.get? b = some u → b ≠ a := fun b u e z => by rw [z, n0] at e; cases e
  have same : ∀ b u, H b = some u → upd H a o b = some u := fun b u e => by rw [upd_ne (ne_of_none e na)]; exact e
  refine ⟨I.ok, I.os, I.bare, ⟨I.base.keep, I.base.slot, ?_, I.base.there, fun b xs e => same _ _ (I.base.tups b xs e), fun b u w e => same _ _ (I.base.frzs b u w e), ?_⟩, I.loc, I.cell, ?_, ?_, ?_, ?_, I.len⟩
  · intro b u e n hx
    rw [upd_ne (young b u e)]
    exact I.base.free b u e n hx
  · intro b ps e
    obtain ⟨more, q⟩ := I.base.tbls b ps e
    exact ⟨more, same _ _ q⟩
  · rw [upd_ne (Ne.symm nL)]
    exact I.free
  · intro x c e
    rw [upd_ne (nC x c e)]
    exact I.freeC x c e
  · intro p hp
    have q := I.pin p hp
    exact ⟨q.1, by rw [upd_ne (np p hp)]; exact q.2.1, q.2.2⟩
  · intro b u e
    by_cases hb : b = a
    · subst hb
      rw [upd_same] at e
      cases e
      exact new
    · rw [upd_ne hb] at e
      exact (I.hok b u e).stay (fun _ _ _ q => q) (fun c q => same _ _ q) fun c xs q => same _ _ q
/-- what a clause that keeps the error wishes: i the clause's name, j the name that holds it behind -/
def wKeep (K : PySem.W.Frag) (c : Value) (i j : Nat) (D : Ends) : WX := fun cls d σ H =>
  PySem.W.exmOne K cls c = some true ∧ d = none ∧ ∀ a, H a = none → D.nx (((σ.set i (some (.ref a))).set j (some (.ref a))).set i none) (upd H a (ExV cls a))
section
variable {X : Cx} {x n : Str} {c : Value} {i j : Nat} {body : List Stmt} {sj : Stmt} {p1 p2 p3 : Pos} {tb : WX → TS}
theorem ps_try_keep (hst : X.stack = X.env :: X.outer) (hfm : X.env.frame = some X.env.locals) (hex : X.ex = []) (nd : X.N.Nodup) (hi : X.N[i]? = some n) (hk : X.env.kindOf n = some .local) (hcl : Names X x c)
    (hB : ∀ (W : WX) (pn : List (Addr × Obj)) (xe : Value → Shared → Prop), Takes (X.tr pn xe) W → PassesOwn (model X.prog X.w) X.A X.env xe → PSs (X.tr pn xe) body (tb W))
    (hS : ∀ (a : Addr) (oe : Obj) (pn : List (Addr × Obj)), PSs (X.suite a ((a, oe) :: pn)) [sj] (tAsg (tVar i) (gName j))) :
    PS X (.Try body [.ExceptHandler (some (.Name x p1)) (some n) [sj] p2] [] [] p3) (fun D σ H => tb (wKeep X.K c i j D) D σ H) := by
  refine ⟨fun pins s σ H D I0 wish => wpAny_Try_except ?_⟩
  have okX := I0.ok
  have frs0 : X.A.frames = some (X.env :: X.outer) := okX.frames.trans (congrArg some hst)
  let catching : Value → Shared → Prop := fun e s1 => wpAny (model X.prog X.w) X.A (noteFrame e X.env) (fun _ s2 => wpAny (model X.prog X.w) X.A (setFlight e none) (fun _ s3 =>
    wpAny (model X.prog X.w) X.A (handleBy e X.env [.ExceptHandler (some (.Name x p1)) (some n) [sj] p2]) (SP X pins D) X.xe s3) X.xe s2) X.xe s1
  have caught : Takes (X.tr (X.pn ++ pins) catching) (wKeep X.K c i j D) := by
    rintro u sA ⟨a, B, sI, _, τ, G, cls, d, rfl, I1, ground, upS, sky, freeA, osE, gensE, isC, rfl, go⟩
    have I2 : Inv X pins τ G sI := I1.ofTry okX
    show catching (.ref a) sA
    refine Sky.land Zc.steady frs0 hfm (hst ▸ sky) fun hp3 fly3 up3 => ?_
    obtain ⟨o3, v3, get3, z3, data3⟩ := fly3.there
    have offFrames : a ∉ frs (X.env :: X.outer) := fun hm => by
      obtain ⟨_, o', e', nf⟩ := fly3.2.2.1.mem hm
      rw [get3] at e'
      cases e'
      exact nf _ data3
    have offL : a ≠ X.env.locals := fun z => offFrames (List.mem_filterMap.mpr ⟨X.env, List.mem_cons_self, hfm.trans (congrArg some z.symm)⟩)
    have offF : a ∉ X.fs := fun hm => by
      obtain ⟨e, he, q⟩ := List.mem_filterMap.mp hm
      exact offFrames (List.mem_filterMap.mpr ⟨e, .tail _ he, q⟩)
    have gone1 : sI.heap.get? a = none := by
      cases q : sI.heap.get? a with
      | none => rfl
      | some o =>
        have z := ground a o q (hst ▸ offFrames)
        rw [fly3.2.1] at z
        cases z
    have gone0 : X.s_0.heap.get? a = none := by
      cases q : X.s_0.heap.get? a with
      | none => rfl
      | some o =>
        obtain ⟨_, z⟩ := I2.base.there a o q (by rw [hex]; exact fun y => nomatch y)
        rw [gone1] at z
        cases z
    have I3 : Inv X pins τ G { sA with heap := hp3 } := I2.landed ground fly3.1 (upS.trans up3) osE gensE
    have C3 := I3.suite get3 data3 freeA offL offF
    refine wpAny_handleBy_cons (codeAny_handlers_test ?_) (fun q => nomatch q)
    have looks := PySem.W.exm_one (M := model X.prog X.w) I3.kIn (fun _ _ _ _ k q => wpAny_typeOf_ref (k _ _ get3) (z3.1.symm ▸ q)) isC
    have named : ∀ {Q : Value → Shared → Prop} {E : Value → Shared → Prop}, Q c { sA with heap := hp3 } → wpAny (model X.prog X.w) (X.A.mark (some (.ref a))) (eval (.Name x p1) X.env) Q E { sA with heap := hp3 } := by
      intro Q E q
      rcases hcl with ⟨g1, g2, g3 | ⟨g3, g4, g5⟩⟩
      · exact ld_glob (X := X.suite a ((a, o3) :: (X.pn ++ pins))) C3 g1 g3 q g2
      · exact ld_blt (X := X.suite a ((a, o3) :: (X.pn ++ pins))) C3 g1 g3 g4 q g5 g2
    refine named (looks.here (codeAny_handlers_suite_as (HandSPX.lands_againZ fly3 fun hp4 fly4 up4 => ?_)))
    obtain ⟨o4, v4, get4, z4, data4⟩ := fly4.there
    have C4 := (I2.landed (s' := { sA with heap := hp4 }) ground fly4.1 ((upS.trans up3).trans up4) osE gensE).suite get4 data4 freeA offL offF
    refine store_ok (X := X.suite a ((a, o4) :: (X.pn ++ pins))) (v := .ref a) C4 nd hi (.inl hk) rfl (fun s5 C5 => ?_) (.inr hk)
    have hlt : i < τ.length := by rw [I2.len]; exact (List.getElem?_eq_some_iff.mp hi).1
    refine wpAny_mono ((hS a o4 (X.pn ++ pins)).run [] s5 _ G { nx := fun σ6 H6 => H6 = G ∧ σ6 = (τ.set i (some (.ref a))).set j (some (.ref a)), rt := fun _ _ => False } C5 ⟨.ref a, List.getElem?_set_self hlt, rfl, rfl⟩) ?_ (fun _ _ z => z.elim)
    rintro (_ | _ | _ | _) s6 fin
    case next =>
      obtain ⟨_, _, C6, rfl, rfl⟩ := fin
      refine gone_ok (X := X.suite a ((a, o4) :: (X.pn ++ pins))) C6 nd hi hk fun s7 C7 => ?_
      obtain ⟨get7, free7, _, _, notCell⟩ := C7.pin (a, o4) (List.mem_append_left _ (.head _))
      have I7 : Inv X pins _ _ s7 := C7.unsuite okX
      refine ⟨_, _, inv_track (a := a) (o := ExV cls a) I7 get7 free7 offL (fun y cc e z => ?_) gone0 (fun p hp z => ?_) ⟨⟨o4, v4, get7, z4, data4⟩, ⟨o4, get7⟩, fun _ _ ⟨o, v, q, r⟩ k => ⟨o, v, k o q, r⟩⟩, go a freeA⟩
      · obtain ⟨v, o, ho, hd⟩ := I7.cell y cc e
        rw [z, get7] at ho
        cases ho
        exact notCell v hd
      · have q := (I2.pin p hp).1
        rw [z, gone1] at q
        cases q
    all_goals
      first
        | (obtain ⟨_, _, _, z⟩ := fin; exact z.elim)
        | (obtain ⟨_, _, _, _, _, z⟩ := fin; exact z.elim)
  refine wpAny_mono ((hB _ _ catching caught PassesOwn.looking).run [] s σ H D (I0.toTry _) wish) ?_ (fun _ _ z => z)
  rintro (_ | _ | _ | _) s1 fin
  case next =>
    obtain ⟨σ1, H1, J1, q⟩ := fin
    exact wpAny_execs_nil ⟨σ1, H1, J1.ofTry okX, q⟩
  all_goals
    first
      | (obtain ⟨σ1, H1, J1, q⟩ := fin; exact ⟨σ1, H1, J1.ofTry okX, q⟩)
      | (obtain ⟨v1, σ1, H1, J1, rv, q⟩ := fin; exact ⟨v1, σ1, H1, J1.ofTry okX, rv, q⟩)
end
end DL
/-! The data layer: what readings make of plain data (D) and of cells (mutable lists, instances, dicts by number), heaps hidden. -/
namespace DL
open PySem PySem.Spec PyProof.Rows L2

inductive D where
  | non | bl (b : Bool) | int (i : Int) | str (x : Str) | lst (xs : List D) | tup (xs : List D) | cell (k : Nat) | scr (ns : List Int) | exc (x : Str)

inductive Cell where
  | lst (xs : List D)
  | ins (C : Str) (fs : List (Str × D))
  | dK (kvs : List (Key × D))
  | gone
  | fz (kvs : List (Key × D))
abbrev Store := List Cell
abbrev En := List (Option D)

def Cell.on : Cell → Bool
  | .gone => false
  | .fz _ => false
  | _ => true
def live (m : Store) (k : Nat) : Prop := ∃ c, m[k]? = some c ∧ c.on = true

mutual
inductive Rep (K : PySem.W.Frag) (r : List Addr) (F : Hp) : V → D → Prop
  | non : Rep K r F .non .non
  | bl (b : Bool) : Rep K r F (.bl b) (.bl b)
  | int (i : Int) : Rep K r F (.int i) (.int i)
  | str (x : Str) : Rep K r F (.str x) (.str x)
  | lst {a : Addr} {xs : List V} {ds : List D} : F a = some (.lst xs) → RepAll K r F xs ds → Rep K r F (.ref a) (.lst ds)
  | tup {a : Addr} {xs : List V} {ds : List D} : F a = some (.tup xs) → RepAll K r F xs ds → Rep K r F (.ref a) (.tup ds)
  | cell {k : Nat} {a : Addr} : r[k]? = some a → Rep K r F (.ref a) (.cell k)
  | scr {a : Addr} {ns : List Int} : SqL K F a (ns.map V.int) → Rep K r F (.ref a) (.scr ns)
  | exc {a : Addr} {x : Str} : (F a = some (ExV (.ref (He.ga K x)) a) ∨ F a = some (ExO (.ref (He.ga K x)) a)) → Rep K r F (.ref a) (.exc x)
inductive RepAll (K : PySem.W.Frag) (r : List Addr) (F : Hp) : List V → List D → Prop
  | nil : RepAll K r F [] []
  | cons {v : V} {vs : List V} {d : D} {ds : List D} : Rep K r F v d → RepAll K r F vs ds → RepAll K r F (v :: vs) (d :: ds)
end

theorem sqT_same {K : PySem.W.Frag} {H H' : Hp} {a : Addr} {xs : List V} (e : Same H H') (h : SqT K H a xs) : SqT K H' a xs := by
  rcases h with (h | ⟨o, h⟩) | h
  · exact .inl (.inl (e _ _ h))
  · exact .inl (.inr ⟨o, e _ _ h⟩)
  · exact .inr h

def Pre (r r' : List Addr) : Prop := ∀ (k : Nat) a, r[k]? = some a → r'[k]? = some a
theorem Pre.refl (r : List Addr) : Pre r r := fun _ _ h => h
theorem Pre.trans {a b c : List Addr} (x : Pre a b) (y : Pre b c) : Pre a c := fun k z h => y k z (x k z h)
theorem Pre.app (r m : List Addr) : Pre r (r ++ m) := fun k a h => by
  have hk : k < r.length := (List.getElem?_eq_some_iff.mp h).1
  rw [List.getElem?_append_left hk]; exact h

section
variable {K : PySem.W.Frag} {r r' : List Addr} {F F' : Hp}
mutual
theorem Rep.mono (p : Pre r r') (e : Same F F') : ∀ {v : V} {d : D}, Rep K r F v d → Rep K r' F' v d
  | _, _, .non => .non
  | _, _, .bl b => .bl b
  | _, _, .int i => .int i
  | _, _, .str x => .str x
  | _, _, .lst s h => .lst (e _ _ s) (RepAll.mono p e h)
  | _, _, .tup s h => .tup (e _ _ s) (RepAll.mono p e h)
  | _, _, .cell h => .cell (p _ _ h)
  | _, _, .scr h => .scr (e.seq h)
  | _, _, .exc h => .exc (h.imp (e _ _) (e _ _))
theorem RepAll.mono (p : Pre r r') (e : Same F F') : ∀ {vs : List V} {ds : List D}, RepAll K r F vs ds → RepAll K r' F' vs ds
  | _, _, .nil => .nil
  | _, _, .cons h t => .cons (Rep.mono p e h) (RepAll.mono p e t)
end
end

mutual
/-- no cell stands in it -/
def D.pure : D → Bool
  | .lst xs => D.pures xs
  | .tup xs => D.pures xs
  | .cell _ => false
  | .exc _ => false
  | _ => true
def D.pures : List D → Bool
  | [] => true
  | d :: ds => D.pure d && D.pures ds
end
theorem pures_map {α : Type} {f : α → D} (h : ∀ x, (f x).pure = true) : ∀ xs : List α, D.pures (xs.map f) = true
  | [] => rfl
  | x :: xs => by
    show ((f x).pure && D.pures (xs.map f)) = true
    rw [h x, pures_map h xs]; rfl
section
variable {K : PySem.W.Frag} {r r' : List Addr} {F : Hp}
mutual
theorem Rep.pure : ∀ {v : V} {d : D}, d.pure = true → Rep K r F v d → Rep K r' F v d
  | _, _, _, .non => .non
  | _, _, _, .bl b => .bl b
  | _, _, _, .int i => .int i
  | _, _, _, .str x => .str x
  | _, _, p, .lst s h => .lst s (RepAll.pure p h)
  | _, _, p, .tup s h => .tup s (RepAll.pure p h)
  | _, _, p, .cell h => nomatch p
  | _, _, _, .scr h => .scr h
  | _, _, p, .exc h => nomatch p
theorem RepAll.pure : ∀ {vs : List V} {ds : List D}, D.pures ds = true → RepAll K r F vs ds → RepAll K r' F vs ds
  | _, _, _, .nil => .nil
  | _, _, p, .cons h t =>
    have q : (D.pure _ && D.pures _) = true := p
    .cons (Rep.pure (Bool.and_eq_true_iff.mp q).1 h) (RepAll.pure (Bool.and_eq_true_iff.mp q).2 t)
end
end

section
variable {K : PySem.W.Frag} {r : List Addr} {F : Hp}
theorem RepAll.len : ∀ {vs : List V} {ds : List D}, RepAll K r F vs ds → vs.length = ds.length
  | _, _, .nil => rfl
  | _, _, .cons _ t => congrArg Nat.succ t.len
theorem RepAll.get : ∀ {vs : List V} {ds : List D} {i : Nat} {d : D}, RepAll K r F vs ds → ds[i]? = some d → ∃ v, vs[i]? = some v ∧ Rep K r F v d
  | _, _, _, _, .nil, e => by simp at e
  | _, _, 0, _, .cons h _, e => by simp at e; subst e; exact ⟨_, rfl, h⟩
  | _, _, i + 1, d, .cons _ t, e => by
    obtain ⟨u, h1, h2⟩ := RepAll.get (i := i) (d := d) t (by simpa using e)
    exact ⟨u, by simpa using h1, h2⟩
theorem RepAll.getV : ∀ {vs : List V} {ds : List D} {i : Nat} {v : V}, RepAll K r F vs ds → vs[i]? = some v → ∃ d, ds[i]? = some d ∧ Rep K r F v d
  | _, _, _, _, .nil, e => by simp at e
  | _, _, 0, _, .cons h _, e => by simp at e; subst e; exact ⟨_, rfl, h⟩
  | _, _, i + 1, d, .cons _ t, e => by
    obtain ⟨u, h1, h2⟩ := RepAll.getV (i := i) (v := d) t (by simpa using e)
    exact ⟨u, by simpa using h1, h2⟩
theorem RepAll.app : ∀ {vs ws : List V} {ds es : List D}, RepAll K r F vs ds → RepAll K r F ws es → RepAll K r F (vs ++ ws) (ds ++ es)
  | _, _, _, _, .nil, h => h
  | _, _, _, _, .cons h t, h' => .cons h (t.app h')
theorem RepAll.one {v : V} {d : D} (h : Rep K r F v d) : RepAll K r F [v] [d] := .cons h .nil
theorem RepAll.set {v : V} {d : D} (h : Rep K r F v d) : ∀ {vs : List V} {ds : List D} (i : Nat), RepAll K r F vs ds → RepAll K r F (vs.set i v) (ds.set i d)
  | _, _, _, .nil => .nil
  | _, _, 0, .cons _ t => .cons h t
  | _, _, i + 1, .cons q t => .cons q (RepAll.set h i t)
theorem RepAll.take : ∀ {vs : List V} {ds : List D} (n : Nat), RepAll K r F vs ds → RepAll K r F (vs.take n) (ds.take n)
  | _, _, 0, _ => .nil
  | _, _, _ + 1, .nil => .nil
  | _, _, n + 1, .cons h t => .cons h (RepAll.take n t)
theorem RepAll.drop : ∀ {vs : List V} {ds : List D} (n : Nat), RepAll K r F vs ds → RepAll K r F (vs.drop n) (ds.drop n)
  | _, _, 0, h => h
  | _, _, _ + 1, .nil => .nil
  | _, _, n + 1, .cons _ t => RepAll.drop n t
theorem RepAll.rev : ∀ {vs : List V} {ds : List D}, RepAll K r F vs ds → RepAll K r F vs.reverse ds.reverse
  | _, _, .nil => .nil
  | _, _, .cons h t => by rw [List.reverse_cons, List.reverse_cons]; exact (RepAll.rev t).app (.one h)
theorem RepAll.rep {v : V} {d : D} (h : Rep K r F v d) : ∀ n : Nat, RepAll K r F (List.replicate n v) (List.replicate n d)
  | 0 => .nil
  | n + 1 => .cons h (RepAll.rep h n)
theorem RepAll.ints : ∀ {vs : List V} {ns : List Int}, RepAll K r F vs (ns.map D.int) → vs = ns.map V.int
  | _, [], .nil => rfl
  | _, _ :: _, .cons h t => by cases h; rw [RepAll.ints t]; rfl
theorem RepAll.ofInts : ∀ (ns : List Int), RepAll K r F (ns.map V.int) (ns.map D.int)
  | [] => .nil
  | n :: ns => .cons (.int n) (RepAll.ofInts ns)
theorem RepAll.bls : ∀ {vs : List V} {ns : List Bool}, RepAll K r F vs (ns.map D.bl) → vs = ns.map V.bl
  | _, [], .nil => rfl
  | _, _ :: _, .cons h t => by cases h; rw [RepAll.bls t]; rfl
end

/-! ### the heap -/
def RepF (K : PySem.W.Frag) (r : List Addr) (F : Hp) : List (Str × V) → List (Str × D) → Prop
  | [], [] => True
  | (x, v) :: gs, (y, d) :: fs => x = y ∧ Rep K r F v d ∧ RepF K r F gs fs
  | _, _ => False
def RepK (K : PySem.W.Frag) (r : List Addr) (F : Hp) : List (Key × V) → List (Key × D) → Prop
  | [], [] => True
  | (x, v) :: gs, (y, d) :: fs => x = y ∧ Rep K r F v d ∧ RepK K r F gs fs
  | _, _ => False
section
variable {K : PySem.W.Frag} {r r' : List Addr} {F F' : Hp}
theorem RepF.mono (p : Pre r r') (e : Same F F') : ∀ {gs : List (Str × V)} {fs : List (Str × D)}, RepF K r F gs fs → RepF K r' F' gs fs
  | [], [], _ => trivial
  | (x, v) :: gs, (y, d) :: fs, h => ⟨h.1, h.2.1.mono p e, RepF.mono p e h.2.2⟩
  | [], _ :: _, h => h.elim
  | _ :: _, [], h => h.elim
theorem RepK.mono (p : Pre r r') (e : Same F F') : ∀ {gs : List (Key × V)} {fs : List (Key × D)}, RepK K r F gs fs → RepK K r' F' gs fs
  | [], [], _ => trivial
  | (x, v) :: gs, (y, d) :: fs, h => ⟨h.1, h.2.1.mono p e, RepK.mono p e h.2.2⟩
  | [], _ :: _, h => h.elim
  | _ :: _, [], h => h.elim
end

def CellOk (K : PySem.W.Frag) (r : List Addr) (F H : Hp) (a : Addr) : Cell → Prop
  | .lst xs => ∃ vs, H a = some (.lst vs) ∧ RepAll K r F vs xs
  | .ins C fs => ∃ dx gs, H a = some (.ins (He.ga K C) dx gs) ∧ H dx = some (.own a) ∧ RepF K r F gs fs
  | .dK kvs => ∃ gs, H a = some (.dK gs) ∧ RepK K r F gs kvs
  | .gone => True
  | .fz _ => False

structure HR (K : PySem.W.Frag) (r : List Addr) (F H : Hp) (m : Store) : Prop where
  len : r.length = m.length
  sub : Same F H
  cell : ∀ (k : Nat) a c, r[k]? = some a → m[k]? = some c → c.on = true → F a = none ∧ CellOk K r F H a c
  inj : ∀ (k l : Nat) a, r[k]? = some a → r[l]? = some a → live m k → live m l → k = l
  fz : ∀ (k : Nat) a kvs, r[k]? = some a → m[k]? = some (.fz kvs) → ∃ od gs, F a = some (.frz od (.dK gs)) ∧ RepK K r F gs kvs
  fzi : ∀ (k l : Nat) a x y, r[k]? = some a → r[l]? = some a → m[k]? = some (.fz x) → m[l]? = some (.fz y) → k = l

structure Ext (r : List Addr) (F H : Hp) (m : Store) (r' : List Addr) (F' H' : Hp) (m' : Store) : Prop where
  pre : Pre r r'
  sub : Same F F'
  keep : ∀ a o, H a = some o → (∀ (k : Nat), live m k → r[k]? ≠ some a) → H' a = some o
  new : ∀ a, F a = none → F' a ≠ none → H a = none ∨ ∃ k : Nat, live m k ∧ r[k]? = some a
  fresh : ∀ (k : Nat) a, m.length ≤ k → r'[k]? = some a → H a = none
  dead : ∀ k : Nat, k < m.length → live m' k → live m k
  mlen : m.length ≤ m'.length
  trk : ∀ a o, H a = some o → ∃ o', H' a = some o'

theorem live_lt {m : Store} {k : Nat} (h : live m k) : k < m.length := by
  obtain ⟨c, h, _⟩ := h
  exact (List.getElem?_eq_some_iff.mp h).1

section
variable {K : PySem.W.Frag} {r r1 r2 : List Addr} {F H F1 H1 F2 H2 : Hp} {m m1 m2 : Store}
theorem HR.at_some (h : HR K r F H m) {k : Nat} {a : Addr} (l : live m k) (e : r[k]? = some a) : ∃ o, H a = some o := by
  obtain ⟨c, hc, ng⟩ := l
  have q := (h.cell k a c e hc ng).2
  cases c with
  | lst xs => obtain ⟨vs, q, _⟩ := q; exact ⟨_, q⟩
  | ins C fs => obtain ⟨_, _, q, _⟩ := q; exact ⟨_, q⟩
  | dK kvs => obtain ⟨_, q, _⟩ := q; exact ⟨_, q⟩
  | gone => cases ng
  | fz _ => cases ng
theorem Ext.refl (h : HR K r F H m) : Ext r F H m r F H m where
  pre := Pre.refl r
  sub := Same.refl F
  keep := fun _ _ e _ => e
  new := fun _ n e => absurd n e
  fresh := fun k a hk e => by
    have := (List.getElem?_eq_some_iff.mp e).1
    rw [h.len] at this
    exact absurd this (Nat.not_lt.mpr hk)
  dead := fun _ _ l => l
  mlen := Nat.le_refl _
  trk := fun _ o e => ⟨o, e⟩
theorem Ext.trans (hl : r1.length = m1.length) (hl0 : r.length = m.length) (x : Ext r F H m r1 F1 H1 m1) (y : Ext r1 F1 H1 m1 r2 F2 H2 m2) : Ext r F H m r2 F2 H2 m2 := by
  have back : ∀ a o, H a = some o → (∀ (k : Nat), live m k → r[k]? ≠ some a) → ∀ (k : Nat), live m1 k → r1[k]? ≠ some a := fun a o e n k l q => by
    by_cases hk : k < m.length
    · have l0 := x.dead k hk l
      have hr : k < r.length := by rw [hl0]; exact hk
      have e1 : r[k]? = some r[k] := List.getElem?_eq_getElem hr
      have e2 := x.pre k _ e1
      rw [q] at e2
      exact n k l0 (by rw [e1, ← e2])
    · have := x.fresh k a (Nat.not_lt.mp hk) q
      rw [e] at this; cases this
  refine ⟨x.pre.trans y.pre, x.sub.trans y.sub, fun a o e n => y.keep a o (x.keep a o e n) (back a o e n), fun a n e => ?_, fun k a hk e => ?_, fun k hk l => x.dead k hk (y.dead k (Nat.lt_of_lt_of_le hk x.mlen) l), Nat.le_trans x.mlen y.mlen, fun a o e => let ⟨o1, e1⟩ := x.trk a o e; y.trk a o1 e1⟩
  · cases q : F1 a with
    | some o => exact x.new a n (by rw [q]; exact fun z => nomatch z)
    | none =>
      rcases y.new a q e with z | ⟨k, l, z⟩
      · cases w : H a with
        | none => exact .inl rfl
        | some o =>
          by_cases hn : ∀ (k : Nat), live m k → r[k]? ≠ some a
          · rw [x.keep a o w hn] at z; cases z
          · refine .inr ?_
            have ⟨k, hk⟩ := Classical.not_forall.mp hn
            have ⟨l, hk⟩ := Classical.not_imp.mp hk
            exact ⟨k, l, Classical.not_not.mp hk⟩
      · by_cases hk : k < m.length
        · have l0 := x.dead k hk l
          have hr : k < r.length := by rw [hl0]; exact hk
          have e1 : r[k]? = some r[k] := List.getElem?_eq_getElem hr
          have e2 := x.pre k _ e1
          rw [z] at e2
          exact .inr ⟨k, l0, by rw [e1, ← e2]⟩
        · exact .inl (x.fresh k a (Nat.not_lt.mp hk) z)
  · by_cases hk1 : m1.length ≤ k
    · have := y.fresh k a hk1 e
      cases w : H a with
      | none => rfl
      | some o =>
        obtain ⟨o1, e1⟩ := x.trk a o w
        rw [e1] at this; cases this
    · have hr : k < r1.length := by rw [hl]; omega
      have e1 : r1[k]? = some r1[k] := List.getElem?_eq_getElem hr
      have e2 := y.pre k _ e1
      rw [e] at e2
      exact x.fresh k a hk (by rw [e1, ← e2])
end
end DL
namespace DL
open PySem PySem.Spec PyProof.Rows L2

section
variable {K : PySem.W.Frag} {r r' : List Addr} {F F' H H' : Hp} {m m' : Store}
theorem CellOk.mono (p : Pre r r') (e : Same F F') {a : Addr} : ∀ {c : Cell}, CellOk K r F H a c → CellOk K r' F' H a c
  | .lst xs, ⟨vs, h, q⟩ => ⟨vs, h, q.mono p e⟩
  | .ins C fs, ⟨dx, gs, h, h2, q⟩ => ⟨dx, gs, h, h2, q.mono p e⟩
  | .dK kvs, ⟨gs, h, q⟩ => ⟨gs, h, q.mono p e⟩
  | .gone, _ => trivial
  | .fz _, h => h.elim
/-- the heap around the cell's own object may change -/
theorem CellOk.heap {a : Addr} (k : ∀ b o, H b = some o → (b = a ∨ o = .own a) → H' b = some o) : ∀ {c : Cell}, CellOk K r F H a c → CellOk K r F H' a c
  | .lst xs, ⟨vs, h, q⟩ => ⟨vs, k _ _ h (.inl rfl), q⟩
  | .ins C fs, ⟨dx, gs, h, h2, q⟩ => ⟨dx, gs, k _ _ h (.inl rfl), k _ _ h2 (.inr rfl), q⟩
  | .dK kvs, ⟨gs, h, q⟩ => ⟨gs, k _ _ h (.inl rfl), q⟩
  | .gone, _ => trivial
  | .fz _, h => h.elim

theorem HR.ne_new (h : HR K r F H m) {p : Addr} (hp : H p = none) {k : Nat} {a : Addr} (l : live m k) (e : r[k]? = some a) : a ≠ p := by
  obtain ⟨o, q⟩ := h.at_some l e
  exact ne_of_none q hp
/-- new data at a new place -/
theorem HR.laid (h : HR K r F H m) {p : Addr} {o : HO} (hp : H p = none) : HR K r (upd F p o) (upd H p o) m := by
  have fp : F p = none := h.sub.free hp
  have s1 : Same F (upd F p o) := fun b u e => by rw [upd_ne (ne_of_none e fp)]; exact e
  refine ⟨h.len, fun b u e => ?_, fun k a c e1 e2 ng => ?_, h.inj, fun k a kvs e1 e2 => let ⟨od, gs, q1, q2⟩ := h.fz k a kvs e1 e2; ⟨od, gs, s1 _ _ q1, q2.mono (Pre.refl r) s1⟩, h.fzi⟩
  · by_cases hb : b = p
    · subst hb; rw [upd_same] at e ⊢; exact e
    · rw [upd_ne hb] at e ⊢; exact h.sub b u e
  · have ne : a ≠ p := h.ne_new hp ⟨c, e2, ng⟩ e1
    obtain ⟨q1, q2⟩ := h.cell k a c e1 e2 ng
    refine ⟨by rw [upd_ne ne]; exact q1, (q2.mono (Pre.refl r) s1).heap fun b o' hb _ => ?_⟩
    rw [upd_ne (ne_of_none hb hp)]; exact hb
theorem Ext.laid (h : HR K r F H m) {p : Addr} {o : HO} (hp : H p = none) : Ext r F H m r (upd F p o) (upd H p o) m where
  pre := Pre.refl r
  sub := fun b u e => by rw [upd_ne (ne_of_none e (h.sub.free hp))]; exact e
  keep := fun a u e _ => by rw [upd_ne (ne_of_none e hp)]; exact e
  new := fun a n e => by
    by_cases ha : a = p
    · subst ha; exact .inl hp
    · rw [upd_ne ha] at e; exact absurd n e
  fresh := fun k a hk e => (Ext.refl h).fresh k a hk e
  dead := fun _ _ l => l
  mlen := Nat.le_refl _
  trk := fun a u e => ⟨u, by rw [upd_ne (ne_of_none e hp)]; exact e⟩
/-- a new place that is tracked, neither data nor cell -/
theorem HR.side (h : HR K r F H m) {p : Addr} {o : HO} (hp : H p = none) : HR K r F (upd H p o) m := by
  refine ⟨h.len, fun b u e => ?_, fun k a c e1 e2 ng => ?_, h.inj, h.fz, h.fzi⟩
  · rw [upd_ne (ne_of_none (h.sub b u e) hp)]; exact h.sub b u e
  · obtain ⟨q1, q2⟩ := h.cell k a c e1 e2 ng
    exact ⟨q1, q2.heap fun b o' hb _ => by rw [upd_ne (ne_of_none hb hp)]; exact hb⟩
theorem Ext.side (h : HR K r F H m) {p : Addr} {o : HO} (hp : H p = none) : Ext r F H m r F (upd H p o) m where
  pre := Pre.refl r
  sub := Same.refl F
  keep := fun a u e _ => by rw [upd_ne (ne_of_none e hp)]; exact e
  new := fun a n e => absurd n e
  fresh := fun k a hk e => (Ext.refl h).fresh k a hk e
  dead := fun _ _ l => l
  mlen := Nat.le_refl _
  trk := fun a u e => ⟨u, by rw [upd_ne (ne_of_none e hp)]; exact e⟩
/-- a side place (neither data nor cell) changes -/
theorem HR.sideSet (h : HR K r F H m) {p : Addr} {o : HO} (fp : F p = none) (np : ∀ (k : Nat), live m k → r[k]? ≠ some p) (no : ∀ b, H p ≠ some (.own b)) : HR K r F (upd H p o) m := by
  refine ⟨h.len, fun b u e => ?_, fun k a c e1 e2 ng => ?_, h.inj, h.fz, h.fzi⟩
  · rw [upd_ne (ne_of_none e fp)]; exact h.sub b u e
  · obtain ⟨q1, q2⟩ := h.cell k a c e1 e2 ng
    have na : a ≠ p := fun z => np k ⟨c, e2, ng⟩ (by rw [e1, z])
    refine ⟨q1, q2.heap fun b o' hb w => ?_⟩
    have : b ≠ p := by
      rintro rfl
      rcases w with w | w
      · exact na w.symm
      · subst w; exact no _ hb
    rw [upd_ne this]; exact hb
/-- what stands apart becomes data -/
theorem HR.freeze (h : HR K r F H m) {p : Addr} {o : HO} (fp : F p = none) (np : ∀ (k : Nat), live m k → r[k]? ≠ some p) (hp : H p = some o) : HR K r (upd F p o) H m := by
  have s1 : Same F (upd F p o) := fun b u e => by rw [upd_ne (ne_of_none e fp)]; exact e
  refine ⟨h.len, fun b u e => ?_, fun k a c e1 e2 ng => ?_, h.inj, fun k a kvs e1 e2 => let ⟨od, gs, q1, q2⟩ := h.fz k a kvs e1 e2; ⟨od, gs, s1 _ _ q1, q2.mono (Pre.refl r) s1⟩, h.fzi⟩
  · by_cases hb : b = p
    · subst hb; rw [upd_same] at e; rw [hp]; exact e
    · rw [upd_ne hb] at e; exact h.sub b u e
  · have na : a ≠ p := fun z => np k ⟨c, e2, ng⟩ (by rw [e1, z])
    obtain ⟨q1, q2⟩ := h.cell k a c e1 e2 ng
    exact ⟨by rw [upd_ne na]; exact q1, q2.mono (Pre.refl r) s1⟩
/-- .. becomes a cell -/
theorem live_app {m : Store} {c : Cell} {k : Nat} (l : live (m ++ [c]) k) : live m k ∨ k = m.length := by
  obtain ⟨c', e, ng⟩ := l
  by_cases hk : k < m.length
  · rw [List.getElem?_append_left hk] at e; exact .inl ⟨c', e, ng⟩
  · have : k < (m ++ [c]).length := (List.getElem?_eq_some_iff.mp e).1
    rw [List.length_append] at this
    have : k < m.length + 1 := this
    exact .inr (by omega)
theorem HR.toCell (h : HR K r F H m) {p : Addr} {c : Cell} (fp : F p = none) (np : ∀ (k : Nat), live m k → r[k]? ≠ some p) (hc : CellOk K r F H p c) : HR K (r ++ [p]) F H (m ++ [c]) := by
  have pr : Pre r (r ++ [p]) := Pre.app r [p]
  have last : (r ++ [p])[m.length]? = some p := by rw [← h.len]; simp
  have low : ∀ (k : Nat) a, k < m.length → (r ++ [p])[k]? = some a → r[k]? = some a := fun k a hk e => by
    rw [List.getElem?_append_left (by rw [h.len]; exact hk)] at e; exact e
  refine ⟨by simp [h.len], h.sub, fun k a c' e1 e2 ng => ?_, fun k l a e1 e2 l1 l2 => ?_, fun k a kvs e1 e2 => ?_, fun k l a x y e1 e2 z1 z2 => ?_⟩
  · rcases live_app ⟨c', e2, ng⟩ with l | rfl
    · have hk := live_lt l
      rw [List.getElem?_append_left hk] at e2
      obtain ⟨q1, q2⟩ := h.cell k a c' (low k a hk e1) e2 ng
      exact ⟨q1, q2.mono pr (Same.refl F)⟩
    · rw [last] at e1; cases e1
      have : (m ++ [c])[m.length]? = some c := by simp
      rw [this] at e2; cases e2
      exact ⟨fp, hc.mono pr (Same.refl F)⟩
  · rcases live_app l1 with z1 | rfl
    · have k1 := low k a (live_lt z1) e1
      rcases live_app l2 with z2 | rfl
      · exact h.inj k l a k1 (low l a (live_lt z2) e2) z1 z2
      · rw [last] at e2; cases e2; exact absurd k1 (np k z1)
    · rw [last] at e1; cases e1
      rcases live_app l2 with z2 | rfl
      · exact absurd (low l _ (live_lt z2) e2) (np l z2)
      · rfl
  · have hk : k < (m ++ [c]).length := (List.getElem?_eq_some_iff.mp e2).1
    by_cases hk1 : k < m.length
    · rw [List.getElem?_append_left hk1] at e2
      obtain ⟨od, gs, q1, q2⟩ := h.fz k a kvs (low k a hk1 e1) e2
      exact ⟨od, gs, q1, q2.mono pr (Same.refl F)⟩
    · have hke : k = m.length := by rw [List.length_append] at hk; have : k < m.length + 1 := hk; omega
      subst hke
      have : (m ++ [c])[m.length]? = some c := by simp
      rw [this] at e2; cases e2
      exact hc.elim
  · have old : ∀ (k : Nat) x, (m ++ [c])[k]? = some (.fz x) → k < m.length ∧ m[k]? = some (.fz x) := fun k x e2 => by
      have hk : k < (m ++ [c]).length := (List.getElem?_eq_some_iff.mp e2).1
      by_cases hk1 : k < m.length
      · rw [List.getElem?_append_left hk1] at e2
        exact ⟨hk1, e2⟩
      · have hke : k = m.length := by rw [List.length_append] at hk; have : k < m.length + 1 := hk; omega
        subst hke
        have : (m ++ [c])[m.length]? = some c := by simp
        rw [this] at e2; cases e2
        exact hc.elim
    obtain ⟨k1, w1⟩ := old k x z1
    obtain ⟨k2, w2⟩ := old l y z2
    exact h.fzi k l a x y (low k a k1 e1) (low l a k2 e2) w1 w2
/-- a cell is written -/
theorem live_set {m : Store} {k l : Nat} {c : Cell} (hk : live m k) (h : live (m.set k c) l) : live m l := by
  by_cases e : k = l
  · subst e; exact hk
  · obtain ⟨c', e1, ng⟩ := h
    rw [List.getElem?_set_ne e] at e1
    exact ⟨c', e1, ng⟩
theorem HR.put (h : HR K r F H m) {k : Nat} {a : Addr} {c : Cell} {o : HO} (l : live m k) (e : r[k]? = some a) (no : ∀ b, H a ≠ some (.own b)) (hc : CellOk K r F (upd H a o) a c) : HR K r F (upd H a o) (m.set k c) := by
  obtain ⟨c0, e0, ng0⟩ := l
  have fa := (h.cell k a c0 e e0 ng0).1
  have hkl : k < m.length := live_lt ⟨c0, e0, ng0⟩
  refine ⟨by simp [h.len], fun b u q => ?_, fun l b c' e1 e2 ng => ?_, fun i j b e1 e2 l1 l2 => h.inj i j b e1 e2 (live_set ⟨c0, e0, ng0⟩ l1) (live_set ⟨c0, e0, ng0⟩ l2), fun l b kvs e1 e2 => ?_, fun i j b x y e1 e2 z1 z2 => ?_⟩
  · rw [upd_ne (ne_of_none q fa)]; exact h.sub b u q
  · by_cases hl : k = l
    · subst hl
      rw [e] at e1; cases e1
      rw [List.getElem?_set_self hkl] at e2; cases e2
      exact ⟨fa, hc⟩
    · rw [List.getElem?_set_ne hl] at e2
      obtain ⟨q1, q2⟩ := h.cell l b c' e1 e2 ng
      have nb : b ≠ a := fun z => hl (h.inj k l a e (by rw [e1, z]) ⟨c0, e0, ng0⟩ ⟨c', e2, ng⟩)
      refine ⟨q1, q2.heap fun x o' hx w => ?_⟩
      have : x ≠ a := by
        rintro rfl
        rcases w with w | w
        · exact nb w.symm
        · subst w; exact no _ hx
      rw [upd_ne this]; exact hx
  · by_cases hl : k = l
    · subst hl
      rw [List.getElem?_set_self hkl] at e2; cases e2
      exact hc.elim
    · rw [List.getElem?_set_ne hl] at e2
      exact h.fz l b kvs e1 e2
  · have old : ∀ (i : Nat) x, (m.set k c)[i]? = some (.fz x) → m[i]? = some (.fz x) := fun i x e2 => by
      by_cases hl : k = i
      · subst hl
        rw [List.getElem?_set_self hkl] at e2; cases e2
        exact hc.elim
      · rw [List.getElem?_set_ne hl] at e2
        exact e2
    exact h.fzi i j b x y e1 e2 (old i x z1) (old j y z2)
theorem Ext.put (h : HR K r F H m) {k : Nat} {a : Addr} {c : Cell} {o : HO} (l : live m k) (e : r[k]? = some a) : Ext r F H m r F (upd H a o) (m.set k c) where
  pre := Pre.refl r
  sub := Same.refl F
  keep := fun b u q n => by rw [upd_ne (fun z => n k l (by rw [e, z]))]; exact q
  new := fun a n e => absurd n e
  fresh := fun k a hk e => (Ext.refl h).fresh k a hk e
  dead := fun j _ z => live_set l z
  mlen := by simp
  trk := fun b u q => by
    by_cases hb : b = a
    · subst hb; exact ⟨_, upd_same⟩
    · exact ⟨u, by rw [upd_ne hb]; exact q⟩
/-- behind the work a place that was new becomes data, or a cell -/
theorem Ext.freeze (x : Ext r F H m r' F' H' m') {p : Addr} {o : HO} (fp : F' p = none) (n : H p = none) : Ext r F H m r' (upd F' p o) H' m' where
  pre := x.pre
  sub := fun b u e => by rw [upd_ne (ne_of_none (x.sub b u e) fp)]; exact x.sub b u e
  keep := x.keep
  new := fun a n' e => by
    by_cases ha : a = p
    · subst ha; exact .inl n
    · rw [upd_ne ha] at e; exact x.new a n' e
  fresh := x.fresh
  dead := x.dead
  mlen := x.mlen
  trk := x.trk
theorem Ext.toCell (x : Ext r F H m r' F' H' m') (hl : r'.length = m'.length) {p : Addr} {c : Cell} (n : H p = none) : Ext r F H m (r' ++ [p]) F' H' (m' ++ [c]) where
  pre := x.pre.trans (Pre.app _ _)
  sub := x.sub
  keep := x.keep
  new := x.new
  fresh := fun k a hk e => by
    by_cases hk1 : k < r'.length
    · rw [List.getElem?_append_left hk1] at e; exact x.fresh k a hk e
    · rw [List.getElem?_append_right (by omega)] at e
      have : a = p := by
        cases q : k - r'.length with
        | zero => rw [q] at e; simp at e; exact e.symm
        | succ j => rw [q] at e; simp at e
      rw [this]; exact n
  dead := fun k hk l => by
    rcases live_app l with z | rfl
    · exact x.dead k hk z
    · exact absurd x.mlen (by omega)
  mlen := by simp; exact Nat.le_succ_of_le x.mlen
  trk := x.trk
end

/-! ### the judgements -/
def ER (K : PySem.W.Frag) (r : List Addr) (F : Hp) (σ : L2.St) (δ : En) : Prop := σ.length = δ.length ∧ ∀ (i : Nat) d, δ[i]? = some (some d) → ∃ v, σ[i]? = some (some v) ∧ Rep K r F v d
theorem ER.mono {K : PySem.W.Frag} {r r' : List Addr} {F F' : Hp} {σ : L2.St} {δ : En} (p : Pre r r') (e : Same F F') (h : ER K r F σ δ) : ER K r' F' σ δ := ⟨h.1, fun i d q => let ⟨v, a, b⟩ := h.2 i d q; ⟨v, a, b.mono p e⟩⟩
theorem ER.ext {K : PySem.W.Frag} {r r' : List Addr} {F F' H H' : Hp} {m m' : Store} {σ : L2.St} {δ : En} (x : Ext r F H m r' F' H' m') (h : ER K r F σ δ) : ER K r' F' σ δ := h.mono x.pre x.sub
theorem ER.set {K : PySem.W.Frag} {r : List Addr} {F : Hp} {σ : L2.St} {δ : En} {v : V} {d : D} (h : ER K r F σ δ) (i : Nat) (q : Rep K r F v d) : ER K r F (σ.set i (some v)) (δ.set i (some d)) := by
  refine ⟨by simp [h.1], fun j e he => ?_⟩
  by_cases hj : i = j
  · subst hj
    have hl : i < (δ.set i (some d)).length := (List.getElem?_eq_some_iff.mp he).1
    rw [List.length_set] at hl
    rw [List.getElem?_set_self hl] at he
    cases he
    exact ⟨v, by rw [List.getElem?_set_self (by rw [h.1]; exact hl)], q⟩
  · rw [List.getElem?_set_ne hj] at he ⊢
    exact h.2 j e he
/-- what is forgotten -/
def Weak (δ δ' : En) : Prop := δ.length = δ'.length ∧ ∀ (i : Nat) d, δ'[i]? = some (some d) → δ[i]? = some (some d)
theorem ER.weak {K : PySem.W.Frag} {r : List Addr} {F : Hp} {σ : L2.St} {δ δ' : En} (h : ER K r F σ δ) (w : Weak δ δ') : ER K r F σ δ' := ⟨h.1.trans w.1, fun i d q => h.2 i d (w.2 i d q)⟩

theorem le5 {n : Nat} (h : Nat.ble n 100000 = true) : n ≤ 100000 := Nat.le_of_ble_eq_true h
abbrev Post1 (K : PySem.W.Frag) (r : List Addr) (F H : Hp) (m : Store) (d : D) (m' : Store) (Q : VK) : Prop := ∀ v r' F' H', HR K r' F' H' m' → Ext r F H m r' F' H' m' → Rep K r' F' v d → Q v H'
/-- a new list that nothing else holds -/
abbrev PostN (K : PySem.W.Frag) (r : List Addr) (F H : Hp) (m : Store) (ds : List D) (m' : Store) (Q : VK) : Prop := ∀ p vs r' F' H', HR K r' F' H' m' → Ext r F H m r' F' H' m' → H p = none → F' p = none → (∀ (k : Nat), live m' k → r'[k]? ≠ some p) → H' p = some (.lst vs) → RepAll K r' F' vs ds → Q (.ref p) H'
def YE (K : PySem.W.Frag) (t : TE) (δ : En) (m : Store) (d : D) (m' : Store) : Prop := ∀ r F H σ, HR K r F H m → ER K r F σ δ → ∀ Q : VK, Post1 K r F H m d m' Q → t σ H Q
def YN (K : PySem.W.Frag) (t : TE) (δ : En) (m : Store) (ds : List D) (m' : Store) : Prop := ∀ r F H σ, HR K r F H m → ER K r F σ δ → ∀ Q : VK, PostN K r F H m ds m' Q → t σ H Q
def YT (K : PySem.W.Frag) (t : TT) (δ : En) (m : Store) (b : Bool) (m' : Store) : Prop := ∀ r F H σ, HR K r F H m → ER K r F σ δ → ∀ Q : Bool → Hp → Prop, (∀ r' F' H', HR K r' F' H' m' → Ext r F H m r' F' H' m' → Q b H') → t σ H Q
def YA (K : PySem.W.Frag) (t : TA) (δ : En) (m : Store) (ds : List D) (m' : Store) : Prop := ∀ r F H σ, HR K r F H m → ER K r F σ δ → ∀ Q : List V → Hp → Prop, (∀ vs r' F' H', HR K r' F' H' m' → Ext r F H m r' F' H' m' → RepAll K r' F' vs ds → Q vs H') → t σ H Q
def YO (K : PySem.W.Frag) (t : TO) (δ : En) (m : Store) (o : Option Int) (m' : Store) : Prop := ∀ r F H σ, HR K r F H m → ER K r F σ δ → ∀ Q : Option Int → Hp → Prop, (∀ r' F' H', HR K r' F' H' m' → Ext r F H m r' F' H' m' → Q o H') → t σ H Q
/-- on values -/
def Y2 (K : PySem.W.Frag) (rr : R2) (d e : D) (m : Store) (z : D) (m' : Store) : Prop := ∀ r F H x y, HR K r F H m → Rep K r F x d → Rep K r F y e → ∀ Q : VK, Post1 K r F H m z m' Q → rr x y H Q
def Y2N (K : PySem.W.Frag) (rr : R2) (d e : D) (m : Store) (zs : List D) (m' : Store) : Prop := ∀ r F H x y, HR K r F H m → Rep K r F x d → Rep K r F y e → ∀ Q : VK, PostN K r F H m zs m' Q → rr x y H Q
def Y1 (K : PySem.W.Frag) (rr : V → Hp → VK → Prop) (d : D) (m : Store) (z : D) (m' : Store) : Prop := ∀ r F H x, HR K r F H m → Rep K r F x d → ∀ Q : VK, Post1 K r F H m z m' Q → rr x H Q
def YC (K : PySem.W.Frag) (rr : List V → Hp → VK → Prop) (ds : List D) (m : Store) (z : D) (m' : Store) : Prop := ∀ r F H vs, HR K r F H m → RepAll K r F vs ds → ∀ Q : VK, Post1 K r F H m z m' Q → rr vs H Q
def YCN (K : PySem.W.Frag) (rr : List V → Hp → VK → Prop) (ds : List D) (m : Store) (zs : List D) (m' : Store) : Prop := ∀ r F H vs, HR K r F H m → RepAll K r F vs ds → ∀ Q : VK, PostN K r F H m zs m' Q → rr vs H Q
def YM (K : PySem.W.Frag) (T : String) (rr : V → List V → Hp → VK → Prop) (d : D) (ds : List D) (m : Store) (z : D) (m' : Store) : Prop := ∀ r F H x vs, HR K r F H m → Rep K r F x d → RepAll K r F vs ds → ∀ Q : VK, Post1 K r F H m z m' Q → rr x vs H Q
def YMN (K : PySem.W.Frag) (T : String) (rr : V → List V → Hp → VK → Prop) (d : D) (ds : List D) (m : Store) (zs : List D) (m' : Store) : Prop := ∀ r F H x vs, HR K r F H m → Rep K r F x d → RepAll K r F vs ds → ∀ Q : VK, PostN K r F H m zs m' Q → rr x vs H Q

section
variable {K : PySem.W.Frag} {t ta tb tc : TE} {tt tu : TT} {tas : TA} {δ : En} {m m1 m2 m3 : Store} {d d1 d2 d3 : D} {ds : List D} {rr : R2}
/-- a new list taken as data, as a cell -/
theorem YN.data (h : YN K t δ m ds m1) : YE K t δ m (.lst ds) m1 := fun r F H σ hr er Q q => h r F H σ hr er Q fun p vs r' F' H' hr' x np fp nc hp ra => by
  have s1 : Same F' (upd F' p (.lst vs)) := fun b u e => by rw [upd_ne (ne_of_none e fp)]; exact e
  refine q (.ref p) r' (upd F' p (.lst vs)) H' (hr'.freeze fp nc hp) (x.freeze fp np) (.lst upd_same (ra.mono (Pre.refl _) s1))
theorem YN.cell (h : YN K t δ m ds m1) : YE K t δ m (.cell m1.length) (m1 ++ [.lst ds]) := fun r F H σ hr er Q q => h r F H σ hr er Q fun p vs r' F' H' hr' x np fp nc hp ra => by
  refine q (.ref p) (r' ++ [p]) F' H' (hr'.toCell fp nc ⟨vs, hp, ra⟩) (x.toCell hr'.len np) (.cell ?_)
  rw [← hr'.len]; simp
theorem ye_var {i : Nat} (h : δ[i]? = some (some d)) : YE K (tVar i) δ m d m := fun r F H σ hr er Q q => by
  obtain ⟨v, e, p⟩ := er.2 i d h
  exact ⟨v, e, q v r F H hr (Ext.refl hr) p⟩
theorem ye_int {i : Int} : YE K (tC (.int i)) δ m (.int i) m := fun r F H σ hr er Q q => q _ r F H hr (Ext.refl hr) (.int i)
theorem ye_bl {b : Bool} : YE K (tC (.bl b)) δ m (.bl b) m := fun r F H σ hr er Q q => q _ r F H hr (Ext.refl hr) (.bl b)
theorem ye_non : YE K (tC .non) δ m .non m := fun r F H σ hr er Q q => q _ r F H hr (Ext.refl hr) .non
theorem ye_str {x : Str} : YE K (tC (.str x)) δ m (.str x) m := fun r F H σ hr er Q q => q _ r F H hr (Ext.refl hr) (.str x)
theorem ye_op (ha : YE K ta δ m d1 m1) (hb : YE K tb δ m1 d2 m2) (h2 : Y2 K rr d1 d2 m2 d3 m3) : YE K (tOp rr ta tb) δ m d3 m3 := fun r F H σ hr er Q q =>
  ha r F H σ hr er _ fun x r1 F1 H1 hr1 x1 p1 => hb r1 F1 H1 σ hr1 (er.ext x1) _ fun y r2 F2 H2 hr2 x2 p2 =>
    h2 r2 F2 H2 x y hr2 (p1.mono x2.pre x2.sub) p2 Q fun v r3 F3 H3 hr3 x3 p3 => q v r3 F3 H3 hr3 ((x1.trans hr1.len hr.len x2).trans hr2.len hr.len x3) p3
theorem yn_op {zs : List D} (ha : YE K ta δ m d1 m1) (hb : YE K tb δ m1 d2 m2) (h2 : Y2N K rr d1 d2 m2 zs m3) : YN K (tOp rr ta tb) δ m zs m3 := fun r F H σ hr er Q q =>
  ha r F H σ hr er _ fun x r1 F1 H1 hr1 x1 p1 => hb r1 F1 H1 σ hr1 (er.ext x1) _ fun y r2 F2 H2 hr2 x2 p2 =>
    h2 r2 F2 H2 x y hr2 (p1.mono x2.pre x2.sub) p2 Q fun p vs r3 F3 H3 hr3 x3 np fp nc hp ra => q p vs r3 F3 H3 hr3 ((x1.trans hr1.len hr.len x2).trans hr2.len hr.len x3) (by
      cases e : H p with
      | none => rfl
      | some o =>
        obtain ⟨o', e'⟩ := (x1.trans hr1.len hr.len x2).trk p o e
        rw [e'] at np; cases np) fp nc hp ra
theorem ye_un {ru : V → Hp → VK → Prop} (ha : YE K ta δ m d1 m1) (h1 : Y1 K ru d1 m1 d2 m2) : YE K (tUn ru ta) δ m d2 m2 := fun r F H σ hr er Q q =>
  ha r F H σ hr er _ fun x r1 F1 H1 hr1 x1 p1 => h1 r1 F1 H1 x hr1 p1 Q fun v r2 F2 H2 hr2 x2 p2 => q v r2 F2 H2 hr2 (x1.trans hr1.len hr.len x2) p2
theorem ya_nil : YA K tNil δ m [] m := fun r F H σ hr er Q q => q [] r F H hr (Ext.refl hr) .nil
theorem ya_cons (ha : YE K ta δ m d m1) (hs : YA K tas δ m1 ds m2) : YA K (tCons ta tas) δ m (d :: ds) m2 := fun r F H σ hr er Q q =>
  ha r F H σ hr er _ fun x r1 F1 H1 hr1 x1 p1 => hs r1 F1 H1 σ hr1 (er.ext x1) _ fun vs r2 F2 H2 hr2 x2 p2 => q _ r2 F2 H2 hr2 (x1.trans hr1.len hr.len x2) (.cons (p1.mono x2.pre x2.sub) p2)
theorem ye_cb {rc : List V → Hp → VK → Prop} (ha : YA K tas δ m ds m1) (hc : YC K rc ds m1 d m2) : YE K (tCB rc tas) δ m d m2 := fun r F H σ hr er Q q =>
  ha r F H σ hr er _ fun vs r1 F1 H1 hr1 x1 p1 => hc r1 F1 H1 vs hr1 p1 Q fun v r2 F2 H2 hr2 x2 p2 => q v r2 F2 H2 hr2 (x1.trans hr1.len hr.len x2) p2
theorem trk_back {r r' : List Addr} {F H F' H' : Hp} {m m' : Store} (x : Ext r F H m r' F' H' m') {p : Addr} (np : H' p = none) : H p = none := by
  cases e : H p with
  | none => rfl
  | some o =>
    obtain ⟨o', e'⟩ := x.trk p o e
    rw [e'] at np; cases np
theorem yn_cb {rc : List V → Hp → VK → Prop} {zs : List D} (ha : YA K tas δ m ds m1) (hc : YCN K rc ds m1 zs m2) : YN K (tCB rc tas) δ m zs m2 := fun r F H σ hr er Q q =>
  ha r F H σ hr er _ fun vs r1 F1 H1 hr1 x1 p1 => hc r1 F1 H1 vs hr1 p1 Q fun p ws r2 F2 H2 hr2 x2 np fp nc hp ra => q p ws r2 F2 H2 hr2 (x1.trans hr1.len hr.len x2) (trk_back x1 np) fp nc hp ra
theorem ye_tup (ha : YA K tas δ m ds m1) (hl : ds.length ≤ 100000) : YE K (tTup tas) δ m (.tup ds) m1 := fun r F H σ hr er Q q =>
  ha r F H σ hr er _ fun vs r1 F1 H1 hr1 x1 p1 => ⟨Evl.sz_of (by rw [p1.len]; exact hl), fun p hp => q _ r1 _ _ (hr1.laid hp) (x1.trans hr1.len hr.len (Ext.laid hr1 hp)) (.tup upd_same (p1.mono (Pre.refl _) (Ext.laid hr1 hp).sub))⟩
theorem yn_lst (ha : YA K tas δ m ds m1) (hl : ds.length ≤ 100000) : YN K (tLst tas) δ m ds m1 := fun r F H σ hr er Q q =>
  ha r F H σ hr er _ fun vs r1 F1 H1 hr1 x1 p1 => ⟨Evl.sz_of (by rw [p1.len]; exact hl), fun p hp => q p vs r1 F1 _ (hr1.side hp) (x1.trans hr1.len hr.len (Ext.side hr1 hp)) (trk_back x1 hp) (hr1.sub.free hp) (fun k l e => (hr1.ne_new hp l e) rfl) upd_same p1⟩
theorem ye_andV {a b : Bool} (h1 : YE K ta δ m (.bl a) m1) (h2 : a = true → YE K tb δ m1 (.bl b) m1) : YE K (tAndV ta tb) δ m (.bl (a && b)) m1 := fun r F H σ hr er Q q =>
  h1 r F H σ hr er _ fun x r1 F1 H1 hr1 x1 p1 => by
    cases p1
    refine ⟨a, rfl, ?_⟩
    cases a with
    | true => exact h2 rfl r1 F1 H1 σ hr1 (er.ext x1) Q fun v r2 F2 H2 hr2 x2 p2 => q v r2 F2 H2 hr2 (x1.trans hr1.len hr.len x2) p2
    | false => exact q _ r1 F1 H1 hr1 x1 (.bl _)
theorem ye_orV {a b : Bool} (h1 : YE K ta δ m (.bl a) m1) (h2 : a = false → YE K tb δ m1 (.bl b) m1) : YE K (tOrV ta tb) δ m (.bl (a || b)) m1 := fun r F H σ hr er Q q =>
  h1 r F H σ hr er _ fun x r1 F1 H1 hr1 x1 p1 => by
    cases p1
    refine ⟨a, rfl, ?_⟩
    cases a with
    | false => exact h2 rfl r1 F1 H1 σ hr1 (er.ext x1) Q fun v r2 F2 H2 hr2 x2 p2 => q v r2 F2 H2 hr2 (x1.trans hr1.len hr.len x2) p2
    | true => exact q _ r1 F1 H1 hr1 x1 (.bl _)
theorem ye_notV {a : Bool} (h1 : YE K ta δ m (.bl a) m1) : YE K (tNotV ta) δ m (.bl (!a)) m1 := fun r F H σ hr er Q q =>
  h1 r F H σ hr er _ fun x r1 F1 H1 hr1 x1 p1 => by
    cases p1
    exact ⟨a, rfl, q _ r1 F1 H1 hr1 x1 (.bl _)⟩
theorem yt_test {a : Bool} (h1 : YE K ta δ m (.bl a) m1) : YT K (tTest ta) δ m a m1 := fun r F H σ hr er Q q =>
  h1 r F H σ hr er _ fun x r1 F1 H1 hr1 x1 p1 => by
    cases p1
    exact ⟨a, rfl, q r1 F1 H1 hr1 x1⟩
theorem yt_B {a : Bool} (h1 : YE K ta δ m (.bl a) m1) : YT K (tB ta) δ m a m1 := fun r F H σ hr er Q q =>
  h1 r F H σ hr er _ fun x r1 F1 H1 hr1 x1 p1 => by
    cases p1
    exact ⟨a, rfl, q r1 F1 H1 hr1 x1⟩
/-- and, or in tests: the second side's store by what the first tells -/
theorem yt_and {a b : Bool} (h1 : YT K tt δ m a m1) (h2 : a = true → YT K tu δ m1 b m2) (hf : a = false → m1 = m2) : YT K (tAnd tt tu) δ m (a && b) m2 := fun r F H σ hr er Q q =>
  h1 r F H σ hr er _ fun r1 F1 H1 hr1 x1 => by
    cases a with
    | true => exact h2 rfl r1 F1 H1 σ hr1 (er.ext x1) Q fun r2 F2 H2 hr2 x2 => q r2 F2 H2 hr2 (x1.trans hr1.len hr.len x2)
    | false => cases hf rfl; exact q r1 F1 H1 hr1 x1
theorem yt_or {a b : Bool} (h1 : YT K tt δ m a m1) (h2 : a = false → YT K tu δ m1 b m2) (hf : a = true → m1 = m2) : YT K (tOr tt tu) δ m (a || b) m2 := fun r F H σ hr er Q q =>
  h1 r F H σ hr er _ fun r1 F1 H1 hr1 x1 => by
    cases a with
    | false => exact h2 rfl r1 F1 H1 σ hr1 (er.ext x1) Q fun r2 F2 H2 hr2 x2 => q r2 F2 H2 hr2 (x1.trans hr1.len hr.len x2)
    | true => cases hf rfl; exact q r1 F1 H1 hr1 x1
theorem yt_not {a : Bool} (h1 : YT K tt δ m a m1) : YT K (tNot tt) δ m (!a) m1 := fun r F H σ hr er Q q =>
  h1 r F H σ hr er _ fun r1 F1 H1 hr1 x1 => q r1 F1 H1 hr1 x1
theorem ye_if {b : Bool} (h : YT K tt δ m b m1) (h1 : b = true → YE K ta δ m1 d m2) (h2 : b = false → YE K tb δ m1 d m2) : YE K (tIf tt ta tb) δ m d m2 := fun r F H σ hr er Q q =>
  h r F H σ hr er _ fun r1 F1 H1 hr1 x1 => by
    cases b with
    | true => exact h1 rfl r1 F1 H1 σ hr1 (er.ext x1) Q fun v r2 F2 H2 hr2 x2 p => q v r2 F2 H2 hr2 (x1.trans hr1.len hr.len x2) p
    | false => exact h2 rfl r1 F1 H1 σ hr1 (er.ext x1) Q fun v r2 F2 H2 hr2 x2 p => q v r2 F2 H2 hr2 (x1.trans hr1.len hr.len x2) p
theorem ye_chain {r1' r2' : R2} {a b : Bool} (ha : YE K ta δ m d1 m1) (hb : YE K tb δ m1 d2 m2) (h1 : Y2 K r1' d1 d2 m2 (.bl a) m2) (hc : a = true → YE K tc δ m2 d3 m2) (h2 : a = true → Y2 K r2' d2 d3 m2 (.bl b) m2) : YE K (tChain r1' r2' ta tb tc) δ m (.bl (a && b)) m2 := fun r F H σ hr er Q q =>
  ha r F H σ hr er _ fun x r1 F1 H1 hr1 x1 p1 => hb r1 F1 H1 σ hr1 (er.ext x1) _ fun y r2 F2 H2 hr2 x2 p2 =>
    h1 r2 F2 H2 x y hr2 (p1.mono x2.pre x2.sub) p2 _ fun z r3 F3 H3 hr3 x3 p3 => by
      cases p3
      have x13 := (x1.trans hr1.len hr.len x2).trans hr2.len hr.len x3
      refine ⟨a, rfl, ?_⟩
      cases a with
      | false => exact q _ r3 F3 H3 hr3 x13 (.bl _)
      | true =>
        show tc σ H3 fun w H4 => r2' y w H4 Q
        exact hc rfl r3 F3 H3 σ hr3 (er.ext x13) _ fun w r4 F4 H4 hr4 x4 p4 => h2 rfl r4 F4 H4 y w hr4 (p2.mono (x3.pre.trans x4.pre) (x3.sub.trans x4.sub)) p4 Q fun z r5 F5 H5 hr5 x5 p5 => q z r5 F5 H5 hr5 ((x13.trans hr3.len hr.len x4).trans hr4.len hr.len x5) p5
end
end DL
namespace DL
open PySem PySem.Spec PyProof.Rows L2

/-! ### data and PyData -/
mutual
def D.toPy : D → PyData
  | .non => .none
  | .bl b => .bool b
  | .int i => .int i
  | .str x => .str x
  | .lst xs => .list (D.toPys xs)
  | .tup xs => .tuple (D.toPys xs)
  | .cell _ => .none
  | .scr ns => .list (ns.map PyData.int)
  | .exc _ => .none
def D.toPys : List D → List PyData
  | [] => []
  | d :: ds => D.toPy d :: D.toPys ds
end
theorem dp_ints {K : PySem.W.Frag} {H : Hp} : ∀ ns : List Int, DpAll K H (ns.map V.int) (ns.map PyData.int)
  | [] => .nil
  | n :: ns => .cons (.int n) (dp_ints ns)
section
variable {K : PySem.W.Frag} {r : List Addr} {F H : Hp}
mutual
theorem Rep.dp (s : Same F H) : ∀ {v : V} {d : D}, d.pure = true → Rep K r F v d → Dp K H v d.toPy
  | _, _, _, .non => .non
  | _, _, _, .bl b => .bl b
  | _, _, _, .int i => .int i
  | _, _, _, .str x => .str x
  | _, _, p, .lst h t => .lst (SqL.of (s _ _ h)) (RepAll.dp s p t)
  | _, _, p, .tup h t => .tup (SqT.of (s _ _ h)) (RepAll.dp s p t)
  | _, _, p, .cell h => nomatch p
  | _, _, _, .scr h => .lst (s.seq h) (dp_ints _)
  | _, _, p, .exc h => nomatch p
theorem RepAll.dp (s : Same F H) : ∀ {vs : List V} {ds : List D}, D.pures ds = true → RepAll K r F vs ds → DpAll K H vs (D.toPys ds)
  | _, _, _, .nil => .nil
  | _, _, p, .cons h t =>
    have q : (D.pure _ && D.pures _) = true := p
    .cons (Rep.dp s (Bool.and_eq_true_iff.mp q).1 h) (RepAll.dp s (Bool.and_eq_true_iff.mp q).2 t)
end
end
def D.isNon : D → Bool
  | .non => true
  | _ => false

section
variable {K : PySem.W.Frag} {m : Store} {d e : D} {i j : Int}
/-- an answer that makes nothing -/
theorem post1 {r : List Addr} {F H : Hp} {v : V} {z : D} {Q : VK} (hr : HR K r F H m) (q : Post1 K r F H m z m Q) (p : Rep K r F v z) : Q v H := q v r F H hr (Ext.refl hr) p
theorem y_add : Y2 K (rI0 fun i j => .int (i + j)) (.int i) (.int j) m (.int (i + j)) m := fun r F H x y hr p1 p2 Q q => by
  cases p1; cases p2; exact ⟨i, j, rfl, rfl, post1 hr q (.int _)⟩
theorem y_sub : Y2 K (rI0 fun i j => .int (i - j)) (.int i) (.int j) m (.int (i - j)) m := fun r F H x y hr p1 p2 Q q => by
  cases p1; cases p2; exact ⟨i, j, rfl, rfl, post1 hr q (.int _)⟩
theorem y_mul (h : CMul i j) : Y2 K (rI CMul fun i j => .int (i * j)) (.int i) (.int j) m (.int (i * j)) m := fun r F H x y hr p1 p2 Q q => by
  cases p1; cases p2; exact ⟨i, j, rfl, rfl, h, post1 hr q (.int _)⟩
theorem y_fdiv (h : CDivW i j) : Y2 K (rI CDivW fun i j => .int (i / j)) (.int i) (.int j) m (.int (i / j)) m := fun r F H x y hr p1 p2 Q q => by
  cases p1; cases p2; exact ⟨i, j, rfl, rfl, h, post1 hr q (.int _)⟩
theorem y_mod (h : 0 < j) : Y2 K (rI (fun _ j => 0 < j) fun i j => .int (i % j)) (.int i) (.int j) m (.int (i % j)) m := fun r F H x y hr p1 p2 Q q => by
  cases p1; cases p2; exact ⟨i, j, rfl, rfl, h, post1 hr q (.int _)⟩
theorem y_pow {n : Nat} (h : CPow i (n : Int)) : Y2 K (rI CPow fun i j => .int (i ^ j.toNat)) (.int i) (.int (n : Int)) m (.int (i ^ n)) m := fun r F H x y hr p1 p2 Q q => by
  cases p1; cases p2; exact ⟨i, n, rfl, rfl, h, post1 hr q (.int _)⟩
theorem y_lt : Y2 K (rI0 fun i j => .bl (decide (i < j))) (.int i) (.int j) m (.bl (decide (i < j))) m := fun r F H x y hr p1 p2 Q q => by
  cases p1; cases p2; exact ⟨i, j, rfl, rfl, post1 hr q (.bl _)⟩
theorem y_le : Y2 K (rI0 fun i j => .bl (decide (i ≤ j))) (.int i) (.int j) m (.bl (decide (i ≤ j))) m := fun r F H x y hr p1 p2 Q q => by
  cases p1; cases p2; exact ⟨i, j, rfl, rfl, post1 hr q (.bl _)⟩
theorem y_gt : Y2 K (rI0 fun i j => .bl (decide (j < i))) (.int i) (.int j) m (.bl (decide (j < i))) m := fun r F H x y hr p1 p2 Q q => by
  cases p1; cases p2; exact ⟨i, j, rfl, rfl, post1 hr q (.bl _)⟩
theorem y_ge : Y2 K (rI0 fun i j => .bl (decide (j ≤ i))) (.int i) (.int j) m (.bl (decide (j ≤ i))) m := fun r F H x y hr p1 p2 Q q => by
  cases p1; cases p2; exact ⟨i, j, rfl, rfl, post1 hr q (.bl _)⟩
theorem dec_int (i j : Int) : decide (V.int i = V.int j) = decide (i = j) := by
  by_cases h : i = j
  · subst h; simp
  · rw [decide_eq_false h, decide_eq_false (fun q => h (V.int.inj q))]
theorem dec_bl (i j : Bool) : decide (V.bl i = V.bl j) = decide (i = j) := by
  by_cases h : i = j
  · subst h; simp
  · rw [decide_eq_false h, decide_eq_false (fun q => h (V.bl.inj q))]
theorem dec_str (i j : Str) : decide (V.str i = V.str j) = decide (i = j) := by
  by_cases h : i = j
  · subst h; simp
  · rw [decide_eq_false h, decide_eq_false (fun q => h (V.str.inj q))]
theorem y_eqI : Y2 K rEq (.int i) (.int j) m (.bl (decide (i = j))) m := fun r F H x y hr p1 p2 Q q => by
  cases p1; cases p2; refine ⟨rfl, ?_⟩; rw [dec_int]; exact post1 hr q (.bl _)
theorem y_neI : Y2 K rNe (.int i) (.int j) m (.bl (!decide (i = j))) m := fun r F H x y hr p1 p2 Q q => by
  cases p1; cases p2; refine ⟨rfl, ?_⟩; rw [dec_int]; exact post1 hr q (.bl _)
theorem y_eqB {a b : Bool} : Y2 K rEq (.bl a) (.bl b) m (.bl (decide (a = b))) m := fun r F H x y hr p1 p2 Q q => by
  cases p1; cases p2; refine ⟨rfl, ?_⟩; rw [dec_bl]; exact post1 hr q (.bl _)
theorem y_neB {a b : Bool} : Y2 K rNe (.bl a) (.bl b) m (.bl (!decide (a = b))) m := fun r F H x y hr p1 p2 Q q => by
  cases p1; cases p2; refine ⟨rfl, ?_⟩; rw [dec_bl]; exact post1 hr q (.bl _)
theorem y_eqS {a b : Str} : Y2 K rEq (.str a) (.str b) m (.bl (decide (a = b))) m := fun r F H x y hr p1 p2 Q q => by
  cases p1; cases p2; refine ⟨rfl, ?_⟩; rw [dec_str]; exact post1 hr q (.bl _)
theorem y_neS {a b : Str} : Y2 K rNe (.str a) (.str b) m (.bl (!decide (a = b))) m := fun r F H x y hr p1 p2 Q q => by
  cases p1; cases p2; refine ⟨rfl, ?_⟩; rw [dec_str]; exact post1 hr q (.bl _)
theorem y_isN : Y2 K (fun x y H Q => y = .non ∧ Q (.bl (decide (x = .non))) H) d .non m (.bl d.isNon) m := fun r F H x y hr p1 p2 Q q => by
  cases p2
  refine ⟨rfl, ?_⟩
  have : decide (x = V.non) = d.isNon := by cases p1 <;> rfl
  rw [this]; exact post1 hr q (.bl _)
theorem y_notN : Y2 K (fun x y H Q => y = .non ∧ Q (.bl (!decide (x = .non))) H) d .non m (.bl (!d.isNon)) m := fun r F H x y hr p1 p2 Q q => by
  cases p2
  refine ⟨rfl, ?_⟩
  have : decide (x = V.non) = d.isNon := by cases p1 <;> rfl
  rw [this]; exact post1 hr q (.bl _)
/-- == of data at any depth, of pure data or of what cells hold -/
inductive Pd (m : Store) : D → PyData → Prop
  | pure {d : D} : d.pure = true → Pd m d d.toPy
  | cell {k : Nat} {xs : List D} : m[k]? = some (.lst xs) → D.pures xs = true → Pd m (.cell k) (.list (D.toPys xs))
theorem Pd.dp {r : List Addr} {F H : Hp} {v : V} {p : PyData} (hr : HR K r F H m) (h : Pd m d p) (q : Rep K r F v d) : Dp K H v p := by
  cases h with
  | pure hp => exact q.dp hr.sub hp
  | cell hk hp =>
    cases q with
    | cell e =>
      obtain ⟨_, vs, h1, h2⟩ := hr.cell _ _ _ e hk rfl
      exact .lst (SqL.of h1) (h2.dp hr.sub hp)
theorem y_eqD {p q : PyData} (h1 : Pd m d p) (h2 : Pd m e q) (s1 : SeqAt.shaped p = true) (s2 : SeqAt.shaped q = true) : Y2 K (rEqD K) d e m (.bl (PyData.eqv p q)) m := fun r F H x y hr p1 p2 Q k =>
  ⟨_, _, h1.dp hr p1, h2.dp hr p2, s1, s2, post1 hr k (.bl _)⟩
theorem y_neD {p q : PyData} (h1 : Pd m d p) (h2 : Pd m e q) (s1 : SeqAt.shaped p = true) (s2 : SeqAt.shaped q = true) : Y2 K (rNeD K) d e m (.bl (!PyData.eqv p q)) m := fun r F H x y hr p1 p2 Q k =>
  ⟨_, _, h1.dp hr p1, h2.dp hr p2, s1, s2, post1 hr k (.bl _)⟩

/-! ### items -/
theorem atI_len {α β : Type} {xs : List α} {ys : List β} (h : xs.length = ys.length) {i : Int} {y : β} (e : atI ys i = some y) : ∃ j : Nat, ys[j]? = some y ∧ atI xs i = xs[j]? := by
  unfold atI at e ⊢
  rw [h]
  cases q : ixN ys.length i with
  | none => rw [q] at e; cases e
  | some j => rw [q] at e; exact ⟨j, e, rfl⟩
theorem RepAll.atI {r : List Addr} {F : Hp} {vs : List V} {ds : List D} {i : Int} (h : RepAll K r F vs ds) (e : L2.atI ds i = some d) : ∃ v, L2.atI vs i = some v ∧ Rep K r F v d := by
  obtain ⟨j, e1, e2⟩ := atI_len h.len e
  obtain ⟨v, e3, p⟩ := h.get e1
  exact ⟨v, by rw [e2, e3], p⟩
theorem y_ixT {ds : List D} (h : L2.atI ds i = some d) : Y2 K (rIxT K) (.tup ds) (.int i) m d m := fun r F H x y hr p1 p2 Q q => by
  cases p2
  cases p1 with
  | tup hs ha =>
    obtain ⟨v, e, p⟩ := ha.atI h
    exact ⟨_, _, i, v, rfl, rfl, SqT.of (hr.sub _ _ hs), e, post1 hr q p⟩
theorem y_ixL {ds : List D} (h : L2.atI ds i = some d) : Y2 K (rIxL K) (.lst ds) (.int i) m d m := fun r F H x y hr p1 p2 Q q => by
  cases p2
  cases p1 with
  | lst hs ha =>
    obtain ⟨v, e, p⟩ := ha.atI h
    exact ⟨_, _, i, v, rfl, rfl, SqL.of (hr.sub _ _ hs), e, post1 hr q p⟩
theorem y_ixC {k : Nat} {ds : List D} (hk : m[k]? = some (.lst ds)) (h : L2.atI ds i = some d) : Y2 K (rIxL K) (.cell k) (.int i) m d m := fun r F H x y hr p1 p2 Q q => by
  cases p2
  cases p1 with
  | cell ea =>
    obtain ⟨_, vs, h1, h2⟩ := hr.cell _ _ _ ea hk rfl
    obtain ⟨v, e, p⟩ := h2.atI h
    exact ⟨_, _, i, v, rfl, rfl, SqL.of h1, e, post1 hr q p⟩
theorem y_ixS {ns : List Int} {n : Int} (h : L2.atI ns i = some n) : Y2 K (rIxL K) (.scr ns) (.int i) m (.int n) m := fun r F H x y hr p1 p2 Q q => by
  cases p2
  cases p1 with
  | scr hs =>
    obtain ⟨j, e1, e2⟩ := atI_len (xs := ns.map V.int) (by simp) h
    refine ⟨_, _, i, .int n, rfl, rfl, hr.sub.seq hs, ?_, post1 hr q (.int n)⟩
    rw [e2, List.getElem?_map, e1]; rfl

/-! ### built-ins on values -/
theorem y_max2 : YC K (fun xs H Q => ∃ i j, xs = [.int i, .int j] ∧ Q (.int (if j > i then j else i)) H) [.int i, .int j] m (.int (max i j)) m := fun r F H vs hr p Q q => by
  cases p with
  | cons p1 p => cases p with
    | cons p2 p => cases p; cases p1; cases p2
                   have e : (if j > i then j else i) = max i j := by split <;> omega
                   refine ⟨i, j, rfl, ?_⟩; rw [e]; exact post1 hr q (.int _)
theorem y_min2 : YC K (fun xs H Q => ∃ i j, xs = [.int i, .int j] ∧ Q (.int (if j < i then j else i)) H) [.int i, .int j] m (.int (min i j)) m := fun r F H vs hr p Q q => by
  cases p with
  | cons p1 p => cases p with
    | cons p2 p => cases p; cases p1; cases p2
                   have e : (if j < i then j else i) = min i j := by split <;> omega
                   refine ⟨i, j, rfl, ?_⟩; rw [e]; exact post1 hr q (.int _)
theorem nu_max (i j : Int) : nuMax2 (.int i) (.int j) = some (.int (max i j)) := by
  unfold nuMax2
  show (nuLt (.int i) (.int j)).map _ = _
  have : nuLt (.int i) (.int j) = some (decide (i < j)) := rfl
  rw [this]
  show some (if decide (i < j) = true then V.int j else V.int i) = _
  by_cases h : i < j
  · rw [decide_eq_true h, if_pos rfl, show max i j = j by omega]
  · rw [decide_eq_false h, if_neg Bool.false_ne_true, show max i j = i by omega]
theorem nu_min (i j : Int) : nuMin2 (.int i) (.int j) = some (.int (min i j)) := by
  unfold nuMin2
  show (nuLt (.int j) (.int i)).map _ = _
  have : nuLt (.int j) (.int i) = some (decide (j < i)) := rfl
  rw [this]
  show some (if decide (j < i) = true then V.int j else V.int i) = _
  by_cases h : j < i
  · rw [decide_eq_true h, if_pos rfl, show min i j = j by omega]
  · rw [decide_eq_false h, if_neg Bool.false_ne_true, show min i j = i by omega]
theorem y_max3 {k : Int} : YC K (rNuC3 nuMax3) [.int i, .int j, .int k] m (.int (max (max i j) k)) m := fun r F H vs hr p Q q => by
  cases p with
  | cons p1 p => cases p with
    | cons p2 p => cases p with
      | cons p3 p => cases p; cases p1; cases p2; cases p3
                     refine ⟨_, _, _, .int (max (max i j) k), rfl, ?_, post1 hr q (.int _)⟩
                     unfold nuMax3
                     rw [nu_max]
                     show nuMax2 _ _ = _
                     rw [nu_max]
theorem y_min3 {k : Int} : YC K (rNuC3 nuMin3) [.int i, .int j, .int k] m (.int (min (min i j) k)) m := fun r F H vs hr p Q q => by
  cases p with
  | cons p1 p => cases p with
    | cons p2 p => cases p with
      | cons p3 p => cases p; cases p1; cases p2; cases p3
                     refine ⟨_, _, _, .int (min (min i j) k), rfl, ?_, post1 hr q (.int _)⟩
                     unfold nuMin3
                     rw [nu_min]
                     show nuMin2 _ _ = _
                     rw [nu_min]
theorem y_lenL {ds : List D} : YC K (Evl.rLenS K) [.lst ds] m (.int ds.length) m := fun r F H vs hr p Q q => by
  cases p with
  | cons p1 p => cases p; cases p1 with
    | lst hs ha =>
      refine ⟨_, _, rfl, .inl (SqL.of (hr.sub _ _ hs)), ?_⟩
      rw [ha.len]; exact post1 hr q (.int _)
theorem y_lenT {ds : List D} : YC K (Evl.rLenS K) [.tup ds] m (.int ds.length) m := fun r F H vs hr p Q q => by
  cases p with
  | cons p1 p => cases p; cases p1 with
    | tup hs ha =>
      refine ⟨_, _, rfl, .inr (SqT.of (hr.sub _ _ hs)), ?_⟩
      rw [ha.len]; exact post1 hr q (.int _)
theorem y_lenC {k : Nat} {ds : List D} (hk : m[k]? = some (.lst ds)) : YC K (Evl.rLenS K) [.cell k] m (.int ds.length) m := fun r F H vs hr p Q q => by
  cases p with
  | cons p1 p => cases p; cases p1 with
    | cell ea =>
      obtain ⟨_, vs, h1, h2⟩ := hr.cell _ _ _ ea hk rfl
      refine ⟨_, _, rfl, .inl (SqL.of h1), ?_⟩
      rw [h2.len]; exact post1 hr q (.int _)
theorem y_lenS {ns : List Int} : YC K (Evl.rLenS K) [.scr ns] m (.int ns.length) m := fun r F H vs hr p Q q => by
  cases p with
  | cons p1 p => cases p; cases p1 with
    | scr hs =>
      refine ⟨_, _, rfl, .inl (hr.sub.seq hs), ?_⟩
      rw [List.length_map]; exact post1 hr q (.int _)
theorem ye_bits {te : TE} {δ : En} {m1 : Store} (h : YE K te δ m (.int i) m1) : YE K (tBits te) δ m (.int (Builtin.Int.intBits i : Nat)) m1 := fun r F H σ hr er Q q =>
  h r F H σ hr er _ fun x r1 F1 H1 hr1 x1 p1 => by
    cases p1
    exact ⟨i, rfl, q _ r1 F1 H1 hr1 x1 (.int _)⟩
end

/-! ### the lists of two, joined; repeated; slices -/
section
variable {K : PySem.W.Frag} {m : Store} {d e : D} {i j : Int}
/-- what is read as a list of H: data, or a cell's -/
inductive IsL (m : Store) : D → List D → Prop
  | lst {ds : List D} : IsL m (.lst ds) ds
  | cell {k : Nat} {ds : List D} : m[k]? = some (.lst ds) → IsL m (.cell k) ds
theorem IsL.get {r : List Addr} {F H : Hp} {v : V} {ds : List D} (h : IsL m d ds) (hr : HR K r F H m) (p : Rep K r F v d) : ∃ a vs, v = .ref a ∧ H a = some (.lst vs) ∧ RepAll K r F vs ds := by
  cases h with
  | lst => cases p with
    | lst hs ha => exact ⟨_, _, rfl, hr.sub _ _ hs, ha⟩
  | cell hk => cases p with
    | cell ea =>
      obtain ⟨_, vs, h1, h2⟩ := hr.cell _ _ _ ea hk rfl
      exact ⟨_, _, rfl, h1, h2⟩
theorem postN {r : List Addr} {F H : Hp} {zs : List D} {vs : List V} {Q : VK} {p : Addr} (hr : HR K r F H m) (q : PostN K r F H m zs m Q) (hp : H p = none) (ra : RepAll K r F vs zs) : Q (.ref p) (upd H p (.lst vs)) :=
  q p vs r F _ (hr.side hp) (Ext.side hr hp) hp (hr.sub.free hp) (fun k l e => (hr.ne_new hp l e) rfl) upd_same ra
theorem y_cat {xs ys : List D} (h1 : IsL m d xs) (h2 : IsL m e ys) (hl : xs.length + ys.length ≤ 100000) : Y2N K rCat d e m (xs ++ ys) m := fun r F H x y hr p1 p2 Q q => by
  obtain ⟨a, vs, rfl, e1, r1⟩ := h1.get hr p1
  obtain ⟨b, ws, rfl, e2, r2⟩ := h2.get hr p2
  exact ⟨a, b, vs, ws, rfl, rfl, e1, e2, Evl.sz_of (by rw [r1.len, r2.len]; exact hl), fun p hp => postN hr q hp (r1.app r2)⟩
theorem lenD {xs : List D} (h1 : IsL m d xs) : YC K (Evl.rLenS K) [d] m (.int xs.length) m := by
  cases h1 with
  | lst => exact y_lenL
  | cell hk => exact y_lenC hk
end
end DL
namespace DL
open PySem PySem.Spec PyProof.Rows L2

/-! ### statements -/
inductive Out where
  | nx (δ : En) (m : Store)
  | rt (d : D) (m : Store)
  | bk (δ : En) (m : Store)
  | ct (δ : En) (m : Store)
  | ex (C : Value) (δ : En) (m : Store)
def OutOk (K : PySem.W.Frag) (W : WX) (r : List Addr) (F H : Hp) (m : Store) (D : Ends) : Out → Prop
  | .nx δ' m' => ∀ σ' r' F' H', HR K r' F' H' m' → ER K r' F' σ' δ' → Ext r F H m r' F' H' m' → D.nx σ' H'
  | .rt d m' => ∀ v r' F' H', HR K r' F' H' m' → Ext r F H m r' F' H' m' → Rep K r' F' v d → D.rt v H'
  | .bk δ' m' => ∀ σ' r' F' H', HR K r' F' H' m' → ER K r' F' σ' δ' → Ext r F H m r' F' H' m' → D.bk σ' H'
  | .ct δ' m' => ∀ σ' r' F' H', HR K r' F' H' m' → ER K r' F' σ' δ' → Ext r F H m r' F' H' m' → D.ct σ' H'
  | .ex C δ' m' => ∀ σ' r' F' H', HR K r' F' H' m' → ER K r' F' σ' δ' → Ext r F H m r' F' H' m' → W C none σ' H'
def YS (K : PySem.W.Frag) (W : WX) (t : TS) (δ : En) (m : Store) (o : Out) : Prop := ∀ r F H σ D, HR K r F H m → ER K r F σ δ → OutOk K W r F H m D o → t D σ H
/-- a target: the slots change, the heap does not -/
def YG (K : PySem.W.Frag) (g : TG) (d : D) (δ δ' : En) : Prop := ∀ r F H m σ v, HR K r F H m → ER K r F σ δ → Rep K r F v d → ∀ Q : L2.St → Hp → Prop, (∀ σ', ER K r F σ' δ' → Q σ' H) → g v σ H Q
def YGs (K : PySem.W.Frag) (g : TGs) (ds : List D) (δ δ' : En) : Prop := ∀ r F H m σ vs, HR K r F H m → ER K r F σ δ → RepAll K r F vs ds → ∀ Q : L2.St → Hp → Prop, (∀ σ', ER K r F σ' δ' → Q σ' H) → g vs σ H Q

section
variable {K : PySem.W.Frag} {W : WX} {te ta tb : TE} {tt : TT} {t u : TS} {g : TG} {gs : TGs} {δ δ1 δ2 : En} {m m1 m2 m3 : Store} {d e : D} {o : Out}
theorem OutOk.ext {r r1 : List Addr} {F H F1 H1 : Hp} {D : Ends} (hr : r.length = m.length) (hr1 : r1.length = m1.length) (x : Ext r F H m r1 F1 H1 m1) : ∀ {o : Out}, OutOk K W r F H m D o → OutOk K W r1 F1 H1 m1 D o
  | .nx _ _, q => fun σ' r' F' H' h e y => q σ' r' F' H' h e (x.trans hr1 hr y)
  | .rt _ _, q => fun v r' F' H' h y p => q v r' F' H' h (x.trans hr1 hr y) p
  | .bk _ _, q => fun σ' r' F' H' h e y => q σ' r' F' H' h e (x.trans hr1 hr y)
  | .ct _ _, q => fun σ' r' F' H' h e y => q σ' r' F' H' h e (x.trans hr1 hr y)
  | .ex _ _ _, q => fun σ' r' F' H' h e y => q σ' r' F' H' h e (x.trans hr1 hr y)
theorem YS.of_eq {o' : Out} (h : YS K W t δ m o) (e : o = o') : YS K W t δ m o' := e ▸ h
theorem ys_next : YS K W tNext δ m (.nx δ m) := fun r F H σ D hr er q => q σ r F H hr er (Ext.refl hr)
theorem ys_seq (h1 : YS K W t δ m (.nx δ1 m1)) (h2 : YS K W u δ1 m1 o) : YS K W (tSeq t u) δ m o := fun r F H σ D hr er q =>
  h1 r F H σ { D with nx := u D } hr er fun σ1 r1 F1 H1 hr1 er1 x1 => h2 r1 F1 H1 σ1 D hr1 er1 (q.ext hr.len hr1.len x1)
/-- the first statement leaves -/
def Out.leaves : Out → Bool
  | .nx _ _ => false
  | _ => true
theorem ys_seqX (h1 : YS K W t δ m o) (hl : o.leaves = true) : YS K W (tSeq t u) δ m o := fun r F H σ D hr er q =>
  h1 r F H σ { D with nx := u D } hr er (by cases o with
    | nx _ _ => cases hl
    | rt _ _ => exact q
    | bk _ _ => exact q
    | ct _ _ => exact q
    | ex _ _ _ => exact q)
theorem yg_name {i : Nat} : YG K (gName i) d δ (δ.set i (some d)) := fun r F H m σ v hr er p Q q => q _ (er.set i p)
theorem ygs_nil : YGs K gNil [] δ δ := fun r F H m σ vs hr er p Q q => by cases p; exact ⟨rfl, q σ er⟩
theorem ygs_cons {ds : List D} (h : YG K g d δ δ1) (hs : YGs K gs ds δ1 δ2) : YGs K (gCons g gs) (d :: ds) δ δ2 := fun r F H m σ vs hr er p Q q => by
  cases p with
  | cons p1 p2 => exact ⟨_, _, rfl, h r F H m σ _ hr er p1 _ fun σ1 er1 => hs r F H m σ1 _ hr er1 p2 Q q⟩
theorem yg_tup {ds : List D} {n : Nat} (hl : ds.length = n) (h : YGs K gs ds δ δ1) : YG K (gTup K n gs) (.tup ds) δ δ1 := fun r F H m σ v hr er p Q q => by
  cases p with
  | tup hs ha => exact ⟨_, _, rfl, SqT.of (hr.sub _ _ hs), ha.len.trans hl, h r F H m σ _ hr er ha Q q⟩
theorem ys_asg (he : YE K te δ m d m1) (hg : YG K g d δ δ1) : YS K W (tAsg te g) δ m (.nx δ1 m1) := fun r F H σ D hr er q =>
  he r F H σ hr er _ fun v r1 F1 H1 hr1 x1 p1 => hg r1 F1 H1 m1 σ v hr1 (er.ext x1) p1 _ fun σ1 er1 => q σ1 r1 F1 H1 hr1 er1 x1
theorem ys_set {i : Nat} (he : YE K te δ m d m1) : YS K W (tAsg te (gName i)) δ m (.nx (δ.set i (some d)) m1) := ys_asg he yg_name
theorem ys_expr (he : YE K te δ m d m1) : YS K W (tDrop te) δ m (.nx δ m1) := fun r F H σ D hr er q =>
  he r F H σ hr er _ fun v r1 F1 H1 hr1 x1 p1 => q σ r1 F1 H1 hr1 (er.ext x1) x1
theorem ys_ret (he : YE K te δ m d m1) : YS K W (tRet te) δ m (.rt d m1) := fun r F H σ D hr er q =>
  he r F H σ hr er _ fun v r1 F1 H1 hr1 x1 p1 => q v r1 F1 H1 hr1 x1 p1
theorem ys_retN : YS K W tRetN δ m (.rt .non m) := fun r F H σ D hr er q => q .non r F H hr (Ext.refl hr) .non
theorem ys_break : YS K W tBreak δ m (.bk δ m) := fun r F H σ D hr er q => q σ r F H hr er (Ext.refl hr)
theorem ys_cont : YS K W tCont δ m (.ct δ m) := fun r F H σ D hr er q => q σ r F H hr er (Ext.refl hr)
theorem ys_if {b : Bool} (h : YT K tt δ m b m1) (h1 : b = true → YS K W t δ m1 o) (h2 : b = false → YS K W u δ m1 o) : YS K W (tIfS tt t u) δ m o := fun r F H σ D hr er q =>
  h r F H σ hr er _ fun r1 F1 H1 hr1 x1 => by
    cases b with
    | true => exact h1 rfl r1 F1 H1 σ D hr1 (er.ext x1) (q.ext hr.len hr1.len x1)
    | false => exact h2 rfl r1 F1 H1 σ D hr1 (er.ext x1) (q.ext hr.len hr1.len x1)
theorem ys_ifT (h : YT K tt δ m true m1) (h1 : YS K W t δ m1 o) : YS K W (tIfS tt t u) δ m o := ys_if h (fun _ => h1) (fun z => nomatch z)
theorem ys_ifF (h : YT K tt δ m false m1) (h1 : YS K W u δ m1 o) : YS K W (tIfS tt t u) δ m o := ys_if h (fun z => nomatch z) (fun _ => h1)
/-- both ways, told by the test -/
theorem ys_ite {b : Bool} {o1 o2 : Out} (h : YT K tt δ m b m1) (h1 : b = true → YS K W t δ m1 o1) (h2 : b = false → YS K W u δ m1 o2) : YS K W (tIfS tt t u) δ m (if b = true then o1 else o2) := by
  cases b with
  | true => exact ys_ifT h (h1 rfl)
  | false => exact ys_ifF h (h2 rfl)
theorem YS.weak {δ' : En} (h : YS K W t δ m (.nx δ1 m1)) (w : Weak δ1 δ') : YS K W t δ m (.nx δ' m1) := fun r F H σ D hr er q =>
  h r F H σ D hr er fun σ' r' F' H' h1 e1 x => q σ' r' F' H' h1 (e1.weak w) x
theorem YS.pre {δ' : En} (w : Weak δ' δ) (h : YS K W t δ m o) : YS K W t δ' m o := fun r F H σ D hr er q => h r F H σ D hr (er.weak w) q
/-- xs[i] = e of a cell -/
theorem ixN_get {n : Nat} {i : Int} {j : Nat} (h : ixN n i = some j) : j < n := by
  unfold ixN at h
  split at h
  · split at h
    · cases h; omega
    · cases h
  · split at h
    · cases h; omega
    · cases h
theorem ys_setC {to ti : TE} {k : Nat} {i : Int} {j : Nat} {xs : List D} (he : YE K te δ m d m1) (ho : YE K to δ m1 (.cell k) m2) (hi : YE K ti δ m2 (.int i) m3) (hk : m3[k]? = some (.lst xs)) (hj : ixN xs.length i = some j) :
    YS K W (tAsg te (gSub to ti rSetL)) δ m (.nx δ (m3.set k (.lst (xs.set j d)))) := fun r F H σ D hr er q =>
  he r F H σ hr er _ fun v r1 F1 H1 hr1 x1 p1 => ho r1 F1 H1 σ hr1 (er.ext x1) _ fun ov r2 F2 H2 hr2 x2 p2 => hi r2 F2 H2 σ hr2 ((er.ext x1).ext x2) _ fun iv r3 F3 H3 hr3 x3 p3 => by
    cases p3
    have x13 := (x1.trans hr1.len hr.len x2).trans hr2.len hr.len x3
    have p2' := p2.mono x3.pre x3.sub
    have p1' := (p1.mono x2.pre x2.sub).mono x3.pre x3.sub
    cases p2' with
    | cell ea =>
      obtain ⟨_, vs, h1, h2⟩ := hr3.cell _ _ _ ea hk rfl
      have lv : live m3 k := ⟨_, hk, rfl⟩
      refine ⟨_, vs, i, j, rfl, rfl, h1, by rw [h2.len]; exact hj, ?_⟩
      refine q σ r3 F3 _ (hr3.put lv ea (fun b z => by rw [h1] at z; cases z) ⟨_, upd_same, h2.set p1' j⟩) (er.ext x13) (x13.trans hr3.len hr.len (Ext.put hr3 lv ea))
/-- xs.append(e) of a cell -/
theorem ye_append {to : TE} {k : Nat} {xs ys : List D} (ho : YE K to δ m (.cell k) m1) (hk0 : m1[k]? = some (.lst ys)) (he : YE K te δ m1 d m2) (hk : m2[k]? = some (.lst xs)) (hl : xs.length < 100000) :
    YE K (tBM K "list" rAppend to (tCons te tNil)) δ m .non (m2.set k (.lst (xs ++ [d]))) := fun r F H σ hr er Q q =>
  ho r F H σ hr er _ fun ov r1 F1 H1 hr1 x1 p1 => by
    have tyv : tyV K "list" ov H1 := by
      cases p1 with
      | cell ea =>
        obtain ⟨_, vs, h1, h2⟩ := hr1.cell _ _ _ ea hk0 rfl
        exact .inl ⟨rfl, vs, SqL.of h1⟩
    refine ⟨tyv, ?_⟩
    refine he r1 F1 H1 σ hr1 (er.ext x1) _ fun v r2 F2 H2 hr2 x2 p2 => ?_
    have p1' := p1.mono x2.pre x2.sub
    have x12 := x1.trans hr1.len hr.len x2
    cases p1' with
    | cell ea =>
      obtain ⟨_, vs, h1, h2⟩ := hr2.cell _ _ _ ea hk rfl
      have lv : live m2 k := ⟨_, hk, rfl⟩
      refine ⟨_, vs, v, rfl, rfl, h1, Evl.sz_lt (by rw [h2.len]; exact hl), ?_⟩
      exact q _ r2 F2 _ (hr2.put lv ea (fun b z => by rw [h1] at z; cases z) ⟨_, upd_same, h2.app (.one p2)⟩) (x12.trans hr2.len hr.len (Ext.put hr2 lv ea)) .non
end

/-! ### what is walked -/
/-- the iterator J yields xs, one by one, while C holds of the store -/
def ItOk (K : PySem.W.Frag) (C : Store → Prop) (J : It) (r : List Addr) (F : Hp) (xs : List D) : Prop := ∀ r' F' H' m', Pre r r' → Same F F' → HR K r' F' H' m' → C m' → ∀ i : Nat,
  (∀ d, xs[i]? = some d → J.go i H' ∧ ∀ x H'', J.yld i H' x H'' → ∃ F'', HR K r' F'' H'' m' ∧ Ext r' F' H' m' r' F'' H'' m' ∧ Rep K r' F'' x d) ∧ (xs.length ≤ i → J.stop i H')
def YI (K : PySem.W.Frag) (C : Store → Prop) (wi : TI) (δ : En) (m : Store) (xs : List D) (m' : Store) : Prop := ∀ r F H σ, HR K r F H m → ER K r F σ δ → ∀ R : It → Hp → Prop,
  (∀ J r' F' H', HR K r' F' H' m' → Ext r F H m r' F' H' m' → ItOk K C J r' F' xs → R J H') → wi σ H R
abbrev Any : Store → Prop := fun _ => True
section
variable {K : PySem.W.Frag} {W : WX} {te ta tb : TE} {tt : TT} {t u : TS} {g : TG} {gs : TGs} {δ δ1 δ2 : En} {m m1 m2 m3 : Store} {d e : D} {o : Out} {tas : TA}
theorem yi_list {xs : List D} (h : YE K te δ m (.lst xs) m1) : YI K Any (iList K te) δ m xs m1 := fun r F H σ hr er R q =>
  h r F H σ hr er _ fun v r1 F1 H1 hr1 x1 p1 => by
    cases p1 with
    | lst hs ha =>
      refine ⟨_, rfl, ⟨_, SqL.of (hr1.sub _ _ hs)⟩, q _ r1 F1 H1 hr1 x1 fun r' F' H' m' pr sm hr' _ i => ?_⟩
      have hH := hr'.sub _ _ (sm _ _ hs)
      refine ⟨fun d hd => ?_, fun hi => ⟨_, SqL.of hH, by rw [ha.len]; exact hi⟩⟩
      obtain ⟨v, e1, p⟩ := ha.get hd
      refine ⟨⟨_, v, SqL.of hH, e1⟩, fun x H'' y => ?_⟩
      obtain ⟨rfl, y⟩ := y
      have := y _ (SqL.of hH)
      rw [e1] at this; cases this
      exact ⟨F', hr', Ext.refl hr', p.mono pr sm⟩
theorem yi_cell {xs : List D} {k : Nat} (h : YE K te δ m (.cell k) m1) (hk : m1[k]? = some (.lst xs)) : YI K (fun m' => m'[k]? = some (.lst xs)) (iList K te) δ m xs m1 := fun r F H σ hr er R q =>
  h r F H σ hr er _ fun v r1 F1 H1 hr1 x1 p1 => by
    cases p1 with
    | cell ea =>
      obtain ⟨_, ws, h1, _⟩ := hr1.cell _ _ _ ea hk rfl
      refine ⟨_, rfl, ⟨_, SqL.of h1⟩, q _ r1 F1 H1 hr1 x1 fun r' F' H' m' pr sm hr' hC i => ?_⟩
      obtain ⟨_, vs, hH, ha⟩ := hr'.cell _ _ _ (pr _ _ ea) hC rfl
      refine ⟨fun d hd => ?_, fun hi => ⟨_, SqL.of hH, by rw [ha.len]; exact hi⟩⟩
      obtain ⟨v, e1, p⟩ := ha.get hd
      refine ⟨⟨_, v, SqL.of hH, e1⟩, fun x H'' y => ?_⟩
      obtain ⟨rfl, y⟩ := y
      have := y _ (SqL.of hH)
      rw [e1] at this; cases this
      exact ⟨F', hr', Ext.refl hr', p⟩
theorem yi_scr {ns : List Int} (h : YE K te δ m (.scr ns) m1) : YI K Any (iList K te) δ m (ns.map D.int) m1 := fun r F H σ hr er R q =>
  h r F H σ hr er _ fun v r1 F1 H1 hr1 x1 p1 => by
    cases p1 with
    | scr hs =>
      refine ⟨_, rfl, ⟨_, hr1.sub.seq hs⟩, q _ r1 F1 H1 hr1 x1 fun r' F' H' m' pr sm hr' _ i => ?_⟩
      have hH := hr'.sub.seq (sm.seq hs)
      refine ⟨fun d hd => ?_, fun hi => ⟨_, hH, by rw [List.length_map] at hi ⊢; exact hi⟩⟩
      rw [List.getElem?_map] at hd
      cases e1 : ns[i]? with
      | none => rw [e1] at hd; cases hd
      | some n =>
        rw [e1] at hd; cases hd
        have e2 : (ns.map V.int)[i]? = some (.int n) := by rw [List.getElem?_map, e1]; rfl
        refine ⟨⟨_, _, hH, e2⟩, fun x H'' y => ?_⟩
        obtain ⟨rfl, y⟩ := y
        have := y _ hH
        rw [e2] at this; cases this
        exact ⟨F', hr', Ext.refl hr', .int n⟩
theorem yi_tup {xs : List D} (h : YE K te δ m (.tup xs) m1) : YI K Any (iTup K te) δ m xs m1 := fun r F H σ hr er R q =>
  h r F H σ hr er _ fun v r1 F1 H1 hr1 x1 p1 => by
    cases p1 with
    | tup hs ha =>
      refine ⟨_, rfl, ⟨_, SqT.of (hr1.sub _ _ hs)⟩, q _ r1 F1 H1 hr1 x1 fun r' F' H' m' pr sm hr' _ i => ?_⟩
      have hH := SqT.of (K := K) (hr'.sub _ _ (sm _ _ hs))
      refine ⟨fun d hd => ?_, fun hi => ⟨_, hH, by rw [ha.len]; exact hi⟩⟩
      obtain ⟨v, e1, p⟩ := ha.get hd
      refine ⟨⟨_, v, hH, e1⟩, fun x H'' y => ?_⟩
      obtain ⟨rfl, y⟩ := y
      have := y _ hH
      rw [e1] at this; cases this
      exact ⟨F', hr', Ext.refl hr', p.mono pr sm⟩
/-- range(n) -/
def rng (lo : Int) (n : Nat) : List D := (List.range n).map fun i : Nat => D.int (lo + (i : Int))
theorem rng_get {lo : Int} {n i : Nat} {d : D} (h : (rng lo n)[i]? = some d) : i < n ∧ d = .int (lo + (i : Int)) := by
  unfold rng at h
  rw [List.getElem?_map] at h
  by_cases hi : i < n
  · rw [List.getElem?_range hi] at h; cases h; exact ⟨hi, rfl⟩
  · rw [List.getElem?_eq_none (by simpa using hi)] at h; cases h
theorem rng_len (lo : Int) (n : Nat) : (rng lo n).length = n := by simp [rng]
theorem itr_ok {C : Store → Prop} {lo : Int} {n : Nat} {r : List Addr} {F : Hp} : ItOk K C (Itr lo n) r F (rng lo n) := fun r' F' H' m' pr sm hr' _ i =>
  ⟨fun d hd => by
    obtain ⟨hi, rfl⟩ := rng_get hd
    refine ⟨hi, fun x H'' y => ?_⟩
    obtain ⟨rfl, rfl⟩ := y
    exact ⟨F', hr', Ext.refl hr', .int _⟩, fun hi => by rw [rng_len] at hi; exact hi⟩
theorem yi_range1 {n : Int} (h : YA K tas δ m [.int n] m1) (hn : -(2 ^ 62) ≤ n ∧ n < 2 ^ 62) : YI K Any (iRng1 tas) δ m (rng 0 n.toNat) m1 := fun r F H σ hr er R q =>
  h r F H σ hr er _ fun vs r1 F1 H1 hr1 x1 p1 => by
    cases p1 with
    | cons p p1 => cases p1; cases p; exact ⟨n, rfl, hn.1, hn.2, q _ r1 F1 H1 hr1 x1 itr_ok⟩
theorem yi_range2 {a b : Int} (h : YA K tas δ m [.int a, .int b] m1) (hn : -(2 ^ 62) ≤ a ∧ a < 2 ^ 62 ∧ -(2 ^ 62) ≤ b ∧ b < 2 ^ 62) : YI K Any (iRng2 tas) δ m (rng a (b - a).toNat) m1 := fun r F H σ hr er R q =>
  h r F H σ hr er _ fun vs r1 F1 H1 hr1 x1 p1 => by
    cases p1 with
    | cons p p1 => cases p1 with
      | cons p' p1 => cases p1; cases p; cases p'; exact ⟨a, b, rfl, hn, q _ r1 F1 H1 hr1 x1 itr_ok⟩

/-! ### for -/
/-- how a turn that leaves the loop ends it -/
inductive LoopX : Out → Out → Prop
  | rt {d : D} {m : Store} : LoopX (.rt d m) (.rt d m)
  | bk {δ : En} {m : Store} : LoopX (.bk δ m) (.nx δ m)
  | ex {C : Value} {δ : En} {m : Store} : LoopX (.ex C δ m) (.ex C δ m)
/-- a turn's end -/
inductive TurnX (δ : En) (m : Store) : Out → Prop
  | nx {δ' : En} : Weak δ' δ → TurnX δ m (.nx δ' m)
  | ct {δ' : En} : Weak δ' δ → TurnX δ m (.ct δ' m)
theorem ys_forG {C : Store → Prop} {wi : TI} {xs : List D} (hi : YI K C wi δ m xs m1) (n : Nat) (δs : Nat → En) (ms : Nat → Store) (h0 : Weak δ (δs 0)) (e0 : ms 0 = m1) (hC : ∀ i, i ≤ n → C (ms i)) (hn : n ≤ xs.length)
    (step : ∀ i d, i < n → xs[i]? = some d → ∃ δ' o', YG K g d (δs i) δ' ∧ YS K W t δ' (ms i) o' ∧ TurnX (δs (i + 1)) (ms (i + 1)) o')
    (last : (n = xs.length ∧ o = .nx (δs n) (ms n)) ∨ ∃ d δ' o', xs[n]? = some d ∧ YG K g d (δs n) δ' ∧ YS K W t δ' (ms n) o' ∧ LoopX o' o) : YS K W (tFor wi g t) δ m o := fun r F H σ D hr er q =>
  hi r F H σ hr er _ fun J r1 F1 H1 hr1 x1 ok => by
    subst e0
    let Pv : Nat → L2.St → Hp → Prop := fun i σ' H' => ∃ r' F', HR K r' F' H' (ms i) ∧ ER K r' F' σ' (δs i) ∧ Ext r F H m r' F' H' (ms i) ∧ Pre r1 r' ∧ Same F1 F'
    refine ⟨fun i mm σ' H' => mm = xs.length - i ∧ i ≤ n ∧ Pv i σ' H', ⟨xs.length, by simp, Nat.zero_le _, r1, F1, hr1, (er.ext x1).weak h0, x1, Pre.refl _, Same.refl _⟩, ?_⟩
    rintro i mm σ' H' ⟨rfl, hin, r', F', hr', er', x', pr', sm'⟩
    obtain ⟨go, stop⟩ := ok r' F' H' (ms i) pr' sm' hr' (hC i hin) i
    have body : ∀ (d : DL.D) (δ' : En) (o' : Out) (N : L2.St → Hp → Prop) x H'', YG K g d (δs i) δ' → YS K W t δ' (ms i) o' → (∃ F'', HR K r' F'' H'' (ms i) ∧ Ext r' F' H' (ms i) r' F'' H'' (ms i) ∧ Rep K r' F'' x d) →
        (∀ r2 F2 H2, Ext r F H m r2 F2 H2 (ms i) → r2.length = (ms i).length → Pre r1 r2 → Same F1 F2 → OutOk K W r2 F2 H2 (ms i) { D with nx := N, ct := N, bk := D.nx } o') → g x σ' H'' fun σ2 H2 => t { D with nx := N, ct := N, bk := D.nx } σ2 H2 := by
      rintro d δ' o' N x H'' hg hs ⟨F'', hr2, x2, p2⟩ hq
      refine hg r' F'' H'' (ms i) σ' x hr2 (er'.ext x2) p2 _ fun σ2 er2 => hs r' F'' H'' σ2 _ hr2 er2 (hq r' F'' H'' (x'.trans hr'.len hr.len x2) hr2.len pr' (sm'.trans x2.sub))
    by_cases hlt : i < n
    · have hx : i < xs.length := Nat.lt_of_lt_of_le hlt hn
      have ed : xs[i]? = some xs[i] := List.getElem?_eq_getElem hx
      obtain ⟨hgo, hy⟩ := go _ ed
      obtain ⟨δ', o', hg, hs, hT⟩ := step i _ hlt ed
      refine .inr ⟨hgo, Pv (i + 1), fun σ2 H2 p2 => ⟨xs.length - (i + 1), by omega, rfl, hlt, p2⟩, fun x H'' y => body _ δ' o' _ x H'' hg hs (hy x H'' y) fun r2 F2 H2 x2 l2 pr2 sm2 => ?_⟩
      cases hT with
      | nx w => exact fun σ3 r3 F3 H3 hr3 er3 x3 => ⟨r3, F3, hr3, er3.weak w, x2.trans l2 hr.len x3, pr2.trans x3.pre, sm2.trans x3.sub⟩
      | ct w => exact fun σ3 r3 F3 H3 hr3 er3 x3 => ⟨r3, F3, hr3, er3.weak w, x2.trans l2 hr.len x3, pr2.trans x3.pre, sm2.trans x3.sub⟩
    · have hi' : i = n := by omega
      subst hi'
      rcases last with ⟨e, rfl⟩ | ⟨d, δ', o', ed, hg, hs, hX⟩
      · exact .inl ⟨stop (by omega), q σ' r' F' H' hr' er' x'⟩
      · obtain ⟨hgo, hy⟩ := go _ ed
        refine .inr ⟨hgo, fun _ _ => False, fun σ2 H2 p2 => p2.elim, fun x H'' y => body _ δ' o' _ x H'' hg hs (hy x H'' y) fun r2 F2 H2 x2 l2 pr2 sm2 => ?_⟩
        cases hX with
        | rt => exact fun v r3 F3 H3 hr3 x3 p3 => q v r3 F3 H3 hr3 (x2.trans l2 hr.len x3) p3
        | bk => exact fun σ3 r3 F3 H3 hr3 er3 x3 => q σ3 r3 F3 H3 hr3 er3 (x2.trans l2 hr.len x3)
        | ex => exact fun σ3 r3 F3 H3 hr3 er3 x3 => q σ3 r3 F3 H3 hr3 er3 (x2.trans l2 hr.len x3)
/-- while: st by the turn's number -/
theorem ys_while (n : Nat) (δs : Nat → En) (ms : Nat → Store) (h0 : Weak δ (δs 0)) (e0 : ms 0 = m)
    (step : ∀ i, i < n → ∃ m1 o', YT K tt (δs i) (ms i) true m1 ∧ YS K W t (δs i) m1 o' ∧ TurnX (δs (i + 1)) (ms (i + 1)) o')
    (last : (∃ m1, YT K tt (δs n) (ms n) false m1 ∧ o = .nx (δs n) m1) ∨ ∃ m1 o', YT K tt (δs n) (ms n) true m1 ∧ YS K W t (δs n) m1 o' ∧ LoopX o' o) : YS K W (tWhile tt t) δ m o := fun r F H σ D hr er q => by
    subst e0
    let Pv : Nat → L2.St → Hp → Prop := fun i σ' H' => ∃ r' F', HR K r' F' H' (ms i) ∧ ER K r' F' σ' (δs i) ∧ Ext r F H (ms 0) r' F' H' (ms i)
    refine ⟨fun mm σ' H' => ∃ i, mm = n - i ∧ i ≤ n ∧ Pv i σ' H', ⟨n, 0, by simp, Nat.zero_le _, r, F, hr, er.weak h0, Ext.refl hr⟩, ?_⟩
    rintro mm σ' H' ⟨i, rfl, hin, r', F', hr', er', x'⟩
    by_cases hlt : i < n
    · obtain ⟨m1, o', ht, hs, hT⟩ := step i hlt
      refine ht r' F' H' σ' hr' er' _ fun r2 F2 H2 hr2 x2 => ?_
      rw [if_pos rfl]
      refine ⟨Pv (i + 1), fun σ3 H3 p3 => ⟨n - (i + 1), by omega, i + 1, rfl, hlt, p3⟩, hs r2 F2 H2 σ' _ hr2 (er'.ext x2) ?_⟩
      have x02 := x'.trans hr'.len hr.len x2
      cases hT with
      | nx w => exact fun σ3 r3 F3 H3 hr3 er3 x3 => ⟨r3, F3, hr3, er3.weak w, x02.trans hr2.len hr.len x3⟩
      | ct w => exact fun σ3 r3 F3 H3 hr3 er3 x3 => ⟨r3, F3, hr3, er3.weak w, x02.trans hr2.len hr.len x3⟩
    · have hi' : i = n := by omega
      subst hi'
      rcases last with ⟨m1, ht, rfl⟩ | ⟨m1, o', ht, hs, hX⟩
      · refine ht r' F' H' σ' hr' er' _ fun r2 F2 H2 hr2 x2 => ?_
        rw [if_neg Bool.false_ne_true]
        exact q σ' r2 F2 H2 hr2 (er'.ext x2) (x'.trans hr'.len hr.len x2)
      · refine ht r' F' H' σ' hr' er' _ fun r2 F2 H2 hr2 x2 => ?_
        rw [if_pos rfl]
        have x02 := x'.trans hr'.len hr.len x2
        refine ⟨fun _ _ => False, fun σ3 H3 p3 => p3.elim, hs r2 F2 H2 σ' _ hr2 (er'.ext x2) ?_⟩
        cases hX with
        | rt => exact fun v r3 F3 H3 hr3 x3 p3 => q v r3 F3 H3 hr3 (x02.trans hr2.len hr.len x3) p3
        | bk => exact fun σ3 r3 F3 H3 hr3 er3 x3 => q σ3 r3 F3 H3 hr3 er3 (x02.trans hr2.len hr.len x3)
        | ex => exact fun σ3 r3 F3 H3 hr3 er3 x3 => q σ3 r3 F3 H3 hr3 er3 (x02.trans hr2.len hr.len x3)
end
end DL
namespace DL
open PySem PySem.Spec PyProof.Rows L2

/-! ### comprehensions -/
theorem wipe_get {σ : L2.St} {i : Nat} : ∀ {vs : List Nat}, (wipe σ vs)[i]? = if i ∈ vs then (if i < σ.length then some none else none) else σ[i]?
  | [] => by simp [wipe]
  | v :: vs => by
    unfold wipe
    by_cases hv : v = i
    · subst hv
      by_cases hl : v < σ.length
      · rw [List.getElem?_set_self (by rw [wipe_length]; exact hl)]; simp [hl]
      · rw [List.getElem?_eq_none (by rw [List.length_set, wipe_length]; omega)]; simp [hl]
    · rw [List.getElem?_set_ne hv, wipe_get (vs := vs)]
      have : (i ∈ v :: vs) ↔ i ∈ vs := by simp [Ne.symm hv]
      simp [this]
theorem wipe_set {σ : L2.St} {j : Nat} {x : Option V} {vs : List Nat} (h : j ∈ vs) : wipe (σ.set j x) vs = wipe σ vs := by
  apply List.ext_getElem?
  intro i
  rw [wipe_get, wipe_get]
  by_cases hi : i ∈ vs
  · simp [hi]
  · have : j ≠ i := fun e => hi (e ▸ h)
    simp [hi, List.getElem?_set_ne this]
theorem wipe_wipe {σ : L2.St} {vs : List Nat} : wipe (wipe σ vs) vs = wipe σ vs := by
  apply List.ext_getElem?
  intro i
  rw [wipe_get, wipe_length, wipe_get]
  by_cases hi : i ∈ vs <;> simp [hi]
def wipeE (δ : En) : List Nat → En
  | [] => δ
  | v :: vs => (wipeE δ vs).set v none
theorem wipeE_len (δ : En) : ∀ vs : List Nat, (wipeE δ vs).length = δ.length
  | [] => rfl
  | v :: vs => by unfold wipeE; rw [List.length_set, wipeE_len δ vs]
theorem wipeE_some {δ : En} {i : Nat} {d : D} : ∀ {vs : List Nat}, (wipeE δ vs)[i]? = some (some d) → δ[i]? = some (some d) ∧ i ∉ vs
  | [], h => ⟨h, by simp⟩
  | v :: vs, h => by
    unfold wipeE at h
    by_cases hi : v = i
    · subst hi
      by_cases hv : v < (wipeE δ vs).length
      · rw [List.getElem?_set_self hv] at h; cases h
      · rw [List.getElem?_eq_none (by simpa using hv)] at h; cases h
    · rw [List.getElem?_set_ne hi] at h
      obtain ⟨h1, h2⟩ := wipeE_some h
      exact ⟨h1, by simp only [List.mem_cons, not_or]; exact ⟨fun e => hi e.symm, h2⟩⟩
theorem ER.wipe {K : PySem.W.Frag} {r : List Addr} {F : Hp} {σ : L2.St} {δ : En} (h : ER K r F σ δ) (vs : List Nat) : ER K r F (L2.wipe σ vs) (wipeE δ vs) := by
  refine ⟨by rw [wipe_length, wipeE_len]; exact h.1, fun i d e => ?_⟩
  obtain ⟨e1, e2⟩ := wipeE_some e
  obtain ⟨v, q, p⟩ := h.2 i d e1
  exact ⟨v, by rw [wipe_get]; simp [e2, q], p⟩
/-- a target whose slots are vs's -/
def YGw (K : PySem.W.Frag) (vs : List Nat) (g : TG) (d : D) (δ δ' : En) : Prop := ∀ r F H m σ v, HR K r F H m → ER K r F σ δ → Rep K r F v d → ∀ Q : L2.St → Hp → Prop, (∀ σ', ER K r F σ' δ' → wipe σ' vs = wipe σ vs → Q σ' H) → g v σ H Q
def YGws (K : PySem.W.Frag) (vs : List Nat) (g : TGs) (ds : List D) (δ δ' : En) : Prop := ∀ r F H m σ ws, HR K r F H m → ER K r F σ δ → RepAll K r F ws ds → ∀ Q : L2.St → Hp → Prop, (∀ σ', ER K r F σ' δ' → wipe σ' vs = wipe σ vs → Q σ' H) → g ws σ H Q
section
variable {K : PySem.W.Frag} {W : WX} {te ta tb : TE} {tt : TT} {t u : TS} {g : TG} {gs : TGs} {δ δ1 δ2 : En} {m m1 m2 m3 : Store} {d e : D} {o : Out} {tas : TA} {vs : List Nat}
theorem ygw_name {i : Nat} (h : i ∈ vs) : YGw K vs (gName i) d δ (δ.set i (some d)) := fun r F H m σ v hr er p Q q => q _ (er.set i p) (wipe_set h)
theorem ygws_nil : YGws K vs gNil [] δ δ := fun r F H m σ ws hr er p Q q => by cases p; exact ⟨rfl, q σ er rfl⟩
theorem ygws_cons {ds : List D} (h : YGw K vs g d δ δ1) (hs : YGws K vs gs ds δ1 δ2) : YGws K vs (gCons g gs) (d :: ds) δ δ2 := fun r F H m σ ws hr er p Q q => by
  cases p with
  | cons p1 p2 => exact ⟨_, _, rfl, h r F H m σ _ hr er p1 _ fun σ1 er1 w1 => hs r F H m σ1 _ hr er1 p2 Q fun σ2 er2 w2 => q σ2 er2 (w2.trans w1)⟩
theorem ygw_tup {ds : List D} {n : Nat} (hl : ds.length = n) (h : YGws K vs gs ds δ δ1) : YGw K vs (gTup K n gs) (.tup ds) δ δ1 := fun r F H m σ v hr er p Q q => by
  cases p with
  | tup hs ha => exact ⟨_, _, rfl, SqT.of (hr.sub _ _ hs), ha.len.trans hl, h r F H m σ _ hr er ha Q q⟩
/-- a side object through the work -/
theorem Ext.side_keep {r r' : List Addr} {F F' H H' : Hp} {m' : Store} (x : Ext r F H m r' F' H' m') (hl : r.length = m.length) {p : Addr} {o : HO} (hp : H p = some o) (fp : F p = none) (np : ∀ (k : Nat), live m k → r[k]? ≠ some p) :
    H' p = some o ∧ F' p = none ∧ ∀ (k : Nat), live m' k → r'[k]? ≠ some p := by
  refine ⟨x.keep p o hp np, ?_, fun k l e => ?_⟩
  · cases q : F' p with
    | none => rfl
    | some u =>
      rcases x.new p fp (by rw [q]; exact fun z => nomatch z) with z | ⟨k, l, z⟩
      · rw [hp] at z; cases z
      · exact absurd z (np k l)
  · by_cases hk : k < m.length
    · have hr : k < r.length := by rw [hl]; exact hk
      have e1 : r[k]? = some r[k] := List.getElem?_eq_getElem hr
      have e2 := x.pre k _ e1
      rw [e] at e2
      exact np k (x.dead k hk l) (by rw [e1, ← e2])
    · have := x.fresh k p (Nat.not_lt.mp hk) e
      rw [hp] at this; cases this
theorem Ext.sideSet {r r' : List Addr} {F F' H H' : Hp} {m' : Store} (x : Ext r F H m r' F' H' m') {p : Addr} {o : HO} (hp : H p = none) : Ext r F H m r' F' (upd H' p o) m' where
  pre := x.pre
  sub := x.sub
  keep := fun a u e n => by rw [upd_ne (ne_of_none e hp)]; exact x.keep a u e n
  new := x.new
  fresh := x.fresh
  dead := x.dead
  mlen := x.mlen
  trk := fun a u e => by rw [upd_ne (ne_of_none e hp)]; exact x.trk a u e
theorem yn_lcG {C : Store → Prop} {wi : TI} {xs : List D} (hi : YI K C wi δ m xs m1) (ms : Nat → Store) (outs : Nat → List D) (e0 : ms 0 = m1) (o0 : outs 0 = []) (hC : ∀ i, i ≤ xs.length → C (ms i)) (hl : ∀ i, i ≤ xs.length → (outs i).length < 100000)
    (step : ∀ i d, xs[i]? = some d → ∃ δ' b m', YGw K vs g d (wipeE δ vs) δ' ∧ YT K tt δ' (ms i) b m' ∧ (b = true → ∃ z, YE K te δ' m' z (ms (i + 1)) ∧ outs (i + 1) = outs i ++ [z]) ∧ (b = false → m' = ms (i + 1) ∧ outs (i + 1) = outs i)) :
    YN K (tLc wi g tt te vs) δ m (outs xs.length) (ms xs.length) := fun r F H σ hr er Q q =>
  hi r F H σ hr er _ fun J r1 F1 H1 hr1 x1 ok Dl hD => by
    subst e0
    have hD0 : H Dl = none := trk_back x1 hD
    let Pv : Nat → Hp → Prop := fun i H' => ∃ r' F' ws, HR K r' F' H' (ms i) ∧ Ext r F H m r' F' H' (ms i) ∧ Pre r1 r' ∧ Same F1 F' ∧ H' Dl = some (.lst ws) ∧ RepAll K r' F' ws (outs i) ∧ F' Dl = none ∧ ∀ (k : Nat), live (ms i) k → r'[k]? ≠ some Dl
    refine ⟨fun i mm H' => mm = xs.length - i ∧ i ≤ xs.length ∧ Pv i H', ⟨xs.length, by simp, Nat.zero_le _, r1, F1, [], hr1.side hD, x1.trans hr1.len hr.len (Ext.side hr1 hD), Pre.refl _, Same.refl _, upd_same, by rw [o0]; exact .nil, hr1.sub.free hD, fun k l e => (hr1.ne_new hD l e) rfl⟩, ?_⟩
    rintro i mm H' ⟨rfl, hin, r', F', ws, hr', x', pr', sm', hw, ra, fD, nD⟩
    obtain ⟨go, stop⟩ := ok r' F' H' (ms i) pr' sm' hr' (hC i hin) i
    by_cases hlt : i < xs.length
    · have ed : xs[i]? = some xs[i] := List.getElem?_eq_getElem hlt
      obtain ⟨hgo, hy⟩ := go _ ed
      obtain ⟨δ', b, m', hg, ht, hyes, hno⟩ := step i _ ed
      refine .inr ⟨hgo, Pv (i + 1), fun H2 p2 => ⟨xs.length - (i + 1), by omega, rfl, hlt, p2⟩, fun x H'' y => ?_⟩
      obtain ⟨F2, hr2, x2, p2⟩ := hy x H'' y
      have er2 : ER K r' F2 (wipe σ vs) (wipeE δ vs) := ((er.ext x').ext x2).wipe vs
      obtain ⟨hw2, fD2, nD2⟩ := x2.side_keep hr'.len hw fD nD
      refine hg r' F2 H'' (ms i) (wipe σ vs) x hr2 er2 p2 _ fun σ3 er3 w3 => ⟨w3.trans wipe_wipe, ?_⟩
      refine ht r' F2 H'' σ3 hr2 er3 _ fun r4 F4 H4 hr4 x4 => ?_
      have x24 := x2.trans hr2.len hr'.len x4
      obtain ⟨hw4, fD4, nD4⟩ := x24.side_keep hr'.len hw fD nD
      have x04 := x'.trans hr'.len hr.len x24
      cases b with
      | true =>
        rw [if_pos rfl]
        obtain ⟨z, he, eo⟩ := hyes rfl
        refine he r4 F4 H4 σ3 hr4 (er3.ext x4) _ fun v r5 F5 H5 hr5 x5 p5 => ?_
        obtain ⟨hw5, fD5, nD5⟩ := x5.side_keep hr4.len hw4 fD4 nD4
        have ra5 := (ra.mono x24.pre x24.sub).mono x5.pre x5.sub
        refine ⟨ws, hw5, Evl.sz_lt (by rw [ra.len]; exact hl i hin), r5, F5, ws ++ [v], hr5.sideSet fD5 nD5 (fun b z => by rw [hw5] at z; cases z), (x04.trans hr4.len hr.len x5).sideSet hD0, (pr'.trans x24.pre).trans x5.pre, (sm'.trans x24.sub).trans x5.sub, upd_same, ?_, fD5, nD5⟩
        rw [eo]; exact ra5.app (.one p5)
      | false =>
        rw [if_neg Bool.false_ne_true]
        obtain ⟨em, eo⟩ := hno rfl
        subst em
        exact ⟨r4, F4, ws, hr4, x04, pr'.trans x24.pre, sm'.trans x24.sub, hw4, by rw [eo]; exact ra.mono x24.pre x24.sub, fD4, nD4⟩
    · have hi' : i = xs.length := by omega
      subst hi'
      exact .inl ⟨stop (Nat.le_refl _), q Dl ws r' F' H' hr' x' hD0 fD nD hw ra⟩
theorem yt_yes : YT K tYes δ m true m := fun r F H σ hr er Q q => q r F H hr (Ext.refl hr)
/-- a comprehension that changes no cell, over typed items -/
theorem yn_lc {α : Type} {C : Store → Prop} {wi : TI} (ys : List α) (en : α → D) (p : α → Bool) (f : α → D) (hi : YI K C wi δ m (ys.map en) m1) (hC : C m1) (hl : ys.length < 100000)
    (step : ∀ y ∈ ys, ∃ δ', YGw K vs g (en y) (wipeE δ vs) δ' ∧ YT K tt δ' m1 (p y) m1 ∧ (p y = true → YE K te δ' m1 (f y) m1)) : YN K (tLc wi g tt te vs) δ m ((ys.filter p).map f) m1 := by
  have key := yn_lcG (K := K) (g := g) (tt := tt) (te := te) (vs := vs) hi (fun _ => m1) (fun i => ((ys.take i).filter p).map f) rfl (by simp) (fun _ _ => hC) (fun i _ => by
    rw [List.length_map]
    refine Nat.lt_of_le_of_lt (List.length_filter_le _ _) ?_
    rw [List.length_take]; omega) (fun i d hd => by
      rw [List.getElem?_map] at hd
      cases e : ys[i]? with
      | none => rw [e] at hd; cases hd
      | some y =>
        rw [e] at hd; cases hd
        obtain ⟨δ', h1, h2, h3⟩ := step y (List.mem_of_getElem? e)
        have et : ys.take (i + 1) = ys.take i ++ [y] := by rw [List.take_add_one, e]; rfl
        refine ⟨δ', p y, m1, h1, h2, fun hp => ⟨f y, h3 hp, ?_⟩, fun hp => ⟨rfl, ?_⟩⟩
        · show ((ys.take (i + 1)).filter p).map f = _
          rw [et, List.filter_append, List.map_append]; simp [hp]
        · show ((ys.take (i + 1)).filter p).map f = _
          rw [et, List.filter_append, List.map_append]; simp [hp])
  have e : ((ys.take (ys.map en).length).filter p).map f = (ys.filter p).map f := by rw [List.length_map, List.take_length]
  rw [← e]
  exact key
/-- .. without a test -/
theorem yn_lcM {α : Type} {C : Store → Prop} {wi : TI} (ys : List α) (en : α → D) (f : α → D) (hi : YI K C wi δ m (ys.map en) m1) (hC : C m1) (hl : ys.length < 100000)
    (step : ∀ y ∈ ys, ∃ δ', YGw K vs g (en y) (wipeE δ vs) δ' ∧ YE K te δ' m1 (f y) m1) : YN K (tLc wi g tYes te vs) δ m (ys.map f) m1 := by
  have := yn_lc (K := K) (g := g) (tt := tYes) (te := te) (vs := vs) ys en (fun _ => true) f hi hC hl fun y hy => by
    obtain ⟨δ', h1, h2⟩ := step y hy
    exact ⟨δ', h1, yt_yes, fun _ => h2⟩
  rwa [List.filter_eq_self.mpr (fun _ _ => rfl)] at this

/-! ### calls and defs -/
inductive Res where
  | ok (d : D)
  | ex (C : Value)
abbrev Spec := List D → Store → Res → Store → Prop
def ResOk (K : PySem.W.Frag) (r : List Addr) (F H : Hp) (m : Store) (Q : VK) (E : XK) (m' : Store) : Res → Prop
  | .ok d => Post1 K r F H m d m' Q
  | .ex C => ∀ r' F' H', HR K r' F' H' m' → Ext r F H m r' F' H' m' → E C none H'
def spD (K : PySem.W.Frag) (S : Spec) : Sp := fun vs H Q E => ∃ r F m ds res m', HR K r F H m ∧ RepAll K r F vs ds ∧ S ds m res m' ∧ ResOk K r F H m Q E m' res
theorem ye_call {S : Spec} {ds : List D} (ha : YA K tas δ m ds m1) (hs : S ds m1 (.ok d) m2) : YE K (tCall (spD K S) [] E0 tas) δ m d m2 := fun r F H σ hr er Q q =>
  ha r F H σ hr er _ fun ws r1 F1 H1 hr1 x1 p1 => by
    show spD K S (ws ++ []) H1 Q E0
    rw [List.append_nil]
    exact ⟨r1, F1, m1, ds, .ok d, m2, hr1, p1, hs, fun v r2 F2 H2 hr2 x2 p2 => q v r2 F2 H2 hr2 (x1.trans hr1.len hr.len x2) p2⟩
theorem ye_callS {S : Spec} {ds : List D} {E : L2.St → XK} (ha : YA K tas δ m ds m1) (hs : S ds m1 (.ok d) m2) : YE K (tCallS (spD K S) E tas) δ m d m2 := fun r F H σ hr er Q q =>
  ha r F H σ hr er _ fun ws r1 F1 H1 hr1 x1 p1 =>
    ⟨r1, F1, m1, ds, .ok d, m2, hr1, p1, hs, fun v r2 F2 H2 hr2 x2 p2 => q v r2 F2 H2 hr2 (x1.trans hr1.len hr.len x2) p2⟩

end
mutual
/-- its cells are below n -/
def D.und (n : Nat) : D → Bool
  | .lst xs => D.unds n xs
  | .tup xs => D.unds n xs
  | .cell k => decide (k < n)
  | _ => true
def D.unds (n : Nat) : List D → Bool
  | [] => true
  | d :: ds => D.und n d && D.unds n ds
end
mutual
theorem D.pure_und (n : Nat) : ∀ d : D, d.pure = true → d.und n = true
  | .non, _ => rfl
  | .bl _, _ => rfl
  | .int _, _ => rfl
  | .str _, _ => rfl
  | .scr _, _ => rfl
  | .cell _, h => nomatch h
  | .exc _, h => nomatch h
  | .lst xs, h => D.pures_und n xs h
  | .tup xs, h => D.pures_und n xs h
theorem D.pures_und (n : Nat) : ∀ ds : List D, D.pures ds = true → D.unds n ds = true
  | [], _ => rfl
  | d :: ds, h => by
    have q : (D.pure d && D.pures ds) = true := h
    show (D.und n d && D.unds n ds) = true
    rw [D.pure_und n d (Bool.and_eq_true_iff.mp q).1, D.pures_und n ds (Bool.and_eq_true_iff.mp q).2]; rfl
end
mutual
theorem D.und_mono {n n' : Nat} (h : n ≤ n') : ∀ d : D, d.und n = true → d.und n' = true
  | .non, _ => rfl
  | .bl _, _ => rfl
  | .int _, _ => rfl
  | .str _, _ => rfl
  | .scr _, _ => rfl
  | .exc _, _ => rfl
  | .cell k, q => by
    have : k < n := of_decide_eq_true q
    exact decide_eq_true (by omega)
  | .lst xs, q => D.unds_mono h xs q
  | .tup xs, q => D.unds_mono h xs q
theorem D.unds_mono {n n' : Nat} (h : n ≤ n') : ∀ ds : List D, D.unds n ds = true → D.unds n' ds = true
  | [], _ => rfl
  | d :: ds, q => by
    have q : (D.und n d && D.unds n ds) = true := q
    show (D.und n' d && D.unds n' ds) = true
    rw [D.und_mono h d (Bool.and_eq_true_iff.mp q).1, D.unds_mono h ds (Bool.and_eq_true_iff.mp q).2]; rfl
end
section
variable {K : PySem.W.Frag} {r : List Addr} {F : Hp} {n : Nat}
mutual
theorem Rep.und : ∀ {v : V} {d : D}, Rep K r F v d → d.und r.length = true
  | _, _, .non => rfl
  | _, _, .bl _ => rfl
  | _, _, .int _ => rfl
  | _, _, .str _ => rfl
  | _, _, .scr _ => rfl
  | _, _, .exc _ => rfl
  | _, _, .lst _ h => RepAll.und h
  | _, _, .tup _ h => RepAll.und h
  | _, _, .cell h => decide_eq_true (List.getElem?_eq_some_iff.mp h).1
theorem RepAll.und : ∀ {vs : List V} {ds : List D}, RepAll K r F vs ds → D.unds r.length ds = true
  | _, _, .nil => rfl
  | _, _, .cons h t => by
    show (D.und _ _ && D.unds _ _) = true
    rw [Rep.und h, RepAll.und t]; rfl
end
mutual
theorem Rep.cut : ∀ {v : V} {d : D}, d.und n = true → Rep K r F v d → Rep K (r.take n) F v d
  | _, _, _, .non => .non
  | _, _, _, .bl b => .bl b
  | _, _, _, .int i => .int i
  | _, _, _, .str x => .str x
  | _, _, _, .scr h => .scr h
  | _, _, _, .exc h => .exc h
  | _, _, p, .lst s h => .lst s (RepAll.cut p h)
  | _, _, p, .tup s h => .tup s (RepAll.cut p h)
  | _, _, p, .cell h => .cell (by rw [List.getElem?_take, if_pos (of_decide_eq_true p)]; exact h)
theorem RepAll.cut : ∀ {vs : List V} {ds : List D}, D.unds n ds = true → RepAll K r F vs ds → RepAll K (r.take n) F vs ds
  | _, _, _, .nil => .nil
  | _, _, p, .cons h t =>
    have q : (D.und n _ && D.unds n _) = true := p
    .cons (Rep.cut (Bool.and_eq_true_iff.mp q).1 h) (RepAll.cut (Bool.and_eq_true_iff.mp q).2 t)
end
end
def belowF (n : Nat) (fs : List (Str × D)) : Bool := fs.all fun p => p.2.und n
def belowK (n : Nat) (fs : List (Key × D)) : Bool := fs.all fun p => p.2.und n
def Cell.und (n : Nat) : Cell → Bool
  | .lst xs => D.unds n xs
  | .ins _ fs => belowF n fs
  | .dK kvs => belowK n kvs
  | .gone => true
  | .fz kvs => belowK n kvs
theorem belowF_mono {n n' : Nat} (h : n ≤ n') {fs : List (Str × D)} (q : belowF n fs = true) : belowF n' fs = true := List.all_eq_true.mpr fun p hp => D.und_mono h _ (List.all_eq_true.mp q p hp)
theorem belowK_mono {n n' : Nat} (h : n ≤ n') {fs : List (Key × D)} (q : belowK n fs = true) : belowK n' fs = true := List.all_eq_true.mpr fun p hp => D.und_mono h _ (List.all_eq_true.mp q p hp)
theorem Cell.und_mono {n n' : Nat} (h : n ≤ n') : ∀ {c : Cell}, c.und n = true → c.und n' = true
  | .lst xs, q => D.unds_mono h xs q
  | .ins _ fs, q => belowF_mono h q
  | .dK kvs, q => belowK_mono h q
  | .gone, _ => rfl
  | .fz kvs, q => belowK_mono h q
section
variable {K : PySem.W.Frag} {r : List Addr} {F H : Hp} {n : Nat} {m m' m0 loc : Store}
theorem RepF.und : ∀ {gs : List (Str × V)} {fs : List (Str × D)}, RepF K r F gs fs → belowF r.length fs = true
  | [], [], _ => rfl
  | (_, _) :: gs, (_, _) :: fs, h => by
    show ((D.und _ _) && belowF _ fs) = true
    rw [h.2.1.und, RepF.und h.2.2]; rfl
  | [], _ :: _, h => h.elim
  | _ :: _, [], h => h.elim
theorem RepK.und : ∀ {gs : List (Key × V)} {fs : List (Key × D)}, RepK K r F gs fs → belowK r.length fs = true
  | [], [], _ => rfl
  | (_, _) :: gs, (_, _) :: fs, h => by
    show ((D.und _ _) && belowK _ fs) = true
    rw [h.2.1.und, RepK.und h.2.2]; rfl
  | [], _ :: _, h => h.elim
  | _ :: _, [], h => h.elim
theorem RepF.cut : ∀ {gs : List (Str × V)} {fs : List (Str × D)}, belowF n fs = true → RepF K r F gs fs → RepF K (r.take n) F gs fs
  | [], [], _, _ => trivial
  | (_, _) :: gs, (_, _) :: fs, q, h => by
    have q : (D.und n _ && belowF n fs) = true := q
    exact ⟨h.1, h.2.1.cut (Bool.and_eq_true_iff.mp q).1, RepF.cut (Bool.and_eq_true_iff.mp q).2 h.2.2⟩
  | [], _ :: _, _, h => h.elim
  | _ :: _, [], _, h => h.elim
theorem RepK.cut : ∀ {gs : List (Key × V)} {fs : List (Key × D)}, belowK n fs = true → RepK K r F gs fs → RepK K (r.take n) F gs fs
  | [], [], _, _ => trivial
  | (_, _) :: gs, (_, _) :: fs, q, h => by
    have q : (D.und n _ && belowK n fs) = true := q
    exact ⟨h.1, h.2.1.cut (Bool.and_eq_true_iff.mp q).1, RepK.cut (Bool.and_eq_true_iff.mp q).2 h.2.2⟩
  | [], _ :: _, _, h => h.elim
  | _ :: _, [], _, h => h.elim
theorem CellOk.und {a : Addr} : ∀ {c : Cell}, CellOk K r F H a c → c.und r.length = true
  | .lst xs, ⟨vs, h, q⟩ => q.und
  | .ins C fs, ⟨dx, gs, h, h2, q⟩ => q.und
  | .dK kvs, ⟨gs, h, q⟩ => q.und
  | .gone, _ => rfl
  | .fz _, h => h.elim
theorem CellOk.cut {a : Addr} : ∀ {c : Cell}, c.und n = true → CellOk K r F H a c → CellOk K (r.take n) F H a c
  | .lst xs, b, ⟨vs, h, q⟩ => ⟨vs, h, q.cut b⟩
  | .ins C fs, b, ⟨dx, gs, h, h2, q⟩ => ⟨dx, gs, h, h2, q.cut b⟩
  | .dK kvs, b, ⟨gs, h, q⟩ => ⟨gs, h, q.cut b⟩
  | .gone, _, _ => trivial
  | .fz _, _, h => h.elim
theorem HR.und (h : HR K r F H m) {k : Nat} {c : Cell} (e : m[k]? = some c) : c.und m.length = true := by
  have hk : k < r.length := by rw [h.len]; exact (List.getElem?_eq_some_iff.mp e).1
  have on : c.on = true → c.und m.length = true := fun ng => by
    have := (h.cell k r[k] c (List.getElem?_eq_getElem hk) e ng).2.und
    rwa [h.len] at this
  cases c with
  | gone => rfl
  | fz kvs =>
    obtain ⟨od, gs, q1, q2⟩ := h.fz k r[k] kvs (List.getElem?_eq_getElem hk) e
    have := q2.und
    rwa [h.len] at this
  | lst xs => exact on rfl
  | ins C fs => exact on rfl
  | dK kvs => exact on rfl
/-- every cell of m' is m's, or its cells are below m''s length -/
def Tidy (m m' : Store) : Prop := m.length ≤ m'.length ∧ ∀ (k : Nat) c, m'[k]? = some c → m[k]? = some c ∨ c.und m'.length = true
theorem Tidy.refl (m : Store) : Tidy m m := ⟨Nat.le_refl _, fun _ _ e => .inl e⟩
theorem Tidy.set {c : Cell} {k : Nat} (h : Tidy m m') (hc : c.und m'.length = true) : Tidy m (m'.set k c) := ⟨by simpa using h.1, fun j c' e => by
  rw [List.length_set]
  by_cases hj : k = j
  · subst hj
    have : k < (m'.set k c).length := (List.getElem?_eq_some_iff.mp e).1
    rw [List.length_set] at this
    rw [List.getElem?_set_self this] at e; cases e; exact .inr hc
  · rw [List.getElem?_set_ne hj] at e; exact h.2 j c' e⟩
theorem Tidy.app {c : Cell} (h : Tidy m m') (hc : c.und (m'.length + 1) = true) : Tidy m (m' ++ [c]) := ⟨by simp; exact Nat.le_succ_of_le h.1, fun j c' e => by
  rw [List.length_append]
  by_cases hj : j < m'.length
  · rw [List.getElem?_append_left hj] at e
    rcases h.2 j c' e with z | z
    · exact .inl z
    · exact .inr (Cell.und_mono (Nat.le_add_right _ _) z)
  · rw [List.getElem?_append_right (by omega)] at e
    cases q : j - m'.length with
    | zero => rw [q] at e; simp at e; subst e; exact .inr hc
    | succ i => rw [q] at e; simp at e⟩
theorem HR.trunc {r0 : List Addr} {F0 H0 : Hp} (h0 : HR K r0 F0 H0 m0) (ti : Tidy m0 m) (h : HR K r F H (m ++ loc)) : HR K (r.take m.length) F H m := by
  have low : ∀ (k : Nat) a, (r.take m.length)[k]? = some a → r[k]? = some a ∧ k < m.length := fun k a e => by
    rw [List.getElem?_take] at e
    split at e
    · rename_i hk; exact ⟨e, hk⟩
    · cases e
  have lv : ∀ k, live m k → live (m ++ loc) k := fun k ⟨c, e, ng⟩ => ⟨c, by rw [List.getElem?_append_left (List.getElem?_eq_some_iff.mp e).1]; exact e, ng⟩
  refine ⟨?_, h.sub, fun k a c e1 e2 ng => ?_, fun k l a e1 e2 l1 l2 => h.inj k l a (low k a e1).1 (low l a e2).1 (lv k l1) (lv l l2), fun k a kvs e1 e2 => ?_, fun k l a x y e1 e2 z1 z2 => h.fzi k l a x y (low k a e1).1 (low l a e2).1 (by rw [List.getElem?_append_left (List.getElem?_eq_some_iff.mp z1).1]; exact z1) (by rw [List.getElem?_append_left (List.getElem?_eq_some_iff.mp z2).1]; exact z2)⟩
  · rw [List.length_take]
    have := h.len
    rw [List.length_append] at this
    omega
  · obtain ⟨e1', hk⟩ := low k a e1
    obtain ⟨q1, q2⟩ := h.cell k a c e1' (by rw [List.getElem?_append_left hk]; exact e2) ng
    refine ⟨q1, q2.cut ?_⟩
    rcases ti.2 k c e2 with z | z
    · exact Cell.und_mono ti.1 (h0.und z)
    · exact z
  · obtain ⟨e1', hk⟩ := low k a e1
    obtain ⟨od, gs, q1, q2⟩ := h.fz k a kvs e1' (by rw [List.getElem?_append_left hk]; exact e2)
    refine ⟨od, gs, q1, q2.cut ?_⟩
    rcases ti.2 k _ e2 with z | z
    · exact Cell.und_mono (c := .fz kvs) ti.1 (h0.und z)
    · exact z
theorem Ext.trunc {r0 : List Addr} {F0 H0 : Hp} (hl : r0.length = m0.length) (ti : m0.length ≤ m.length) (x : Ext r0 F0 H0 m0 r F H (m ++ loc)) : Ext r0 F0 H0 m0 (r.take m.length) F H m where
  pre := fun k a e => by
    have hk : k < r0.length := (List.getElem?_eq_some_iff.mp e).1
    rw [List.getElem?_take, if_pos (by omega)]; exact x.pre k a e
  sub := x.sub
  keep := x.keep
  new := x.new
  fresh := fun k a hk e => by
    rw [List.getElem?_take] at e
    split at e
    · exact x.fresh k a hk e
    · cases e
  dead := fun k hk l => x.dead k hk (by
    obtain ⟨c, e, ng⟩ := l
    exact ⟨c, by rw [List.getElem?_append_left (List.getElem?_eq_some_iff.mp e).1]; exact e, ng⟩)
  mlen := ti
  trk := x.trk
/-- how a body's end answers a call, from the store m0 -/
inductive Fits (m0 : Store) : Out → Res → Store → Prop
  | rt {d : D} {m : Store} : Fits m0 (.rt d m) (.ok d) m
  | nx {δ : En} {m : Store} : Fits m0 (.nx δ m) (.ok .non) m
  | ex {C : Value} {δ : En} {m : Store} : Fits m0 (.ex C δ m) (.ex C) m
  | rtd {d : D} {m : Store} (loc : Store) : Tidy m0 m → d.und m.length = true → Fits m0 (.rt d (m ++ loc)) (.ok d) m
  | nxd {δ : En} {m : Store} (loc : Store) : Tidy m0 m → Fits m0 (.nx δ (m ++ loc)) (.ok .non) m
  | exd {C : Value} {δ : En} {m : Store} (loc : Store) : Tidy m0 m → Fits m0 (.ex C δ (m ++ loc)) (.ex C) m
def st (n : Nat) (ds : List D) : En := ds.map some ++ List.replicate (n - ds.length) none
abbrev startD (N : List Str) (ds : List D) : En := st N.length ds
theorem er_start {N : List Str} {vs : List V} {ds : List D} (h : RepAll K r F vs ds) : ER K r F (L2.start N vs) (startD N ds) := by
  refine ⟨by simp [L2.start, startD, st, h.len], fun i d e => ?_⟩
  unfold startD st at e
  by_cases hi : i < ds.length
  · rw [List.getElem?_append_left (by simpa using hi), List.getElem?_map] at e
    cases q : ds[i]? with
    | none => rw [q] at e; cases e
    | some d' =>
      rw [q] at e; cases e
      obtain ⟨v, e1, p⟩ := h.get q
      refine ⟨v, ?_, p⟩
      unfold L2.start
      rw [List.getElem?_append_left (by rw [List.length_map, h.len]; exact hi), List.getElem?_map, e1]; rfl
  · rw [List.getElem?_append_right (by simpa using hi), List.getElem?_replicate] at e
    split at e <;> cases e
end
/-- THE RULE for a def -/
theorem fn_okC {CX : CXT} {P : Program} {w : World} {K : PySem.W.Frag} {mg : Str → Option Value} {base : Heap} {x qual : Str} {params : Arguments} {body : List Stmt} {scope : Scope} {f : Addr} {fd : FuncData} {N ps : List Str} {k : Nat} {S : Spec}
    (F : FunD K x qual params body scope [] [] f fd) (sc : FnScope N ps scope) (hlen : ∀ ds m res m', S ds m res m' → ds.length = ps.length) (t : WX → TS)
    (hP : ∀ (cdv : Value) (A : Around) (outer : List Env) (s : Shared) (H : Hp) (E : XK), Room k (A.deeper (envOfC qual scope s.heap.objs.size f cdv)) → PSs (cxOf CX P w K mg base N qual scope f cdv A outer s H E) body (t fun cls d _ H' => E cls d H'))
    (hY : ∀ W ds m res m', S ds m res m' → ∃ o, YS K W (t W) (startD N ds) m o ∧ Fits m o res m') : FnOk P w K mg base CX (k + 1) f fd ps (spD K S) := by
  refine F.ok sc (fun vs H Q E h => ?_) (fun cdv A outer s H vs Q E hr h => ?_)
  · obtain ⟨r, F, m, ds, res, m', _, p, hs, _⟩ := h
    rw [p.len]; exact hlen _ _ _ _ hs
  · obtain ⟨r, F, m, ds, res, m', hr0, p, hs, q⟩ := h
    obtain ⟨o, hy, hf⟩ := hY (fun cls d _ H' => E cls d H') ds m res m' hs
    refine ⟨_, hP cdv A outer s H E hr, hy r F H _ _ hr0 (er_start p) ?_⟩
    cases hf with
    | rt => exact fun v r' F' H' h1 x1 p1 => q v r' F' H' h1 x1 p1
    | nx => exact fun σ' r' F' H' h1 _ x1 => q .non r' F' H' h1 x1 .non
    | ex => exact fun σ' r' F' H' h1 _ x1 => q r' F' H' h1 x1
    | rtd loc ti hb => exact fun v r' F' H' h1 x1 p1 => q v _ F' H' (hr0.trunc ti h1) (x1.trunc hr0.len ti.1) (p1.cut hb)
    | nxd loc ti => exact fun σ' r' F' H' h1 _ x1 => q .non _ F' H' (hr0.trunc ti h1) (x1.trunc hr0.len ti.1) .non
    | exd loc ti => exact fun σ' r' F' H' h1 _ x1 => q _ F' H' (hr0.trunc ti h1) (x1.trunc hr0.len ti.1)
theorem fn_ok {P : Program} {w : World} {K : PySem.W.Frag} {mg : Str → Option Value} {base : Heap} {x qual : Str} {params : Arguments} {body : List Stmt} {scope : Scope} {f : Addr} {fd : FuncData} {N ps : List Str} {k : Nat} {S : Spec}
    (F : FunD K x qual params body scope [] [] f fd) (sc : FnScope N ps scope) (hlen : ∀ ds m res m', S ds m res m' → ds.length = ps.length) (t : WX → TS)
    (hP : ∀ (cdv : Value) (A : Around) (outer : List Env) (s : Shared) (H : Hp) (E : XK), Room k (A.deeper (envOfC qual scope s.heap.objs.size f cdv)) → PSs (cxOf (L2.CX P w) P w K mg base N qual scope f cdv A outer s H E) body (t fun cls d _ H' => E cls d H'))
    (hY : ∀ W ds m res m', S ds m res m' → ∃ o, YS K W (t W) (startD N ds) m o ∧ Fits m o res m') : FnOk P w K mg base (L2.CX P w) (k + 1) f fd ps (spD K S) := fn_okC F sc hlen t hP hY
end DL
namespace DL
open PySem PySem.Spec PyProof.Rows L2
/-! ### short names of readings -/
abbrev oAdd : R2 := rI0 fun i j => .int (i + j)
abbrev oSub : R2 := rI0 fun i j => .int (i - j)
abbrev oMul : R2 := rI CMul fun i j => .int (i * j)
abbrev oDiv : R2 := rI CDivW fun i j => .int (i / j)
abbrev oMod : R2 := rI (fun _ j => 0 < j) fun i j => .int (i % j)
abbrev oPow : R2 := rI CPow fun i j => .int (i ^ j.toNat)
abbrev oLt : R2 := rI0 fun i j => .bl (decide (i < j))
abbrev oLe : R2 := rI0 fun i j => .bl (decide (i ≤ j))
abbrev oGt : R2 := rI0 fun i j => .bl (decide (j < i))
abbrev oGe : R2 := rI0 fun i j => .bl (decide (j ≤ i))
abbrev oIsN : R2 := fun x y H Q => y = .non ∧ Q (.bl (decide (x = .non))) H
abbrev oNotN : R2 := fun x y H Q => y = .non ∧ Q (.bl (!decide (x = .non))) H
abbrev oNeg : V → Hp → VK → Prop := rU fun i => .int (-i)
abbrev rMin2 : List V → Hp → VK → Prop := fun xs H Q => ∃ i j, xs = [.int i, .int j] ∧ Q (.int (if j < i then j else i)) H
abbrev rAbs : List V → Hp → VK → Prop := fun xs H Q => ∃ i, xs = [.int i] ∧ Q (.int (if i < 0 then -i else i)) H
theorem y_neg {K : PySem.W.Frag} {m : Store} {i : Int} : Y1 K oNeg (.int i) m (.int (-i)) m := fun r F H x hr p Q q => by
  cases p; exact ⟨i, rfl, post1 hr q (.int _)⟩
/-! ### what a callee is known by -/
def Cal (P : Program) (w : World) (K : PySem.W.Frag) (mg : Str → Option Value) (base : Heap) (x : Str) (k : Nat) (ps : List Str) (S : Spec) : Prop :=
  ∃ fd, FnOk P w K mg base (L2.CX P w) k (He.ga K x) fd ps (spD K S) ∧ Binds K fd ps [] ∧ PySem.W.keepIn K (.ref (He.ga K x)) = true ∧ mg x = some (.ref (He.ga K x))
section
variable {X : Cx} {k : Nat} {ps : List Str} {S : Spec} {x : Str} {p pos : Pos} {e : Expr} {es : List Expr} {t : TA}
theorem pe_own {j : Nat} (C : Cal X.prog X.w X.K X.mg X.base x j ps S) (hr : Room j X.A) (hg : Gl X x) (ha : PA X (e :: es) t) (hdb : (x == ("__debug__" : Str)) = false := by decide)
    (he : starEach (e :: es) X.env = (false, eval e X.env) :: starEach es X.env := by rfl) (hpl : (backTo pos (starEach es X.env)).any (·.1) = false := by rfl) : PE X (.Call (.Name x p) (e :: es) [] pos) (tCall (spD X.K S) [] E0 t) := by
  obtain ⟨fd, F, b, kp, m⟩ := C
  exact pe_call F hr hg m kp b .nil passL ha hdb he hpl
theorem pe_own0 {j : Nat} (C : Cal X.prog X.w X.K X.mg X.base x j ps S) (hr : Room j X.A) (hg : Gl X x) (hdb : (x == ("__debug__" : Str)) = false := by decide) : PE X (.Call (.Name x p) [] [] pos) (tCall (spD X.K S) [] E0 tNil) := by
  obtain ⟨fd, F, b, kp, m⟩ := C
  exact pe_call0 F hr hg m kp b .nil passL hdb
/-- a constant of the top -/
theorem pe_const {i : Int} {pos : Pos} (h : ∃ t, X.mg x = some (.int i t)) (hg : Gl X x) (hd : (x == ("__debug__" : Str)) = false := by decide) : PE X (.Name x pos) (tC (.int i)) := by
  obtain ⟨t, h⟩ := h
  exact pe_glob hg h ⟨t, rfl⟩ hd
theorem pe_constS {i : Str} {pos : Pos} (h : ∃ t, X.mg x = some (.str i t)) (hg : Gl X x) (hd : (x == ("__debug__" : Str)) = false := by decide) : PE X (.Name x pos) (tC (.str i)) := by
  obtain ⟨t, h⟩ := h
  exact pe_glob hg h ⟨t, rfl⟩ hd
end
theorem bt_len : bootBuiltins "len" = some (.builtin "len") := by decide +kernel
theorem bt_max : bootBuiltins "max" = some (.builtin "max") := by decide +kernel
theorem bt_min : bootBuiltins "min" = some (.builtin "min") := by decide +kernel
theorem bt_sum : bootBuiltins "sum" = some (.builtin "sum") := by decide +kernel
theorem bt_all : bootBuiltins "all" = some (.builtin "all") := by decide +kernel
theorem bt_any : bootBuiltins "any" = some (.builtin "any") := by decide +kernel
theorem bt_abs : bootBuiltins "abs" = some (.builtin "abs") := by decide +kernel
theorem bt_sorted : bootBuiltins "sorted" = some (.builtin "sorted") := by decide +kernel
theorem bt_isinstance : bootBuiltins "isinstance" = some (.builtin "isinstance") := by decide +kernel
theorem bt_list : bootBuiltins "list" = some (.type "list") := by decide +kernel
theorem bt_tuple : bootBuiltins "tuple" = some (.type "tuple") := by decide +kernel
theorem bt_int : bootBuiltins "int" = some (.type "int") := by decide +kernel
theorem bt_bool : bootBuiltins "bool" = some (.type "bool") := by decide +kernel
theorem bt_str : bootBuiltins "str" = some (.type "str") := by decide +kernel
theorem bt_set : bootBuiltins "set" = some (.type "set") := by decide +kernel
end DL
namespace DL
open PySem PySem.Spec PyProof.Rows L2
/-! ### isinstance of built-in classes -/
/-- the name of a datum's type -/
inductive Tn (m : Store) : D → String → Prop
  | non : Tn m .non "NoneType"
  | bl {b : Bool} : Tn m (.bl b) "bool"
  | int {i : Int} : Tn m (.int i) "int"
  | str {x : Str} : Tn m (.str x) "str"
  | lst {xs : List D} : Tn m (.lst xs) "list"
  | tup {xs : List D} : Tn m (.tup xs) "tuple"
  | cell {k : Nat} {xs : List D} : m[k]? = some (.lst xs) → Tn m (.cell k) "list"
theorem y_isi {K : PySem.W.Frag} {m : Store} {d : D} {n c : String} {b : Bool} (h : Tn m d n) (hb : kitB n c = some b) : Y1 K (fun x H Q => rIsi K [x, .ty c] H Q) d m (.bl b) m := fun r F H x hr p Q q => by
  have ty : TyX K H x (.type n) := by
    cases h with
    | non => cases p; exact .base .non
    | bl => cases p; exact .base (.bl _)
    | int => cases p; exact .base (.int _)
    | str => cases p; exact .base (.str _)
    | lst => cases p with
      | lst hs _ => exact .base (.lst (hr.sub _ _ hs))
    | tup => cases p with
      | tup hs _ => exact .base (.tup (hr.sub _ _ hs))
    | cell hk => cases p with
      | cell ea =>
        obtain ⟨_, vs, h1, _⟩ := hr.cell _ _ _ ea hk rfl
        exact .base (.lst h1)
  exact ⟨x, .ty c, .type n, .type c, b, rfl, .ty c, ty, kit_ty hb, post1 hr q (.bl _)⟩
theorem ye_isi {K : PySem.W.Frag} {te : TE} {δ : En} {m m1 : Store} {d : D} {n c : String} {b : Bool} (he : YE K te δ m d m1) (h : Tn m1 d n) (hb : kitB n c = some b) : YE K (tCB (rIsi K) (tCons te (tCons (tC (.ty c)) tNil))) δ m (.bl b) m1 := fun r F H σ hr er Q q =>
  he r F H σ hr er _ fun v r1 F1 H1 hr1 x1 p1 => y_isi h hb r1 F1 H1 v hr1 p1 Q fun v2 r2 F2 H2 hr2 x2 p2 => q v2 r2 F2 H2 hr2 (x1.trans hr1.len hr.len x2) p2
theorem kb_bb : kitB "bool" "bool" = some true := by decide +kernel
theorem kb_bi : kitB "bool" "int" = some true := by decide +kernel
theorem kb_ib : kitB "int" "bool" = some false := by decide +kernel
theorem kb_ii : kitB "int" "int" = some true := by decide +kernel
theorem kb_ll : kitB "list" "list" = some true := by decide +kernel
theorem kb_tt : kitB "tuple" "tuple" = some true := by decide +kernel
theorem kb_lt : kitB "list" "tuple" = some false := by decide +kernel
theorem kb_tl : kitB "tuple" "list" = some false := by decide +kernel
theorem kb_ss : kitB "str" "str" = some true := by decide +kernel
theorem kb_ni : kitB "NoneType" "int" = some false := by decide +kernel
theorem kb_si : kitB "str" "int" = some false := by decide +kernel
end DL
namespace DL
open PySem PySem.Spec PyProof.Rows L2
section
variable {K : PySem.W.Frag} {W : WX} {te ta tb : TE} {tt : TT} {t u : TS} {g : TG} {δ δ1 δ2 : En} {m m1 m2 m3 : Store} {d e : D} {o : Out} {tas : TA} {i j : Int}
theorem y_ixI {ds : List D} (h : IsL m d ds) (h2 : L2.atI ds i = some e) : Y2 K (rIxL K) d (.int i) m e m := by
  cases h with
  | lst => exact y_ixL h2
  | cell hk => exact y_ixC hk h2
theorem atI_of {α : Type} {xs : List α} (h0 : 0 ≤ i) (h1 : i < xs.length) : L2.atI xs i = xs[i.toNat]? := by
  unfold L2.atI ixN
  rw [if_pos h0, if_pos h1]; rfl
theorem atI_map {α : Type} {xs : List α} {f : α → D} {x : α} (h : L2.atI xs i = some x) : L2.atI (xs.map f) i = some (f x) := by
  obtain ⟨j, e1, e2⟩ := atI_len (xs := xs.map f) (by simp) h
  rw [e2, List.getElem?_map, e1]; rfl
theorem atI_getD {α : Type} {xs : List α} (z : α) (h0 : 0 ≤ i) (h1 : i < xs.length) : L2.atI xs i = some (xs.getD i.toNat z) := by
  rw [atI_of h0 h1]
  have : i.toNat < xs.length := by omega
  rw [List.getElem?_eq_getElem this, List.getD_eq_getElem?_getD, List.getElem?_eq_getElem this]; rfl
theorem set_same {k : Nat} {c : Cell} (h : m[k]? = some c) : m.set k c = m := by
  apply List.ext_getElem?
  intro l
  by_cases hl : k = l
  · subst hl
    rw [List.getElem?_set_self (List.getElem?_eq_some_iff.mp h).1, h]
  · rw [List.getElem?_set_ne hl]
theorem set_get {k : Nat} {c c' : Cell} (h : m[k]? = some c) : (m.set k c')[k]? = some c' := List.getElem?_set_self (List.getElem?_eq_some_iff.mp h).1
theorem set_get_ne {k l : Nat} {c : Cell} (h : k ≠ l) : (m.set k c)[l]? = m[l]? := List.getElem?_set_ne h
theorem app_get {c : Cell} : (m ++ [c])[m.length]? = some c := by simp
theorem app_get_lt {k : Nat} {c c' : Cell} (h : m[k]? = some c) : (m ++ [c'])[k]? = some c := by
  rw [List.getElem?_append_left (List.getElem?_eq_some_iff.mp h).1]; exact h
theorem app_set {c c' : Cell} : (m ++ [c]).set m.length c' = m ++ [c'] := by simp
theorem app_set_lt {k : Nat} {c c' : Cell} (h : k < m.length) : (m ++ [c']).set k c = m.set k c ++ [c'] := by
  rw [List.set_append_left _ _ h]
theorem Weak.refl (δ : En) : Weak δ δ := ⟨rfl, fun _ _ h => h⟩
/-- slot by slot -/
theorem Weak.nil : Weak [] [] := Weak.refl _
theorem Weak.keep {x : Option D} {δ δ' : En} (h : Weak δ δ') : Weak (x :: δ) (x :: δ') := ⟨by simp [h.1], fun i d q => by
  cases i with
  | zero => exact q
  | succ i => exact h.2 i d (by simpa using q)⟩
theorem Weak.drop {x : Option D} {δ δ' : En} (h : Weak δ δ') : Weak (x :: δ) (none :: δ') := ⟨by simp [h.1], fun i d q => by
  cases i with
  | zero => cases q
  | succ i => exact h.2 i d (by simpa using q)⟩
end
/-- data of depth at most n -/
def Sh : Nat → D → Prop
  | _, .non => True
  | _, .bl _ => True
  | _, .int _ => True
  | _, .str x => PyData.strOk x = true
  | _, .cell _ => False
  | _, .exc _ => False
  | 0, .lst _ => False
  | 0, .tup _ => False
  | 0, .scr _ => False
  | n + 1, .lst xs => ∀ x ∈ xs, Sh n x
  | n + 1, .tup xs => ∀ x ∈ xs, Sh n x
  | _ + 1, .scr _ => True
theorem lay_ints : ∀ ns : List Int, PyData.canLayAll0 (ns.map PyData.int) = true ∧ PyData.depthAll (ns.map PyData.int) ≤ 0
  | [] => ⟨rfl, by simp [PyData.depthAll]⟩
  | n :: ns => by
    obtain ⟨a, b⟩ := lay_ints ns
    refine ⟨?_, ?_⟩
    · show (PyData.canLay0 (.int n) && PyData.canLayAll0 (ns.map PyData.int)) = true
      rw [a]; rfl
    · show PyData.depthAll (PyData.int n :: ns.map PyData.int) ≤ 0
      simp only [PyData.depthAll, PyData.depth]; omega
theorem Sh.all : ∀ (n : Nat) (d : D), Sh n d → d.pure = true ∧ d.toPy.canLay0 = true ∧ d.toPy.depth ≤ n := by
  intro n
  induction n with
  | zero =>
    intro d h
    cases d with
    | non => exact ⟨rfl, rfl, by simp [D.toPy, PyData.depth]⟩
    | bl b => exact ⟨rfl, rfl, by simp [D.toPy, PyData.depth]⟩
    | int i => exact ⟨rfl, rfl, by simp [D.toPy, PyData.depth]⟩
    | str x => exact ⟨rfl, by simpa [D.toPy, PyData.canLay0, Sh] using h, by simp [D.toPy, PyData.depth]⟩
    | lst xs => exact absurd h (by simp [Sh])
    | tup xs => exact absurd h (by simp [Sh])
    | cell k => exact absurd h (by simp [Sh])
    | exc C => exact absurd h (by simp [Sh])
    | scr ns => exact absurd h (by simp [Sh])
  | succ n ih =>
    have all : ∀ xs : List D, (∀ x ∈ xs, Sh n x) → D.pures xs = true ∧ PyData.canLayAll0 (D.toPys xs) = true ∧ PyData.depthAll (D.toPys xs) ≤ n := by
      intro xs
      induction xs with
      | nil => intro _; exact ⟨rfl, rfl, by simp [D.toPys, PyData.depthAll]⟩
      | cons x xs ihx =>
        intro h
        obtain ⟨a1, a2, a3⟩ := ih x (h x List.mem_cons_self)
        obtain ⟨b1, b2, b3⟩ := ihx fun y hy => h y (List.mem_cons_of_mem _ hy)
        refine ⟨by show (x.pure && D.pures xs) = true; rw [a1, b1]; rfl, by show (x.toPy.canLay0 && PyData.canLayAll0 (D.toPys xs)) = true; rw [a2, b2]; rfl, ?_⟩
        show PyData.depthAll (x.toPy :: D.toPys xs) ≤ n
        simp only [PyData.depthAll]; omega
    intro d h
    cases d with
    | non => exact ⟨rfl, rfl, by simp [D.toPy, PyData.depth]⟩
    | bl b => exact ⟨rfl, rfl, by simp [D.toPy, PyData.depth]⟩
    | int i => exact ⟨rfl, rfl, by simp [D.toPy, PyData.depth]⟩
    | str x => exact ⟨rfl, by simpa [D.toPy, PyData.canLay0, Sh] using h, by simp [D.toPy, PyData.depth]⟩
    | lst xs =>
      obtain ⟨a, b, c⟩ := all xs h
      refine ⟨a, by simpa [D.toPy, PyData.canLay0] using b, ?_⟩
      simp only [D.toPy, PyData.depth]; omega
    | tup xs =>
      obtain ⟨a, b, c⟩ := all xs h
      refine ⟨a, by simpa [D.toPy, PyData.canLay0] using b, ?_⟩
      simp only [D.toPy, PyData.depth]; omega
    | cell k => exact absurd h (by simp [Sh])
    | exc C => exact absurd h (by simp [Sh])
    | scr ns =>
      obtain ⟨a, b⟩ := lay_ints ns
      refine ⟨rfl, by simpa [D.toPy, PyData.canLay0] using a, ?_⟩
      simp only [D.toPy, PyData.depth]; omega
theorem Sh.pure {n : Nat} {d : D} (h : Sh n d) : d.pure = true := (Sh.all n d h).1
theorem Sh.shaped {n : Nat} {d : D} (h : Sh n d) (hn : n ≤ 64) : SeqAt.shaped d.toPy = true := by
  obtain ⟨_, a, b⟩ := Sh.all n d h
  unfold SeqAt.shaped
  rw [a, decide_eq_true (show d.toPy.depth ≤ 64 by omega)]; rfl
theorem Sh.canLay {n : Nat} {d : D} (h : Sh n d) : d.toPy.canLay0 = true := (Sh.all n d h).2.1
theorem Sh.map {α : Type} {n : Nat} {f : α → D} {xs : List α} (h : ∀ x, Sh n (f x)) : Sh (n + 1) (.lst (xs.map f)) := fun y hy => by
  obtain ⟨x, _, rfl⟩ := List.mem_map.mp hy
  exact h x
/-- what reads as plain data: pure data, or what a cell holds -/
inductive Sd (m : Store) : D → D → Prop
  | data {d : D} : Sh 60 d → Sd m d d
  | cell {k : Nat} {xs : List D} : m[k]? = some (.lst xs) → Sh 60 (.lst xs) → Sd m (.cell k) (.lst xs)
theorem Sd.pd {m : Store} {d d' : D} (h : Sd m d d') : Pd m d d'.toPy ∧ SeqAt.shaped d'.toPy = true ∧ d'.toPy.canLay0 = true := by
  cases h with
  | data h => exact ⟨.pure h.pure, h.shaped (by omega), h.canLay⟩
  | cell hk h => exact ⟨.cell hk h.pure, h.shaped (by omega), h.canLay⟩
section
variable {K : PySem.W.Frag} {W : WX} {te ta tb : TE} {tt : TT} {t u : TS} {g : TG} {δ δ1 δ2 : En} {m m1 m2 m3 : Store} {d e d' e' : D} {o : Out} {tas : TA} {i j : Int}
theorem y_eqT (h1 : Sd m d d') (h2 : Sd m e e') : Y2 K (rEqD K) d e m (.bl (PyData.eqv d'.toPy e'.toPy)) m := y_eqD h1.pd.1 h2.pd.1 h1.pd.2.1 h2.pd.2.1
theorem y_neT (h1 : Sd m d d') (h2 : Sd m e e') : Y2 K (rNeD K) d e m (.bl (!PyData.eqv d'.toPy e'.toPy)) m := y_neD h1.pd.1 h2.pd.1 h1.pd.2.1 h2.pd.2.1
theorem y_eqSame (h1 : Sd m d d') (h2 : Sd m e d') : Y2 K (rEqD K) d e m (.bl true) m := by
  have q := y_eqT (K := K) h1 h2
  rwa [SeqAt.eqv_refl _ h1.pd.2.2] at q
theorem y_neSame (h1 : Sd m d d') (h2 : Sd m e d') : Y2 K (rNeD K) d e m (.bl false) m := by
  have q := y_neT (K := K) h1 h2
  rwa [SeqAt.eqv_refl _ h1.pd.2.2] at q
/-- a list's emptiness -/
theorem eqv_nil (xs : List PyData) : PyData.eqv (.list xs) (.list []) = xs.isEmpty := by cases xs <;> rfl
theorem nil_eqv (xs : List PyData) : PyData.eqv (.list []) (.list xs) = xs.isEmpty := by cases xs <;> rfl
theorem toPys_empty (xs : List D) : (D.toPys xs).isEmpty = xs.isEmpty := by cases xs <;> rfl
theorem toPys_len : ∀ xs : List D, (D.toPys xs).length = xs.length
  | [] => rfl
  | x :: xs => congrArg Nat.succ (toPys_len xs)
theorem y_neNil {xs : List D} (h : Sd m d (.lst xs)) : Y2 K (rNeD K) d (.lst []) m (.bl (!xs.isEmpty)) m := by
  have q := y_neT (K := K) h (.data (d := .lst []) (fun x hx => nomatch hx))
  rw [show (D.lst xs).toPy = .list (D.toPys xs) from rfl] at q
  rw [show (D.lst []).toPy = .list [] from rfl, eqv_nil, toPys_empty] at q
  exact q
theorem y_eqNil {xs : List D} (h : Sd m d (.lst xs)) : Y2 K (rEqD K) d (.lst []) m (.bl xs.isEmpty) m := by
  have q := y_eqT (K := K) h (.data (d := .lst []) (fun x hx => nomatch hx))
  rw [show (D.lst xs).toPy = .list (D.toPys xs) from rfl] at q
  rw [show (D.lst []).toPy = .list [] from rfl, eqv_nil, toPys_empty] at q
  exact q
theorem y_powK {z : Int} {n : Nat} (h : CPow i (n : Int)) (e : i ^ n = z) : Y2 K oPow (.int i) (.int (n : Int)) m (.int z) m := by
  rw [← e]; exact y_pow h
theorem y_subK {z : Int} (e : i - j = z) : Y2 K oSub (.int i) (.int j) m (.int z) m := by
  rw [← e]; exact y_sub
theorem y_addK {z : Int} (e : i + j = z) : Y2 K oAdd (.int i) (.int j) m (.int z) m := by
  rw [← e]; exact y_add
/-- a loop that leaves the state as it is -/
theorem ys_forC {α : Type} {C : Store → Prop} {wi : TI} (ys : List α) (en : α → D) (hi : YI K C wi δ m (ys.map en) m1) (hC : C m1) (δ0 : En) (w : Weak δ δ0)
    (step : ∀ y ∈ ys, ∃ δ' δ'', YG K g (en y) δ0 δ' ∧ YS K W t δ' m1 (.nx δ'' m1) ∧ Weak δ'' δ0) : YS K W (tFor wi g t) δ m (.nx δ0 m1) :=
  ys_forG hi ys.length (fun _ => δ0) (fun _ => m1) w rfl (fun _ _ => hC) (by simp) (fun i d hi hd => by
    rw [List.getElem?_map] at hd
    cases e : ys[i]? with
    | none => rw [e] at hd; cases hd
    | some y =>
      rw [e] at hd; cases hd
      obtain ⟨δ', δ'', h1, h2, h3⟩ := step y (List.mem_of_getElem? e)
      exact ⟨δ', _, h1, h2, .nx h3⟩) (.inl ⟨by simp, rfl⟩)
/-- a loop that folds a state s, over typed items -/
theorem ys_forF {α S : Type} {C : Store → Prop} {wi : TI} (ys : List α) (en : α → D) (hi : YI K C wi δ m (ys.map en) m1) (f : S → α → S) (s0 : S) (δf : S → En) (mf : S → Store) (w : Weak δ (δf s0)) (e0 : mf s0 = m1)
    (hC : ∀ i, i ≤ ys.length → C (mf ((ys.take i).foldl f s0)))
    (step : ∀ i y, ys[i]? = some y → ∃ δ' δ'', YG K g (en y) (δf ((ys.take i).foldl f s0)) δ' ∧ YS K W t δ' (mf ((ys.take i).foldl f s0)) (.nx δ'' (mf (f ((ys.take i).foldl f s0) y))) ∧ Weak δ'' (δf (f ((ys.take i).foldl f s0) y))) :
    YS K W (tFor wi g t) δ m (.nx (δf (ys.foldl f s0)) (mf (ys.foldl f s0))) := by
  have key := ys_forG (K := K) (W := W) (t := t) (g := g) (o := .nx (δf ((ys.take ys.length).foldl f s0)) (mf ((ys.take ys.length).foldl f s0))) hi ys.length (fun i => δf ((ys.take i).foldl f s0)) (fun i => mf ((ys.take i).foldl f s0)) w e0 hC (by simp) (fun i d hi hd => by
    rw [List.getElem?_map] at hd
    cases e : ys[i]? with
    | none => rw [e] at hd; cases hd
    | some y =>
      rw [e] at hd; cases hd
      obtain ⟨δ', δ'', h1, h2, h3⟩ := step i y e
      have et : (ys.take (i + 1)).foldl f s0 = f ((ys.take i).foldl f s0) y := by rw [List.take_add_one, e]; simp
      refine ⟨δ', _, h1, h2, ?_⟩
      show TurnX (δf ((ys.take (i + 1)).foldl f s0)) (mf ((ys.take (i + 1)).foldl f s0)) _
      rw [et]; exact .nx h3) (.inl ⟨by simp, rfl⟩)
  rw [List.take_length] at key
  exact key
/-- the law's own call -/
theorem law_start {S : Spec} {H : Hp} {a : Addr} {ns : List Int} (hS : SqL K H a (ns.map V.int)) (h : S [.scr ns] [] (.ok (.bl true)) []) : spD K S [.ref a] H (fun v _ => v = .bl true) (fun _ _ _ => False) :=
  ⟨[], H, [], [.scr ns], .ok (.bl true), [], ⟨rfl, Same.refl _, fun k a c e => by simp at e, fun k l a e => by simp at e, fun k a kvs e => by simp at e, fun k l a x y e => by simp at e⟩, .cons (.scr hS) .nil, h, fun v r F H _ _ p => by cases p; rfl⟩
end
end DL
namespace DL
open PySem PySem.Spec PyProof.Rows L2

/-! ### isinstance of errors, of None -/
def rIsX (K : PySem.W.Frag) : List V → Hp → VK → Prop := fun xs H Q => ∃ (a E : Addr) (c : V) (cv : Value) (b : Bool), xs = [.ref a, c] ∧ (H a = some (ExV (.ref E) a) ∨ H a = some (ExO (.ref E) a)) ∧ ExcC K E ∧ ClsV c cv ∧ PySem.W.kitOne K (.ref E) cv = some b ∧ Q (.bl b) H
def rIsA (K : PySem.W.Frag) : List V → Hp → VK → Prop := fun xs H Q => rIsX K xs H Q ∨ rIsi K xs H Q
theorem exc_at {X : Cx} {pins : List (Addr × Obj)} {σ : L2.St} {H : Hp} {s : Shared} {a E : Addr} (I : Inv X pins σ H s) (h : H a = some (ExV (.ref E) a) ∨ H a = some (ExO (.ref E) a)) : ∃ oe, PySem.W.InstAt s.heap a oe E none := by
  have key : ∃ (oe : Obj) (vs : Array Value), s.heap.get? a = some oe ∧ Zc (.ref E) none oe ∧ oe.data = .fields vs := by
    rcases h with h | h
    · obtain ⟨⟨oe, vs, e, z, d⟩, _⟩ := I.hok a _ h
      exact ⟨oe, vs, e, z, d⟩
    · obtain ⟨⟨oe, vs, e, z, d, _⟩, _⟩ := I.hok a _ h
      exact ⟨oe, vs, e, z, d⟩
  obtain ⟨⟨oc, od, oda, osl⟩, vs, e, ⟨z1, z2⟩, d⟩ := key
  dsimp only at z1 z2 d
  subst z1 z2 d
  exact ⟨_, e, rfl, rfl, trivial⟩
theorem call_isA {X : Cx} : CallR X (.builtin "isinstance") (rIsA X.K) := by
  intro pins s σ H xs us Q I r h
  rcases h with ⟨a, E, c, cv, b, rfl, ha, C, k, e, q⟩ | h
  · cases r with
    | cons rx rr => cases rr with
      | cons rt rr =>
        cases rr
        cases rx
        have ec := k.eq rt
        subst ec
        obtain ⟨oe, J⟩ := exc_at I ha
        exact PySem.W.kia_one (PySem.W.handS_kitx_exc C.hg C.hk C.hs C.hd C.ha C.hn C.ht C.hm) I.kIn J e (fun z => nomatch z) fun tk => ⟨.bl b, H, I.kept (t' := tk) fun _ _ z => z, rfl, q⟩
  · exact call_isi pins s σ H xs us Q I r h

/-! ### the classes of refusals -/
def kinds : List Str := ["NoSpan", "NoPlace", "NoCover", "NoWeight", "NoCount", "NoName", "Twice", "Full", "Bare", "NoDeed", "NoText", "NoLine"]
def ga (K : PySem.W.Frag) (x : Str) : Addr := He.ga K x
def excB (K : PySem.W.Frag) (E : Addr) : Bool :=
  decide (PySem.W.findIn K (.ref E) "__getattribute__" = some (some (.builtin "BaseException.__getattribute__"))) && (decide (PySem.W.findIn K (.ref E) "__getattr__" = some none) &&
  (decide (PySem.W.subIn K (.ref E) (.type "BaseException") = some true) && (PySem.W.hasDictIn K E && (decide (PySem.W.findIn K (.ref E) "__class__" = some (some (.builtin "object.__class__"))) &&
  (decide (PySem.W.specialIn K (.builtin "object.__class__") "__get__" = some (some (.builtin "getset_descriptor.__get__"))) && (decide (PySem.W.takesIn K (.builtin "object.__class__") = some true) && decide (PySem.W.mroIn K E (.type "object") = some true)))))))
theorem excB_ok {K : PySem.W.Frag} {E : Addr} (h : excB K E = true) : ExcC K E := by
  unfold excB at h
  simp only [Bool.and_eq_true, decide_eq_true_eq] at h
  obtain ⟨h1, h2, h3, h4, h5, h6, h7, h8⟩ := h
  exact ⟨h1, h2, h3, h4, h5, h6, h7, h8⟩
def isK (K : PySem.W.Frag) (t c : Value) (b : Bool) : Bool := decide (PySem.W.kitOne K t c = some b)
/-- what is asked of the classes ns, which stand under ShelfError -/
def xsB (ns : List Str) (K : PySem.W.Frag) : Bool :=
  (ns.all fun x => (He.Fa.exc x).ok K && (excB K (ga K x) && (isK K (.ref (ga K x)) (.ref (ga K "ShelfError")) true && (isK K (.ref (ga K x)) (.type "ValueError") true && (isK K (.type "NoneType") (.ref (ga K x)) false && (isK K (.ref (ga K "ShelfError")) (.ref (ga K x)) false &&
    (decide (PySem.W.exmOne K (.ref (ga K x)) (.ref (ga K "ShelfError")) = some true) && (eqO1 K x && ns.all fun y => isK K (.ref (ga K x)) (.ref (ga K y)) (decide (x = y))))))))))
  && ((He.Fa.exc "ShelfError").ok K && (excB K (ga K "ShelfError") && (isK K (.ref (ga K "ShelfError")) (.ref (ga K "ShelfError")) true && (isK K (.ref (ga K "ShelfError")) (.type "ValueError") true && (isK K (.type "NoneType") (.ref (ga K "ShelfError")) false && (isK K (.type "NoneType") (.type "ValueError") false && eqO1 K "ShelfError"))))))
where eqO1 (K : PySem.W.Frag) (x : Str) : Bool := decide (PySem.W.nsIn K mainGlobals x = some (some (.ref (ga K x))))
structure XCls (K : PySem.W.Frag) (ns : List Str) (x : Str) : Prop where
  ex : PySem.W.excIn K (ga K x) He.veBase "ValueError.__new__" = true
  kp : PySem.W.keepIn K (.ref (ga K x)) = true
  sb : PySem.W.subIn K (.ref (ga K x)) (.type "BaseException") = some true
  ty : PySem.W.typeIn K (.ref (ga K x)) = some (.type "type")
  c : ExcC K (ga K x)
  s : PySem.W.kitOne K (.ref (ga K x)) (.ref (ga K "ShelfError")) = some true
  v : PySem.W.kitOne K (.ref (ga K x)) (.type "ValueError") = some true
  n : PySem.W.kitOne K (.type "NoneType") (.ref (ga K x)) = some false
  g : PySem.W.nsIn K mainGlobals x = some (some (.ref (ga K x)))
structure Xs (K : PySem.W.Frag) (ns : List Str) : Prop where
  one : ∀ x ∈ ns, XCls K ns x
  up : XCls K ns "ShelfError"
  kit : ∀ x ∈ ns, ∀ y ∈ ns, PySem.W.kitOne K (.ref (ga K x)) (.ref (ga K y)) = some (decide (x = y))
  down : ∀ x ∈ ns, PySem.W.kitOne K (.ref (ga K "ShelfError")) (.ref (ga K x)) = some false
  exm : ∀ x ∈ ns, PySem.W.exmOne K (.ref (ga K x)) (.ref (ga K "ShelfError")) = some true
  nv : PySem.W.kitOne K (.type "NoneType") (.type "ValueError") = some false
theorem xsB_ok {K : PySem.W.Frag} {ns : List Str} (h : xsB ns K = true) : Xs K ns := by
  unfold xsB at h
  obtain ⟨h1, h2⟩ := Bool.and_eq_true_iff.mp h
  have d := fun {p : Prop} [Decidable p] (q : decide p = true) => of_decide_eq_true q
  have one : ∀ x ∈ ns, XCls K ns x ∧ (∀ y ∈ ns, PySem.W.kitOne K (.ref (ga K x)) (.ref (ga K y)) = some (decide (x = y))) ∧ PySem.W.kitOne K (.ref (ga K "ShelfError")) (.ref (ga K x)) = some false ∧ PySem.W.exmOne K (.ref (ga K x)) (.ref (ga K "ShelfError")) = some true := by
    intro x hx
    have q := List.all_eq_true.mp h1 x hx
    simp only [Bool.and_eq_true] at q
    obtain ⟨q1, q2, q3, q4, q5, q6, q7, q8, q9⟩ := q
    obtain ⟨e1, e2, e3, e4⟩ := He.exc_ok q1
    exact ⟨⟨e1, e2, e3, e4, excB_ok q2, of_decide_eq_true q3, of_decide_eq_true q4, of_decide_eq_true q5, of_decide_eq_true q8⟩, fun y hy => of_decide_eq_true (List.all_eq_true.mp q9 y hy), of_decide_eq_true q6, of_decide_eq_true q7⟩
  simp only [Bool.and_eq_true] at h2
  obtain ⟨q1, q2, q3, q4, q5, q6, q7⟩ := h2
  obtain ⟨e1, e2, e3, e4⟩ := He.exc_ok q1
  exact ⟨fun x hx => (one x hx).1, ⟨e1, e2, e3, e4, excB_ok q2, of_decide_eq_true q3, of_decide_eq_true q4, of_decide_eq_true q5, of_decide_eq_true q7⟩, fun x hx => (one x hx).2.1, fun x hx => (one x hx).2.2.1, fun x hx => (one x hx).2.2.2, of_decide_eq_true q6⟩
theorem XCls.mg {K : PySem.W.Frag} {ns : List Str} {x : Str} {h : Heap} {mg : Str → Option Value} (c : XCls K ns x) (X : K.In h) (G : h.Ns mainGlobals mg) : mg x = some (.ref (ga K x)) := PySem.W.mg_of X G c.g

/-! ### the head's hook with one truth more -/
def obsB (n : Nat) (fa : List He.Fa) (fn : List He.DefD) (ex : PySem.W.Frag → Bool) (g : Addr → Option Obj) : He.AlD × Bool := (He.obsD fa fn (He.frG g (He.asD g n)), ex (He.frG g (He.asD g n)))
def hookB (n : Nat) (fa : List He.Fa) (fn : List He.DefD) (ex : PySem.W.Frag → Bool) : PySem.W.Hook where
  α := He.AlD × Bool
  obs := fun s => obsB n fa fn ex s.heap.get?
  val := fun _ => (He.valD fn, true)
  says := fun _ h => ∃ K : PySem.W.Frag, K.In h ∧ He.SaysD fa fn K ∧ ex K = true
  of := fun _ _ e => ⟨_, He.frG_in, congrArg Prod.fst e, congrArg Prod.snd e⟩
  keeps := fun _ _ _ ⟨K, hK, c⟩ k => ⟨K, PySem.W.Frag.In.keeps hK k, c⟩
theorem obsB_eq {n : Nat} {fa : List He.Fa} {fn : List He.DefD} {ex : PySem.W.Frag → Bool} {g : Addr → Option Obj} {s : Shared} (h : ∀ a, g a = s.heap.get? a) : obsB n fa fn ex g = (hookB n fa fn ex).obs s := by
  have e : g = s.heap.get? := funext h
  rw [e]; rfl

/-! ### raising -/
def tRaise (W : WX) (C : Value) : TS := fun _ σ H => W C none σ H
theorem ps_raiseK {X : Cx} {ns : List Str} {W : WX} {x msg : Str} {k : Nat} {p p2 pos pos2 : Pos} (c : XCls X.K ns x) (m : X.mg x = some (.ref (ga X.K x))) (hc : X.calm = true) (tk : Takes X W) (hg : Gl X x) (hdb : (x == ("__debug__" : Str)) = false := by decide) :
    PS X (.Raise (some (.Call (.Name x p) [.Constant (.str msg) k p2] [] pos)) none pos2) (tRaise W (.ref (ga X.K x))) := ps_raise hc tk (pmk_own PySem.F.excBase_ValueError c.ex m c.kp (raises_own c.sb c.ty) hg hdb)
/-- an expression that raises -/
def YX (K : PySem.W.Frag) (W : WX) (t : TE) (δ : En) (m : Store) (C : Value) (m' : Store) : Prop := ∀ r F H σ, HR K r F H m → ER K r F σ δ → (∀ r' F' H', HR K r' F' H' m' → Ext r F H m r' F' H' m' → W C none σ H') → ∀ Q : VK, t σ H Q
section
variable {K : PySem.W.Frag} {W : WX} {te ta tb : TE} {tt : TT} {t u : TS} {g : TG} {δ δ1 δ2 : En} {m m1 m2 m3 : Store} {d e : D} {o : Out} {tas : TA} {i j : Nat} {C : Value}
theorem ys_raise : YS K W (tRaise W C) δ m (.ex C δ m) := fun r F H σ D hr er q => q σ r F H hr er (Ext.refl hr)
theorem yx_call {S : Spec} {ds : List D} (ha : YA K tas δ m ds m1) (hs : S ds m1 (.ex C) m2) : YX K W (tCallS (spD K S) (WE W) tas) δ m C m2 := fun r F H σ hr er q Q =>
  ha r F H σ hr er _ fun ws r1 F1 H1 hr1 x1 p1 => ⟨r1, F1, m1, ds, .ex C, m2, hr1, p1, hs, fun r2 F2 H2 hr2 x2 => q r2 F2 H2 hr2 (x1.trans hr1.len hr.len x2)⟩
theorem ys_exprX (h : YX K W te δ m C m1) : YS K W (tDrop te) δ m (.ex C δ m1) := fun r F H σ D hr er q => h r F H σ hr er (fun r' F' H' h1 x1 => q σ r' F' H' h1 (er.ext x1) x1) _
theorem ys_retX (h : YX K W te δ m C m1) : YS K W (tRet te) δ m (.ex C δ m1) := fun r F H σ D hr er q => h r F H σ hr er (fun r' F' H' h1 x1 => q σ r' F' H' h1 (er.ext x1) x1) _
theorem ys_asgX (h : YX K W te δ m C m1) : YS K W (tAsg te g) δ m (.ex C δ m1) := fun r F H σ D hr er q => h r F H σ hr er (fun r' F' H' h1 x1 => q σ r' F' H' h1 (er.ext x1) x1) _
/-- try: .. except c as i: j = i -/
def tTry (K : PySem.W.Frag) (c : Value) (i j : Nat) (tb : WX → TS) : TS := fun D σ H => tb (wKeep K c i j D) D σ H
theorem ys_tryN {c : Value} {tb : WX → TS} (h : ∀ W', YS K W' (tb W') δ m (.nx δ1 m1)) : YS K W (tTry K c i j tb) δ m (.nx δ1 m1) := fun r F H σ D hr er q => h _ r F H σ D hr er q
theorem er_none {r : List Addr} {F : Hp} {σ : L2.St} (h : ER K r F σ δ) : ER K r F (σ.set i none) (δ.set i none) := by
  refine ⟨by simp [h.1], fun l e he => ?_⟩
  by_cases hl : i = l
  · subst hl
    have q : i < (δ.set i none).length := (List.getElem?_eq_some_iff.mp he).1
    rw [List.length_set] at q
    rw [List.getElem?_set_self q] at he; cases he
  · rw [List.getElem?_set_ne hl] at he ⊢
    exact h.2 l e he
theorem ys_tryX {c : Value} {x : Str} {tb : WX → TS} (h : ∀ W', YS K W' (tb W') δ m (.ex (.ref (ga K x)) δ1 m1)) (he : PySem.W.exmOne K (.ref (ga K x)) c = some true) : YS K W (tTry K c i j tb) δ m (.nx (((δ1.set i (some (.exc x))).set j (some (.exc x))).set i none) m1) := fun r F H σ D hr er q =>
  h _ r F H σ D hr er fun σ1 r1 F1 H1 hr1 er1 x1 => ⟨he, rfl, fun a na => by
    have x2 : Ext r1 F1 H1 m1 r1 (upd F1 a (ExV (.ref (ga K x)) a)) (upd H1 a (ExV (.ref (ga K x)) a)) m1 := Ext.laid hr1 na
    have rp : Rep K r1 (upd F1 a (ExV (.ref (ga K x)) a)) (.ref a) (.exc x) := .exc (.inl upd_same)
    exact q _ r1 _ _ (hr1.laid na) (er_none (((er1.ext x2).set i rp).set j rp)) (x1.trans hr1.len hr.len x2)⟩
/-- X(..) as a value -/
def tExc (C : Addr) (ta : TA) : TE := fun σ H Q => ta σ H fun _ H1 => ∀ a, H1 a = none → Q (.ref a) (upd H1 a (ExO (.ref C) a))
theorem ye_exc {x : Str} {ds : List D} (ha : YA K tas δ m ds m1) : YE K (tExc (ga K x) tas) δ m (.exc x) m1 := fun r F H σ hr er Q q =>
  ha r F H σ hr er _ fun vs r1 F1 H1 hr1 x1 p1 a na => q _ r1 _ _ (hr1.laid na) (x1.trans hr1.len hr.len (Ext.laid hr1 na)) (.exc (.inr upd_same))
/-- isinstance(e, c) of an error, of None -/
theorem ye_isX {x : Str} {c : V} {cv : Value} {b : Bool} (he : YE K te δ m (.exc x) m1) (hE : ExcC K (ga K x)) (hc : ClsV c cv) (hb : PySem.W.kitOne K (.ref (ga K x)) cv = some b) : YE K (tCB (rIsA K) (tCons te (tCons (tC c) tNil))) δ m (.bl b) m1 := fun r F H σ hr er Q q =>
  he r F H σ hr er _ fun v r1 F1 H1 hr1 x1 p1 => by
    cases p1 with
    | exc h => exact .inl ⟨_, ga K x, c, cv, b, rfl, h.imp (hr1.sub _ _) (hr1.sub _ _), hE, hc, hb, q _ r1 F1 H1 hr1 x1 (.bl _)⟩
theorem ye_isNon {c : V} {cv : Value} {b : Bool} (he : YE K te δ m .non m1) (hc : ClsV c cv) (hb : PySem.W.kitOne K (.type "NoneType") cv = some b) : YE K (tCB (rIsA K) (tCons te (tCons (tC c) tNil))) δ m (.bl b) m1 := fun r F H σ hr er Q q =>
  he r F H σ hr er _ fun v r1 F1 H1 hr1 x1 p1 => by
    cases p1
    exact .inr ⟨.non, c, .type "NoneType", cv, b, rfl, hc, .base .non, hb, q _ r1 F1 H1 hr1 x1 (.bl _)⟩
end
section
variable {X : Cx} {ns : List Str} {x : Str} {p pos : Pos} {e : Expr}
theorem pe_excK1 {te : TE} (c : XCls X.K ns x) (m : X.mg x = some (.ref (ga X.K x))) (hg : Gl X x) (he : PE X e te) (hs : starEach [e] X.env = (false, eval e X.env) :: starEach [] X.env := by rfl) (hdb : (x == ("__debug__" : Str)) = false := by decide) :
    PE X (.Call (.Name x p) [e] [] pos) (tExc (ga X.K x) (tCons te tNil)) := pe_exc1 PySem.F.excBase_ValueError c.ex m c.kp hg he hs hdb
theorem pe_excK0 (c : XCls X.K ns x) (m : X.mg x = some (.ref (ga X.K x))) (hg : Gl X x) (hdb : (x == ("__debug__" : Str)) = false := by decide) : PE X (.Call (.Name x p) [] [] pos) (tExc (ga X.K x) tNil) := by
  refine ⟨fun pins s σ H Q I h => ?_⟩
  refine wpAny_Call_Name_kw (ld_glob I hg m ?_ hdb)
  refine PySem.W.callWith_K0 I.kIn c.kp ?_
  obtain ⟨bm, N, nm, qn, bs, hdct, sn, sub, ab, col, dd, k0, k1, k2, k3, k5, mN, hC, hN, hni, T⟩ := exc_obj I.kIn c.ex
  refine wpAny_call_exc_subT PySem.F.excBase_ValueError T hC hN hni (fun h' a hm => ?_) (by show 0 ≤ sizeLine; exact Nat.zero_le _)
  have hn : H a = none := I.hok.gone hm.new
  obtain ⟨t, ht, _, _⟩ := hm.there
  exact ⟨.ref a, upd H a (ExO (.ref (ga X.K x)) a), I.laidN hm.keeps hm.new hn (exO_ok ht ⟨rfl, rfl⟩ rfl rfl rfl (show 4 < 6 by decide)), rfl, h a hn⟩
theorem pe_ownS {j : Nat} {S : Spec} {ps : List Str} {W : WX} {es : List Expr} {t : TA} (C : Cal X.prog X.w X.K X.mg X.base x j ps S) (tk : Takes X W) (hr : Room j X.A) (hg : Gl X x) (ha : PA X (e :: es) t) (hdb : (x == ("__debug__" : Str)) = false := by decide)
    (he : starEach (e :: es) X.env = (false, eval e X.env) :: starEach es X.env := by rfl) (hpl : (backTo pos (starEach es X.env)).any (·.1) = false := by rfl) : PE X (.Call (.Name x p) (e :: es) [] pos) (tCallS (spD X.K S) (WE W) t) := by
  obtain ⟨fd, F, b, kp, m⟩ := C
  exact pe_callS F hr hg m kp b (fun σ => passAt tk σ) ha hdb he hpl
end
theorem bt_ValueError : bootBuiltins "ValueError" = some (.type "ValueError") := by decide +kernel
end DL
namespace LW
open PySem PySem.Spec PyProof.Rows L2 DL
def top (i : Nat) : Stmt := PySem.Challenge.pw_spanshelf_k70_clashes.main.body.getD i (.Pass ⟨0, 0, 0, 0⟩)
abbrev FnP (K : PySem.W.Frag) (x : Str) (st : Stmt) (f : Addr) (fd : FuncData) : Prop := FunD K x x (defArgs st) (defBody st) (defScope st) [] [] f fd
def clsBody : Stmt → List Stmt
  | .ClassDef _ _ _ b _ _ _ _ _ _ _ => b
  | _ => []
abbrev s_law_at : Stmt := top 37
abbrev N_law_at : List Str := ["_law_script", "_law_k"]
theorem sc_law_at : FnScope N_law_at ["_law_script", "_law_k"] (defScope s_law_at) := ⟨rfl, rfl, rfl, by decide +kernel, rfl, by decide +kernel, by decide +kernel⟩
abbrev s_law_purse : Stmt := top 39
abbrev N_law_purse : List Str := ["_law_script", "_law_at_here", "_law_cell"]
theorem sc_law_purse : FnScope N_law_purse ["_law_script", "_law_at_here"] (defScope s_law_purse) := ⟨rfl, rfl, rfl, by decide +kernel, rfl, by decide +kernel, by decide +kernel⟩
abbrev s_law_mixed : Stmt := top 38
abbrev N_law_mixed : List Str := ["_law_cell", "_law_k", "_law_number_here"]
theorem sc_law_mixed : FnScope N_law_mixed ["_law_cell", "_law_k"] (defScope s_law_mixed) := ⟨rfl, rfl, rfl, by decide +kernel, rfl, by decide +kernel, by decide +kernel⟩
abbrev s_law_draw : Stmt := top 40
abbrev N_law_draw : List Str := ["_law_purse_here", "_law_out_of", "_law_drawn", "_law_number_here", "_law_k"]
theorem sc_law_draw : FnScope N_law_draw ["_law_purse_here", "_law_out_of"] (defScope s_law_draw) := ⟨rfl, rfl, rfl, by decide +kernel, rfl, by decide +kernel, by decide +kernel⟩
abbrev s_law_names : Stmt := top 42
abbrev N_law_names : List Str := ["_law_purse_here", "_law_many", "_law_letters", "_law_k", "_law_stem", "_law_at_here", "_law_first", "_law_found"]
theorem sc_law_names : FnScope N_law_names ["_law_purse_here", "_law_many"] (defScope s_law_names) := ⟨rfl, rfl, rfl, by decide +kernel, rfl, by decide +kernel, by decide +kernel⟩
abbrev s_Shelf___init__ : Stmt := (clsBody (top 35)).getD 0 (.Pass ⟨0, 0, 0, 0⟩)
abbrev N_Shelf___init__ : List Str := ["self"]
theorem sc_Shelf___init__ : FnScope N_Shelf___init__ ["self"] (defScope s_Shelf___init__) := ⟨rfl, rfl, rfl, by decide +kernel, rfl, by decide +kernel, by decide +kernel⟩
abbrev s_law_order : Stmt := top 45
abbrev N_law_order : List Str := ["_law_purse_here", "_law_some", "_law_left", "_law_found"]
theorem sc_law_order : FnScope N_law_order ["_law_purse_here", "_law_some"] (defScope s_law_order) := ⟨rfl, rfl, rfl, by decide +kernel, rfl, by decide +kernel, by decide +kernel⟩
abbrev s_law_number : Stmt := top 41
abbrev N_law_number : List Str := ["_law_purse_here", "_law_most", "_law_far"]
theorem sc_law_number : FnScope N_law_number ["_law_purse_here", "_law_most"] (defScope s_law_number) := ⟨rfl, rfl, rfl, by decide +kernel, rfl, by decide +kernel, by decide +kernel⟩
abbrev s_law_end : Stmt := top 43
abbrev N_law_end : List Str := ["_law_purse_here", "_law_ends", "_law_most", "_law_near"]
theorem sc_law_end : FnScope N_law_end ["_law_purse_here", "_law_ends", "_law_most"] (defScope s_law_end) := ⟨rfl, rfl, rfl, by decide +kernel, rfl, by decide +kernel, by decide +kernel⟩
abbrev s_law_span : Stmt := top 44
abbrev N_law_span : List Str := ["_law_purse_here", "_law_ends", "_law_most", "_law_one", "_law_other", "_law_low", "_law_high"]
theorem sc_law_span : FnScope N_law_span ["_law_purse_here", "_law_ends", "_law_most"] (defScope s_law_span) := ⟨rfl, rfl, rfl, by decide +kernel, rfl, by decide +kernel, by decide +kernel⟩
abbrev s_is_place : Stmt := top 12
abbrev N_is_place : List Str := ["number"]
theorem sc_is_place : FnScope N_is_place ["number"] (defScope s_is_place) := ⟨rfl, rfl, rfl, by decide +kernel, rfl, by decide +kernel, by decide +kernel⟩
abbrev s_is_span : Stmt := top 14
abbrev N_is_span : List Str := ["span"]
theorem sc_is_span : FnScope N_is_span ["span"] (defScope s_is_span) := ⟨rfl, rfl, rfl, by decide +kernel, rfl, by decide +kernel, by decide +kernel⟩
abbrev s_must_span : Stmt := top 15
abbrev N_must_span : List Str := ["span"]
theorem sc_must_span : FnScope N_must_span ["span"] (defScope s_must_span) := ⟨rfl, rfl, rfl, by decide +kernel, rfl, by decide +kernel, by decide +kernel⟩
abbrev s_must_weight : Stmt := top 27
abbrev N_must_weight : List Str := ["weight"]
theorem sc_must_weight : FnScope N_must_weight ["weight"] (defScope s_must_weight) := ⟨rfl, rfl, rfl, by decide +kernel, rfl, by decide +kernel, by decide +kernel⟩
abbrev s_must_room : Stmt := top 34
abbrev N_must_room : List Str := ["many"]
theorem sc_must_room : FnScope N_must_room ["many"] (defScope s_must_room) := ⟨rfl, rfl, rfl, by decide +kernel, rfl, by decide +kernel, by decide +kernel⟩
abbrev s_Shelf_change : Stmt := (clsBody (top 35)).getD 2 (.Pass ⟨0, 0, 0, 0⟩)
abbrev N_Shelf_change : List Str := ["self", "kept"]
theorem sc_Shelf_change : FnScope N_Shelf_change ["self", "kept"] (defScope s_Shelf_change) := ⟨rfl, rfl, rfl, by decide +kernel, rfl, by decide +kernel, by decide +kernel⟩
abbrev s_Shelf_set_one : Stmt := (clsBody (top 35)).getD 3 (.Pass ⟨0, 0, 0, 0⟩)
abbrev N_Shelf_set_one : List Str := ["self", "name", "span", "weight", "kept"]
theorem sc_Shelf_set_one : FnScope N_Shelf_set_one ["self", "name", "span", "weight"] (defScope s_Shelf_set_one) := ⟨rfl, rfl, rfl, by decide +kernel, rfl, by decide +kernel, by decide +kernel⟩
abbrev s_is_name : Stmt := top 33
abbrev N_is_name : List Str := ["text", "sign"]
theorem sc_is_name : FnScope N_is_name ["text"] (defScope s_is_name) := ⟨rfl, rfl, rfl, by decide +kernel, rfl, by decide +kernel, by decide +kernel⟩
abbrev s_Shelf_put : Stmt := (clsBody (top 35)).getD 4 (.Pass ⟨0, 0, 0, 0⟩)
abbrev N_Shelf_put : List Str := ["self", "name", "span", "weight"]
theorem sc_Shelf_put : FnScope N_Shelf_put ["self", "name", "span", "weight"] (defScope s_Shelf_put) := ⟨rfl, rfl, rfl, by decide +kernel, rfl, by decide +kernel, by decide +kernel⟩
abbrev s_law_shelf : Stmt := top 46
abbrev N_law_shelf : List Str := ["_law_purse_here", "_law_names_here", "_law_ends", "_law_shelf_here", "_law_kept", "_law_name"]
theorem sc_law_shelf : FnScope N_law_shelf ["_law_purse_here", "_law_names_here", "_law_ends"] (defScope s_law_shelf) := ⟨rfl, rfl, rfl, by decide +kernel, rfl, by decide +kernel, by decide +kernel⟩
abbrev s_Shelf_names : Stmt := (clsBody (top 35)).getD 12 (.Pass ⟨0, 0, 0, 0⟩)
abbrev N_Shelf_names : List Str := ["self"]
theorem sc_Shelf_names : FnScope N_Shelf_names ["self"] (defScope s_Shelf_names) := ⟨rfl, rfl, rfl, by decide +kernel, rfl, by decide +kernel, by decide +kernel⟩
abbrev s_touches : Stmt := top 16
abbrev N_touches : List Str := ["one", "other"]
theorem sc_touches : FnScope N_touches ["one", "other"] (defScope s_touches) := ⟨rfl, rfl, rfl, by decide +kernel, rfl, by decide +kernel, by decide +kernel⟩
abbrev s_Shelf_must_have : Stmt := (clsBody (top 35)).getD 1 (.Pass ⟨0, 0, 0, 0⟩)
abbrev N_Shelf_must_have : List Str := ["self", "name"]
theorem sc_Shelf_must_have : FnScope N_Shelf_must_have ["self", "name"] (defScope s_Shelf_must_have) := ⟨rfl, rfl, rfl, by decide +kernel, rfl, by decide +kernel, by decide +kernel⟩
abbrev s_Shelf_span : Stmt := (clsBody (top 35)).getD 14 (.Pass ⟨0, 0, 0, 0⟩)
abbrev N_Shelf_span : List Str := ["self", "name"]
theorem sc_Shelf_span : FnScope N_Shelf_span ["self", "name"] (defScope s_Shelf_span) := ⟨rfl, rfl, rfl, by decide +kernel, rfl, by decide +kernel, by decide +kernel⟩
abbrev s_clashes : Stmt := top 22
abbrev N_clashes : List Str := ["one", "other", "found", "name", "far"]
theorem sc_clashes : FnScope N_clashes ["one", "other"] (defScope s_clashes) := ⟨rfl, rfl, rfl, by decide +kernel, rfl, by decide +kernel, by decide +kernel⟩
abbrev s_law_meet : Stmt := top 47
abbrev N_law_meet : List Str := ["_law_one", "_law_other"]
theorem sc_law_meet : FnScope N_law_meet ["_law_one", "_law_other"] (defScope s_law_meet) := ⟨rfl, rfl, rfl, by decide +kernel, rfl, by decide +kernel, by decide +kernel⟩
abbrev s_law_clashes : Stmt := top 48
abbrev N_law_clashes : List Str := ["_law_one", "_law_other", "_law_found", "_law_name", "_law_more"]
theorem sc_law_clashes : FnScope N_law_clashes ["_law_one", "_law_other"] (defScope s_law_clashes) := ⟨rfl, rfl, rfl, by decide +kernel, rfl, by decide +kernel, by decide +kernel⟩
abbrev s_law_holds : Stmt := top 49
abbrev N_law_holds : List Str := ["_law_kept", "_law_place", "_law_name"]
theorem sc_law_holds : FnScope N_law_holds ["_law_kept", "_law_place"] (defScope s_law_holds) := ⟨rfl, rfl, rfl, by decide +kernel, rfl, by decide +kernel, by decide +kernel⟩
abbrev s_law_pieces : Stmt := top 50
abbrev N_law_pieces : List Str := ["_law_one", "_law_other", "_law_wanted", "_law_points", "_law_kept", "_law_name", "_law_found", "_law_low", "_law_high"]
theorem sc_law_pieces : FnScope N_law_pieces ["_law_one", "_law_other", "_law_wanted"] (defScope s_law_pieces) := ⟨rfl, rfl, rfl, by decide +kernel, rfl, by decide +kernel, by decide +kernel⟩
abbrev s_shared_by : Stmt := top 19
abbrev N_shared_by : List Str := ["one", "other", "found", "at", "low", "high", "next_one"]
theorem sc_shared_by : FnScope N_shared_by ["one", "other"] (defScope s_shared_by) := ⟨rfl, rfl, rfl, by decide +kernel, rfl, by decide +kernel, by decide +kernel⟩
abbrev s_poured : Stmt := top 18
abbrev N_poured : List Str := ["spans", "found", "low", "high"]
theorem sc_poured : FnScope N_poured ["spans"] (defScope s_poured) := ⟨rfl, rfl, rfl, by decide +kernel, rfl, by decide +kernel, by decide +kernel⟩
abbrev s_Shelf_spans : Stmt := (clsBody (top 35)).getD 13 (.Pass ⟨0, 0, 0, 0⟩)
abbrev N_Shelf_spans : List Str := ["self", "name"]
theorem sc_Shelf_spans : FnScope N_Shelf_spans ["self"] (defScope s_Shelf_spans) := ⟨rfl, rfl, rfl, by decide +kernel, rfl, by decide +kernel, by decide +kernel⟩
abbrev s_Shelf_cover : Stmt := (clsBody (top 35)).getD 22 (.Pass ⟨0, 0, 0, 0⟩)
abbrev N_Shelf_cover : List Str := ["self"]
theorem sc_Shelf_cover : FnScope N_Shelf_cover ["self"] (defScope s_Shelf_cover) := ⟨rfl, rfl, rfl, by decide +kernel, rfl, by decide +kernel, by decide +kernel⟩
abbrev s_shared : Stmt := top 23
abbrev N_shared : List Str := ["one", "other"]
theorem sc_shared : FnScope N_shared ["one", "other"] (defScope s_shared) := ⟨rfl, rfl, rfl, by decide +kernel, rfl, by decide +kernel, by decide +kernel⟩
abbrev s_left_of : Stmt := top 20
abbrev N_left_of : List Str := ["one", "other", "found", "low", "high", "first", "last"]
theorem sc_left_of : FnScope N_left_of ["one", "other"] (defScope s_left_of) := ⟨rfl, rfl, rfl, by decide +kernel, rfl, by decide +kernel, by decide +kernel⟩
abbrev s_spare : Stmt := top 24
abbrev N_spare : List Str := ["one", "other"]
theorem sc_spare : FnScope N_spare ["one", "other"] (defScope s_spare) := ⟨rfl, rfl, rfl, by decide +kernel, rfl, by decide +kernel, by decide +kernel⟩
abbrev s_law_right : Stmt := top 51
abbrev N_law_right : List Str := ["_law_one", "_law_other", "_law_due", "_law_covers", "_law_turn", "_law_found", "_law_some", "_law_shelf_here", "_law_kept", "_law_name"]
theorem sc_law_right : FnScope N_law_right ["_law_one", "_law_other"] (defScope s_law_right) := ⟨rfl, rfl, rfl, by decide +kernel, rfl, by decide +kernel, by decide +kernel⟩
abbrev s_law : Stmt := top 52
abbrev N_law : List Str := ["_law_script", "_law_purse_here", "_law_names_here", "_law_ends", "_law_one", "_law_other", "_law_first", "_law_second", "_law_turned", "_law_own", "_law_name"]
theorem sc_law : FnScope N_law ["_law_script"] (defScope s_law) := ⟨rfl, rfl, rfl, by decide +kernel, rfl, by decide +kernel, by decide +kernel⟩
abbrev xnames : List Str := (["NoSpan", "NoPlace", "NoWeight", "NoCount", "NoName", "Twice", "Full"] : List Str)
def d_law_at : He.DefD := ⟨("_law_at", none), "_law_at", "_law_at", defArgs s_law_at, defBody s_law_at, defScope s_law_at, [], []⟩
def d_law_purse : He.DefD := ⟨("_law_purse", none), "_law_purse", "_law_purse", defArgs s_law_purse, defBody s_law_purse, defScope s_law_purse, [], []⟩
def d_law_mixed : He.DefD := ⟨("_law_mixed", none), "_law_mixed", "_law_mixed", defArgs s_law_mixed, defBody s_law_mixed, defScope s_law_mixed, [], []⟩
def d_law_draw : He.DefD := ⟨("_law_draw", none), "_law_draw", "_law_draw", defArgs s_law_draw, defBody s_law_draw, defScope s_law_draw, [], []⟩
def d_law_names : He.DefD := ⟨("_law_names", none), "_law_names", "_law_names", defArgs s_law_names, defBody s_law_names, defScope s_law_names, [], []⟩
def d_Shelf___init__ : He.DefD := ⟨("Shelf", some "__init__"), "__init__", "Shelf.__init__", defArgs s_Shelf___init__, defBody s_Shelf___init__, defScope s_Shelf___init__, [], []⟩
def d_law_order : He.DefD := ⟨("_law_order", none), "_law_order", "_law_order", defArgs s_law_order, defBody s_law_order, defScope s_law_order, [], []⟩
def d_law_number : He.DefD := ⟨("_law_number", none), "_law_number", "_law_number", defArgs s_law_number, defBody s_law_number, defScope s_law_number, [], []⟩
def d_law_end : He.DefD := ⟨("_law_end", none), "_law_end", "_law_end", defArgs s_law_end, defBody s_law_end, defScope s_law_end, [], []⟩
def d_law_span : He.DefD := ⟨("_law_span", none), "_law_span", "_law_span", defArgs s_law_span, defBody s_law_span, defScope s_law_span, [], []⟩
def d_is_place : He.DefD := ⟨("is_place", none), "is_place", "is_place", defArgs s_is_place, defBody s_is_place, defScope s_is_place, [], []⟩
def d_is_span : He.DefD := ⟨("is_span", none), "is_span", "is_span", defArgs s_is_span, defBody s_is_span, defScope s_is_span, [], []⟩
def d_must_span : He.DefD := ⟨("must_span", none), "must_span", "must_span", defArgs s_must_span, defBody s_must_span, defScope s_must_span, [], []⟩
def d_must_weight : He.DefD := ⟨("must_weight", none), "must_weight", "must_weight", defArgs s_must_weight, defBody s_must_weight, defScope s_must_weight, [], []⟩
def d_must_room : He.DefD := ⟨("must_room", none), "must_room", "must_room", defArgs s_must_room, defBody s_must_room, defScope s_must_room, [], []⟩
def d_Shelf_change : He.DefD := ⟨("Shelf", some "change"), "change", "Shelf.change", defArgs s_Shelf_change, defBody s_Shelf_change, defScope s_Shelf_change, [], []⟩
def d_Shelf_set_one : He.DefD := ⟨("Shelf", some "set_one"), "set_one", "Shelf.set_one", defArgs s_Shelf_set_one, defBody s_Shelf_set_one, defScope s_Shelf_set_one, [], []⟩
def d_is_name : He.DefD := ⟨("is_name", none), "is_name", "is_name", defArgs s_is_name, defBody s_is_name, defScope s_is_name, [], []⟩
def d_Shelf_put : He.DefD := ⟨("Shelf", some "put"), "put", "Shelf.put", defArgs s_Shelf_put, defBody s_Shelf_put, defScope s_Shelf_put, [], []⟩
def d_law_shelf : He.DefD := ⟨("_law_shelf", none), "_law_shelf", "_law_shelf", defArgs s_law_shelf, defBody s_law_shelf, defScope s_law_shelf, [], []⟩
def d_Shelf_names : He.DefD := ⟨("Shelf", some "names"), "names", "Shelf.names", defArgs s_Shelf_names, defBody s_Shelf_names, defScope s_Shelf_names, [], []⟩
def d_touches : He.DefD := ⟨("touches", none), "touches", "touches", defArgs s_touches, defBody s_touches, defScope s_touches, [], []⟩
def d_Shelf_must_have : He.DefD := ⟨("Shelf", some "must_have"), "must_have", "Shelf.must_have", defArgs s_Shelf_must_have, defBody s_Shelf_must_have, defScope s_Shelf_must_have, [], []⟩
def d_Shelf_span : He.DefD := ⟨("Shelf", some "span"), "span", "Shelf.span", defArgs s_Shelf_span, defBody s_Shelf_span, defScope s_Shelf_span, [], []⟩
def d_clashes : He.DefD := ⟨("clashes", none), "clashes", "clashes", defArgs s_clashes, defBody s_clashes, defScope s_clashes, [], []⟩
def d_law_meet : He.DefD := ⟨("_law_meet", none), "_law_meet", "_law_meet", defArgs s_law_meet, defBody s_law_meet, defScope s_law_meet, [], []⟩
def d_law_clashes : He.DefD := ⟨("_law_clashes", none), "_law_clashes", "_law_clashes", defArgs s_law_clashes, defBody s_law_clashes, defScope s_law_clashes, [], []⟩
def d_law_holds : He.DefD := ⟨("_law_holds", none), "_law_holds", "_law_holds", defArgs s_law_holds, defBody s_law_holds, defScope s_law_holds, [], []⟩
def d_law_pieces : He.DefD := ⟨("_law_pieces", none), "_law_pieces", "_law_pieces", defArgs s_law_pieces, defBody s_law_pieces, defScope s_law_pieces, [], []⟩
def d_shared_by : He.DefD := ⟨("shared_by", none), "shared_by", "shared_by", defArgs s_shared_by, defBody s_shared_by, defScope s_shared_by, [], []⟩
def d_poured : He.DefD := ⟨("poured", none), "poured", "poured", defArgs s_poured, defBody s_poured, defScope s_poured, [], []⟩
def d_Shelf_spans : He.DefD := ⟨("Shelf", some "spans"), "spans", "Shelf.spans", defArgs s_Shelf_spans, defBody s_Shelf_spans, defScope s_Shelf_spans, [], []⟩
def d_Shelf_cover : He.DefD := ⟨("Shelf", some "cover"), "cover", "Shelf.cover", defArgs s_Shelf_cover, defBody s_Shelf_cover, defScope s_Shelf_cover, [], []⟩
def d_shared : He.DefD := ⟨("shared", none), "shared", "shared", defArgs s_shared, defBody s_shared, defScope s_shared, [], []⟩
def d_left_of : He.DefD := ⟨("left_of", none), "left_of", "left_of", defArgs s_left_of, defBody s_left_of, defScope s_left_of, [], []⟩
def d_spare : He.DefD := ⟨("spare", none), "spare", "spare", defArgs s_spare, defBody s_spare, defScope s_spare, [], []⟩
def d_law_right : He.DefD := ⟨("_law_right", none), "_law_right", "_law_right", defArgs s_law_right, defBody s_law_right, defScope s_law_right, [], []⟩
def d_law : He.DefD := ⟨("law", none), "law", "law", defArgs s_law, defBody s_law, defScope s_law, [], []⟩
def fn : List He.DefD := [d_law_at, d_law_purse, d_law_mixed, d_law_draw, d_law_names, d_Shelf___init__, d_law_order, d_law_number, d_law_end, d_law_span, d_is_place, d_is_span, d_must_span, d_must_weight, d_must_room, d_Shelf_change, d_Shelf_set_one, d_is_name, d_Shelf_put, d_law_shelf, d_Shelf_names, d_touches, d_Shelf_must_have, d_Shelf_span, d_clashes, d_law_meet, d_law_clashes, d_law_holds, d_law_pieces, d_shared_by, d_poured, d_Shelf_spans, d_Shelf_cover, d_shared, d_left_of, d_spare, d_law_right, d_law]
def fa : List He.Fa := [.glo "_law_at", .glo "_law_purse", .glo "_law_mixed", .glo "_law_draw", .glo "_law_names", .mkr "Shelf", .glo "_law_order", .glo "_law_number", .glo "_law_end", .glo "_law_span", .glo "is_place", .glo "is_span", .glo "must_span", .glo "must_weight", .glo "must_room", .meth "Shelf" "change", .meth "Shelf" "set_one", .glo "is_name", .meth "Shelf" "put", .glo "_law_shelf", .meth "Shelf" "names", .glo "touches", .meth "Shelf" "must_have", .meth "Shelf" "span", .glo "clashes", .glo "_law_meet", .glo "_law_clashes", .glo "_law_holds", .glo "_law_pieces", .glo "shared_by", .glo "poured", .meth "Shelf" "spans", .meth "Shelf" "cover", .glo "shared", .glo "left_of", .glo "spare", .glo "_law_right", .glo "law", .free "len", .free "max", .free "range", .free "list", .free "min", .free "dict", .free "all", .free "sorted", .free "set", .free "zip", .free "isinstance", .int "BEYOND" 1000000000000, .int "MOST_WEIGHT" 1000000000, .int "MOST_SPANS" 60, .int "MOST_LETTERS" 8, .str "LETTERS" "abcdefghijklmnopqrstuvwxyz", .glo "Shelf", .cls "Shelf", .noat "Shelf" "kept", .noat "Shelf" "behind", .noat "Shelf" "ahead"]
abbrev R : PySem.W.OpenRow := PySem.W.OpenLaw.row PySem.Challenge.rw_spanshelf_k70_clashes
abbrev hk : PySem.W.Hook := hookB 4 fa fn (xsB xnames)
def ob (s : PySem.W.SharedT) : He.AlD × Bool := obsB 4 fa fn (xsB xnames) (HandSHeadRun.getT s)
theorem ob_eq (s : PySem.W.SharedT) : ob s = hk.obs s.abs := obsB_eq (HandSHeadRun.getT_eq s)
def loose0 : List Str := ["_wall", "__name__", "ShelfError", "NoSpan", "NoPlace", "NoWeight", "NoCount", "NoName", "Twice", "Full", "BEYOND", "is_place", "must_place", "is_span", "must_span", "touches", "poured", "shared_by", "left_of", "clashes", "shared", "spare", "MOST_WEIGHT", "must_weight", "LETTERS", "MOST_LETTERS", "MOST_SPANS", "MOST_LENGTH", "is_name", "must_room"]
def loose1 : List Str := ["Shelf", "_law_at", "_law_mixed", "_law_purse", "_law_draw", "_law_number", "_law_names", "_law_end", "_law_span", "_law_order", "_law_shelf", "_law_meet", "_law_clashes", "_law_holds", "_law_pieces", "_law_right"]
abbrev loose : List Str := loose0 ++ loose1
theorem run (w : World) : HandSHeadRun.RunEq R (PySem.W.view R.prog [52]) hk ob 40000 loose w := by
  intro os
  kernel_rfl
end LW
/-! The evaluator over plain data: what a reading computes, as a Lean function; each construct's function is sound for its reading, once for all. -/
namespace DL
open PySem PySem.Spec PyProof.Rows L2

inductive RX (α : Type) where
  | ok (a : α)
  | ex (x : Str)
abbrev MX (α : Type) := Option (RX α × Store)
def MX.bind {α β : Type} (x : MX α) (k : α → Store → MX β) : MX β :=
  match x with
  | some (.ok a, m) => k a m
  | some (.ex x, m) => some (.ex x, m)
  | none => none
abbrev ret {α : Type} (a : α) (m : Store) : MX α := some (.ok a, m)
section
variable {α β : Type} {a : α} {m : Store} {x : Str} {k : α → Store → MX β}
theorem bind_ok : MX.bind (some (.ok a, m)) k = k a m := rfl
theorem bind_ex : MX.bind (some (.ex x, m)) k = some (.ex x, m) := rfl
theorem bind_none : MX.bind none k = none := rfl
theorem bind_some {x : MX α} {res : RX β} {m' : Store} (h : x.bind k = some (res, m')) : (∃ a m1, x = some (.ok a, m1) ∧ k a m1 = some (res, m')) ∨ ∃ y, x = some (.ex y, m') ∧ res = .ex y := by
  cases x with
  | none => cases h
  | some p =>
    obtain ⟨r, m1⟩ := p
    cases r with
    | ok a => exact .inl ⟨a, m1, rfl, h⟩
    | ex y => cases h; exact .inr ⟨y, rfl, rfl⟩
end
abbrev ME := En → Store → MX D
abbrev MT := En → Store → MX Bool
abbrev MA := En → Store → MX (List D)
/-! ### the judgement -/
abbrev Rel (α β : Type) := Hp → Store → List Addr → Hp → Hp → α → β → Prop
section
variable {α β γ κ : Type}
def JAt (K : PySem.W.Frag) (W : WX) (R : Rel α β) (r : List Addr) (F H : Hp) (σ : L2.St) (m : Store) (t : Hp → (α → Hp → Prop) → Prop) : RX β → Store → Prop
  | .ok b, m' => ∀ Q : α → Hp → Prop, (∀ a r' F' H', HR K r' F' H' m' → Ext r F H m r' F' H' m' → R H m' r' F' H' a b → Q a H') → t H Q
  | .ex x, m' => (∀ r' F' H', HR K r' F' H' m' → Ext r F H m r' F' H' m' → W (.ref (ga K x)) none σ H') → ∀ Q : α → Hp → Prop, t H Q
def JX (K : PySem.W.Frag) (W : WX) (R : Rel α β) (t : L2.St → Hp → (α → Hp → Prop) → Prop) (δ : En) (m : Store) (res : RX β) (m' : Store) : Prop := ∀ r F H σ, HR K r F H m → ER K r F σ δ → JAt K W R r F H σ m (t σ) res m'
def So (K : PySem.W.Frag) (W : WX) (R : Rel α β) (t : L2.St → Hp → (α → Hp → Prop) → Prop) (e : En → Store → MX β) : Prop := ∀ δ m res m', e δ m = some (res, m') → JX K W R t δ m res m'
def RMon (R : Rel α β) : Prop := ∀ H H1 m r F G a b, (∀ p, H1 p = none → H p = none) → R H1 m r F G a b → R H m r F G a b
variable {K : PySem.W.Frag} {W : WX} {R : Rel α β} {R' : Rel γ κ} {r : List Addr} {F H : Hp} {σ : L2.St} {m m1 m2 : Store} {t : Hp → (α → Hp → Prop) → Prop} {u : α → Hp → (γ → Hp → Prop) → Prop} {b : β} {res : RX κ}
theorem JAt.bind (mon : RMon R') (hr : HR K r F H m) (h : JAt K W R r F H σ m t (.ok b) m1)
    (k : ∀ a r1 F1 H1, HR K r1 F1 H1 m1 → Ext r F H m r1 F1 H1 m1 → R H m1 r1 F1 H1 a b → JAt K W R' r1 F1 H1 σ m1 (u a) res m2) : JAt K W R' r F H σ m (fun H Q => t H fun a H1 => u a H1 Q) res m2 := by
  cases res with
  | ok c => exact fun Q q => h _ fun a r1 F1 H1 hr1 x1 ra => k a r1 F1 H1 hr1 x1 ra Q fun c' r2 F2 H2 hr2 x2 rc => q c' r2 F2 H2 hr2 (x1.trans hr1.len hr.len x2) (mon _ _ _ _ _ _ _ _ (fun p => trk_back x1) rc)
  | ex x => exact fun q Q => h _ fun a r1 F1 H1 hr1 x1 ra => k a r1 F1 H1 hr1 x1 ra (fun r2 F2 H2 hr2 x2 => q r2 F2 H2 hr2 (x1.trans hr1.len hr.len x2)) Q
theorem JAt.thrown {x : Str} (h : JAt K W R r F H σ m t (.ex x) m1) : JAt K W R' r F H σ m (fun H Q => t H fun a H1 => u a H1 Q) (.ex x) m1 := fun q Q => h q _
theorem JAt.ret {a : α} (hr : HR K r F H m) (h : R H m r F H a b) : JAt K W R r F H σ m (fun H Q => Q a H) (.ok b) m := fun Q q => q a r F H hr (Ext.refl hr) h
/-- the bind of readings and of functions -/
theorem So.bind {ta : L2.St → Hp → (α → Hp → Prop) → Prop} {a : En → Store → MX β} {u : α → L2.St → Hp → (γ → Hp → Prop) → Prop} {k : β → En → Store → MX κ} (mon : RMon R') (ha : So K W R ta a)
    (hk : ∀ b δ m res m', k b δ m = some (res, m') → ∀ v r F H σ H0, HR K r F H m → ER K r F σ δ → R H0 m r F H v b → JAt K W R' r F H σ m (u v σ) res m') :
    So K W R' (fun σ H Q => ta σ H fun v H1 => u v σ H1 Q) (fun δ m => (a δ m).bind fun x m => k x δ m) := fun δ m res m' e r F H σ hr er => by
  rcases bind_some e with ⟨x, m1, e1, e2⟩ | ⟨y, e1, rfl⟩
  · exact (ha δ m _ _ e1 r F H σ hr er).bind mon hr fun v r1 F1 H1 hr1 x1 rv => hk x δ m1 res m' e2 v r1 F1 H1 σ H hr1 (er.ext x1) rv
  · exact (ha δ m _ _ e1 r F H σ hr er).thrown
end
abbrev RE (K : PySem.W.Frag) : Rel V D := fun _ _ r F _ v d => Rep K r F v d
abbrev RB : Rel Bool Bool := fun _ _ _ _ _ a b => a = b
abbrev RA (K : PySem.W.Frag) : Rel (List V) (List D) := fun _ _ r F _ v d => RepAll K r F v d
abbrev RO : Rel (Option Int) (Option Int) := fun _ _ _ _ _ a b => a = b
theorem re_mon {K : PySem.W.Frag} : RMon (RE K) := fun _ _ _ _ _ _ _ _ _ h => h
theorem rb_mon : RMon RB := fun _ _ _ _ _ _ _ _ _ h => h
theorem ra_mon {K : PySem.W.Frag} : RMon (RA K) := fun _ _ _ _ _ _ _ _ _ h => h
theorem ro_mon : RMon RO := fun _ _ _ _ _ _ _ _ _ h => h

/-! ### expressions -/
def eC (d : D) : ME := fun _ m => ret d m
def eVar (i : Nat) : ME := fun δ m => match δ[i]? with
  | some (some d) => ret d m
  | _ => none
def eOp (o : D → D → Store → MX D) (a b : ME) : ME := fun δ m => (a δ m).bind fun x m => (b δ m).bind fun y m => o x y m
def eUn (o : D → Store → MX D) (a : ME) : ME := fun δ m => (a δ m).bind fun x m => o x m
def eAnd (a b : ME) : ME := fun δ m => (a δ m).bind fun x m => match x with
  | .bl c => cond c (b δ m) (ret (.bl false) m)
  | _ => none
def eOr (a b : ME) : ME := fun δ m => (a δ m).bind fun x m => match x with
  | .bl c => cond c (ret (.bl true) m) (b δ m)
  | _ => none
def eNot (a : ME) : ME := fun δ m => (a δ m).bind fun x m => match x with
  | .bl c => ret (.bl (!c)) m
  | _ => none
def tst (a : ME) : MT := fun δ m => (a δ m).bind fun x m => match x with
  | .bl c => ret c m
  | _ => none
def mAnd (a b : MT) : MT := fun δ m => (a δ m).bind fun c m => cond c (b δ m) (ret false m)
def mOr (a b : MT) : MT := fun δ m => (a δ m).bind fun c m => cond c (ret true m) (b δ m)
def mNot (a : MT) : MT := fun δ m => (a δ m).bind fun c m => ret (!c) m
def mYes : MT := fun _ m => ret true m
def eIf (t : MT) (a b : ME) : ME := fun δ m => (t δ m).bind fun c m => cond c (a δ m) (b δ m)
def eChain (o1 o2 : D → D → Store → MX D) (a b c : ME) : ME := fun δ m => (a δ m).bind fun x m => (b δ m).bind fun y m => (o1 x y m).bind fun z m => match z with
  | .bl k => cond k ((c δ m).bind fun w m => o2 y w m) (ret (.bl false) m)
  | _ => none
def aNil : MA := fun _ m => ret [] m
def aCons (a : ME) (as : MA) : MA := fun δ m => (a δ m).bind fun x m => (as δ m).bind fun xs m => ret (x :: xs) m
def eTup (as : MA) : ME := fun δ m => (as δ m).bind fun xs m => if xs.length ≤ 100000 then ret (.tup xs) m else none
def eCB (p : List D → Store → MX D) (as : MA) : ME := fun δ m => (as δ m).bind fun xs m => p xs m
section
variable {K : PySem.W.Frag} {W : WX} {ta tb tc : TE} {tt tu : TT} {tas : TA} {a b c : ME} {t u : MT} {as : MA}
/-- values -/
def S2 (K : PySem.W.Frag) (W : WX) (rr : R2) (o : D → D → Store → MX D) : Prop := ∀ x y m res m', o x y m = some (res, m') → ∀ r F H σ vx vy, HR K r F H m → Rep K r F vx x → Rep K r F vy y → JAt K W (RE K) r F H σ m (rr vx vy) res m'
def S1 (K : PySem.W.Frag) (W : WX) (rr : V → Hp → VK → Prop) (o : D → Store → MX D) : Prop := ∀ x m res m', o x m = some (res, m') → ∀ r F H σ vx, HR K r F H m → Rep K r F vx x → JAt K W (RE K) r F H σ m (rr vx) res m'
def SC {γ κ : Type} (K : PySem.W.Frag) (W : WX) (R : Rel γ κ) (rr : List V → Hp → (γ → Hp → Prop) → Prop) (o : List D → Store → MX κ) : Prop := ∀ xs m res m', o xs m = some (res, m') → ∀ r F H σ vs, HR K r F H m → RepAll K r F vs xs → JAt K W R r F H σ m (rr vs) res m'
theorem so_cint {i : Int} : So K W (RE K) (tC (.int i)) (eC (.int i)) := fun δ m res m' e r F H σ hr er => by cases e; exact JAt.ret hr (.int i)
theorem so_cbl {i : Bool} : So K W (RE K) (tC (.bl i)) (eC (.bl i)) := fun δ m res m' e r F H σ hr er => by cases e; exact JAt.ret hr (.bl i)
theorem so_cstr {i : Str} : So K W (RE K) (tC (.str i)) (eC (.str i)) := fun δ m res m' e r F H σ hr er => by cases e; exact JAt.ret hr (.str i)
theorem so_cnon : So K W (RE K) (tC .non) (eC .non) := fun δ m res m' e r F H σ hr er => by cases e; exact JAt.ret hr .non
theorem so_var {i : Nat} : So K W (RE K) (tVar i) (eVar i) := fun δ m res m' e r F H σ hr er => by
  unfold eVar at e
  split at e
  · rename_i d h
    cases e
    obtain ⟨v, e1, p⟩ := er.2 i d h
    exact fun Q q => ⟨v, e1, q v r F H hr (Ext.refl hr) p⟩
  · cases e
theorem so_op {rr : R2} {o : D → D → Store → MX D} (ho : S2 K W rr o) (ha : So K W (RE K) ta a) (hb : So K W (RE K) tb b) : So K W (RE K) (tOp rr ta tb) (eOp o a b) := fun δ m res m' e r F H σ hr er => by
  show JAt K W (RE K) r F H σ m (fun H Q => ta σ H fun x H1 => tb σ H1 fun y H2 => rr x y H2 Q) res m'
  rcases bind_some e with ⟨x, m1, e1, e2⟩ | ⟨y, e1, rfl⟩
  · refine (ha δ m _ _ e1 r F H σ hr er).bind re_mon hr fun v r1 F1 H1 hr1 x1 rv => ?_
    rcases bind_some e2 with ⟨y, m2, e3, e4⟩ | ⟨y, e3, rfl⟩
    · refine (hb δ m1 _ _ e3 r1 F1 H1 σ hr1 (er.ext x1)).bind re_mon hr1 fun w r2 F2 H2 hr2 x2 rw => ?_
      exact ho x y m2 res m' e4 r2 F2 H2 σ v w hr2 (rv.mono x2.pre x2.sub) rw
    · exact (hb δ m1 _ _ e3 r1 F1 H1 σ hr1 (er.ext x1)).thrown
  · exact (ha δ m _ _ e1 r F H σ hr er).thrown
theorem so_un {rr : V → Hp → VK → Prop} {o : D → Store → MX D} (ho : S1 K W rr o) (ha : So K W (RE K) ta a) : So K W (RE K) (tUn rr ta) (eUn o a) :=
  So.bind re_mon ha (k := fun x δ m => o x m) (u := fun x σ H Q => rr x H Q) fun x δ m res m' e v r F H σ _ hr er rv => ho x m res m' e r F H σ v hr rv
theorem so_and (ha : So K W (RE K) ta a) (hb : So K W (RE K) tb b) : So K W (RE K) (tAndV ta tb) (eAnd a b) :=
  So.bind re_mon ha (k := fun x δ m => match x with
    | .bl c => cond c (b δ m) (ret (.bl false) m)
    | _ => none) (u := fun x σ H Q => ∃ c, x = .bl c ∧ if c = true then tb σ H Q else Q (.bl false) H) fun x δ m res m' e v r F H σ _ hr er rv => by
    cases x with
    | bl c =>
      cases rv
      cases c with
      | true =>
        have h := hb δ m res m' e r F H σ hr er
        cases res with
        | ok z => exact fun Q q => ⟨true, rfl, h Q q⟩
        | ex z => exact fun q Q => ⟨true, rfl, h q Q⟩
      | false => cases e; exact fun Q q => ⟨false, rfl, q _ r F H hr (Ext.refl hr) (.bl false)⟩
    | _ => cases e
theorem so_or (ha : So K W (RE K) ta a) (hb : So K W (RE K) tb b) : So K W (RE K) (tOrV ta tb) (eOr a b) :=
  So.bind re_mon ha (k := fun x δ m => match x with
    | .bl c => cond c (ret (.bl true) m) (b δ m)
    | _ => none) (u := fun x σ H Q => ∃ c, x = .bl c ∧ if c = true then Q (.bl true) H else tb σ H Q) fun x δ m res m' e v r F H σ _ hr er rv => by
    cases x with
    | bl c =>
      cases rv
      cases c with
      | false =>
        have h := hb δ m res m' e r F H σ hr er
        cases res with
        | ok z => exact fun Q q => ⟨false, rfl, h Q q⟩
        | ex z => exact fun q Q => ⟨false, rfl, h q Q⟩
      | true => cases e; exact fun Q q => ⟨true, rfl, q _ r F H hr (Ext.refl hr) (.bl true)⟩
    | _ => cases e
theorem so_not (ha : So K W (RE K) ta a) : So K W (RE K) (tNotV ta) (eNot a) :=
  So.bind re_mon ha (k := fun x δ m => match x with
    | .bl c => ret (.bl (!c)) m
    | _ => none) (u := fun x σ H Q => ∃ c, x = .bl c ∧ Q (.bl (!c)) H) fun x δ m res m' e v r F H σ _ hr er rv => by
    cases x with
    | bl c => cases rv; cases e; exact fun Q q => ⟨c, rfl, q _ r F H hr (Ext.refl hr) (.bl _)⟩
    | _ => cases e
theorem so_test (ha : So K W (RE K) ta a) : So K W RB (tTest ta) (tst a) :=
  So.bind rb_mon ha (k := fun (x : D) δ m => match x with
    | .bl c => ret c m
    | _ => none) (u := fun (x : V) σ H Q => ∃ c : Bool, x = V.bl c ∧ Q c H) fun x δ m res m' e v r F H σ _ hr er rv => by
    cases x with
    | bl c => cases rv; cases e; exact fun Q q => ⟨c, rfl, q _ r F H hr (Ext.refl hr) rfl⟩
    | _ => cases e
theorem so_B (ha : So K W (RE K) ta a) : So K W RB (tB ta) (tst a) := so_test ha
theorem so_mAnd (ha : So K W RB tt t) (hb : So K W RB tu u) : So K W RB (tAnd tt tu) (mAnd t u) :=
  So.bind rb_mon ha (k := fun (c : Bool) δ m => cond c (u δ m) (ret false m)) (u := fun (c : Bool) σ H Q => if c = true then tu σ H Q else Q false H) fun x δ m res m' e v r F H σ _ hr er rv => by
    cases rv
    cases x with
    | true => exact hb δ m res m' e r F H σ hr er
    | false => cases e; exact fun Q q => q _ r F H hr (Ext.refl hr) rfl
theorem so_mOr (ha : So K W RB tt t) (hb : So K W RB tu u) : So K W RB (tOr tt tu) (mOr t u) :=
  So.bind rb_mon ha (k := fun (c : Bool) δ m => cond c (ret true m) (u δ m)) (u := fun (c : Bool) σ H Q => if c = true then Q true H else tu σ H Q) fun x δ m res m' e v r F H σ _ hr er rv => by
    cases rv
    cases x with
    | false => exact hb δ m res m' e r F H σ hr er
    | true => cases e; exact fun Q q => q _ r F H hr (Ext.refl hr) rfl
theorem so_mNot (ha : So K W RB tt t) : So K W RB (tNot tt) (mNot t) :=
  So.bind rb_mon ha (k := fun c δ m => ret (!c) m) (u := fun c σ H Q => Q (!c) H) fun x δ m res m' e v r F H σ _ hr er rv => by
    cases rv; cases e; exact fun Q q => q _ r F H hr (Ext.refl hr) rfl
theorem so_yes : So K W RB tYes mYes := fun δ m res m' e r F H σ hr er => by cases e; exact fun Q q => q _ r F H hr (Ext.refl hr) rfl
theorem so_if (ht : So K W RB tt t) (ha : So K W (RE K) ta a) (hb : So K W (RE K) tb b) : So K W (RE K) (tIf tt ta tb) (eIf t a b) :=
  So.bind re_mon ht (k := fun (c : Bool) δ m => cond c (a δ m) (b δ m)) (u := fun (c : Bool) σ H Q => if c = true then ta σ H Q else tb σ H Q) fun x δ m res m' e v r F H σ _ hr er rv => by
    cases rv
    cases x with
    | true => exact ha δ m res m' e r F H σ hr er
    | false => exact hb δ m res m' e r F H σ hr er
theorem so_chain {q1 q2 : R2} {o1 o2 : D → D → Store → MX D} (h1 : S2 K W q1 o1) (h2 : S2 K W q2 o2) (ha : So K W (RE K) ta a) (hb : So K W (RE K) tb b) (hc : So K W (RE K) tc c) : So K W (RE K) (tChain q1 q2 ta tb tc) (eChain o1 o2 a b c) := fun δ m res m' e r F H σ hr er => by
  show JAt K W (RE K) r F H σ m (fun H Q => ta σ H fun x H1 => tb σ H1 fun y H2 => q1 x y H2 fun z H3 => ∃ k, z = .bl k ∧ if k = true then tc σ H3 (fun w H4 => q2 y w H4 Q) else Q (.bl false) H3) res m'
  rcases bind_some e with ⟨x, m1, e1, e2⟩ | ⟨y, e1, rfl⟩
  · refine (ha δ m _ _ e1 r F H σ hr er).bind re_mon hr fun v r1 F1 H1 hr1 x1 rv => ?_
    rcases bind_some e2 with ⟨y, m2, e3, e4⟩ | ⟨y, e3, rfl⟩
    · refine (hb δ m1 _ _ e3 r1 F1 H1 σ hr1 (er.ext x1)).bind re_mon hr1 fun w r2 F2 H2 hr2 x2 rw => ?_
      rcases bind_some e4 with ⟨z, m3, e5, e6⟩ | ⟨z, e5, rfl⟩
      · refine (h1 x y m2 _ m3 e5 r2 F2 H2 σ v w hr2 (rv.mono x2.pre x2.sub) rw).bind re_mon hr2 fun z' r3 F3 H3 hr3 x3 rz => ?_
        cases z with
        | bl k =>
          cases rz
          cases k with
          | false => cases e6; exact fun Q q => ⟨false, rfl, q _ r3 F3 H3 hr3 (Ext.refl hr3) (.bl false)⟩
          | true =>
            have er3 := ((er.ext x1).ext x2).ext x3
            have key : JAt K W (RE K) r3 F3 H3 σ m3 (fun H Q => tc σ H fun w' H4 => q2 w w' H4 Q) res m' := by
              rcases bind_some e6 with ⟨u, m4, e7, e8⟩ | ⟨u, e7, rfl⟩
              · exact (hc δ m3 _ _ e7 r3 F3 H3 σ hr3 er3).bind re_mon hr3 fun w' r4 F4 H4 hr4 x4 rw' => h2 y u m4 res m' e8 r4 F4 H4 σ w w' hr4 (rw.mono (x3.pre.trans x4.pre) (x3.sub.trans x4.sub)) rw'
              · exact (hc δ m3 _ _ e7 r3 F3 H3 σ hr3 er3).thrown
            cases res with
            | ok z => exact fun Q q => ⟨true, rfl, key Q q⟩
            | ex z => exact fun q Q => ⟨true, rfl, key q Q⟩
        | _ => cases e6
      · exact (h1 x y m2 _ _ e5 r2 F2 H2 σ v w hr2 (rv.mono x2.pre x2.sub) rw).thrown
    · exact (hb δ m1 _ _ e3 r1 F1 H1 σ hr1 (er.ext x1)).thrown
  · exact (ha δ m _ _ e1 r F H σ hr er).thrown
theorem so_anil : So K W (RA K) tNil aNil := fun δ m res m' e r F H σ hr er => by cases e; exact JAt.ret hr .nil
theorem so_acons (ha : So K W (RE K) ta a) (hs : So K W (RA K) tas as) : So K W (RA K) (tCons ta tas) (aCons a as) := fun δ m res m' e r F H σ hr er => by
  show JAt K W (RA K) r F H σ m (fun H Q => ta σ H fun x H1 => tas σ H1 fun xs H2 => Q (x :: xs) H2) res m'
  rcases bind_some e with ⟨x, m1, e1, e2⟩ | ⟨y, e1, rfl⟩
  · refine (ha δ m _ _ e1 r F H σ hr er).bind ra_mon hr fun v r1 F1 H1 hr1 x1 rv => ?_
    rcases bind_some e2 with ⟨y, m2, e3, e4⟩ | ⟨y, e3, rfl⟩
    · refine (hs δ m1 _ _ e3 r1 F1 H1 σ hr1 (er.ext x1)).bind ra_mon hr1 fun ws r2 F2 H2 hr2 x2 rw => ?_
      cases e4
      exact JAt.ret hr2 (.cons (rv.mono x2.pre x2.sub) rw)
    · exact (hs δ m1 _ _ e3 r1 F1 H1 σ hr1 (er.ext x1)).thrown
  · exact (ha δ m _ _ e1 r F H σ hr er).thrown
theorem so_tup (hs : So K W (RA K) tas as) : So K W (RE K) (tTup tas) (eTup as) :=
  So.bind re_mon hs (k := fun xs δ m => if xs.length ≤ 100000 then ret (.tup xs) m else none) (u := fun xs σ H Q => xs.length ≤ sizeLine ∧ ∀ p, H p = none → Q (.ref p) (upd H p (.tup xs))) fun x δ m res m' e v r F H σ _ hr er rv => by
    split at e
    · rename_i hl
      cases e
      exact fun Q q => ⟨Evl.sz_of (by rw [rv.len]; exact hl), fun p hp => q _ r _ _ (hr.laid hp) (Ext.laid hr hp) (.tup upd_same (rv.mono (Pre.refl _) (Ext.laid hr hp).sub))⟩
    · cases e
theorem so_cb {γ κ : Type} {R : Rel γ κ} {rr : List V → Hp → (γ → Hp → Prop) → Prop} {o : List D → Store → MX κ} (mon : RMon R) (ho : SC K W R rr o) (hs : So K W (RA K) tas as) : So K W R (fun σ H Q => tas σ H fun vs H1 => rr vs H1 Q) (fun δ m => (as δ m).bind fun xs m => o xs m) :=
  So.bind mon hs (k := fun x δ m => o x m) (u := fun x σ H Q => rr x H Q) fun x δ m res m' e v r F H σ _ hr er rv => ho x m res m' e r F H σ v hr rv
theorem so_eCB {rr : List V → Hp → VK → Prop} {o : List D → Store → MX D} (ho : SC K W (RE K) rr o) (hs : So K W (RA K) tas as) : So K W (RE K) (tCB rr tas) (eCB o as) := so_cb re_mon ho hs
end
end DL
namespace DL
open PySem PySem.Spec PyProof.Rows L2

/-! ### what is new: lists that nothing else holds -/
inductive F1 where
  | pl (d : D)
  | own (xs : List D)
inductive FT where
  | pl (d : D)
  | own (xs : List D)
  | tup (fs : List F1)
abbrev MF := En → Store → MX FT
def F1.dat : F1 → D
  | .pl d => d
  | .own xs => .lst xs
def FT.dat : FT → D
  | .pl d => d
  | .own xs => .lst xs
  | .tup fs => .tup (fs.map F1.dat)
def celL : List F1 → Store → List D × Store
  | [], m => ([], m)
  | .pl d :: fs, m => (d :: (celL fs m).1, (celL fs m).2)
  | .own xs :: fs, m => (.cell m.length :: (celL fs (m ++ [.lst xs])).1, (celL fs (m ++ [.lst xs])).2)
def FT.cel : FT → Store → D × Store
  | .pl d, m => (d, m)
  | .own xs, m => (.cell m.length, m ++ [.lst xs])
  | .tup fs, m => (.tup (celL fs m).1, (celL fs m).2)
inductive OwnL (K : PySem.W.Frag) (r : List Addr) (F H : Hp) : List V → List F1 → List Addr → Prop
  | nil : OwnL K r F H [] [] []
  | pl {v : V} {d : D} {vs : List V} {fs : List F1} {as : List Addr} : Rep K r F v d → OwnL K r F H vs fs as → OwnL K r F H (v :: vs) (.pl d :: fs) as
  | own {p : Addr} {ws : List V} {xs : List D} {vs : List V} {fs : List F1} {as : List Addr} : H p = some (.lst ws) → RepAll K r F ws xs → OwnL K r F H vs fs as → OwnL K r F H (.ref p :: vs) (.own xs :: fs) (p :: as)
def OwnT (K : PySem.W.Frag) (r : List Addr) (F H : Hp) (v : V) : FT → List Addr → Prop
  | .pl d, as => Rep K r F v d ∧ as = []
  | .own xs, as => OwnL K r F H [v] [.own xs] as
  | .tup fs, as => ∃ p vs, v = .ref p ∧ F p = some (.tup vs) ∧ OwnL K r F H vs fs as
/-- the new ones' places -/
def New (H0 : Hp) (m : Store) (r : List Addr) (F : Hp) (as : List Addr) : Prop := as.Nodup ∧ ∀ p ∈ as, H0 p = none ∧ F p = none ∧ ∀ k : Nat, live m k → r[k]? ≠ some p
def RF (K : PySem.W.Frag) : Rel V FT := fun H0 m r F H v ft => ∃ as, OwnT K r F H v ft as ∧ New H0 m r F as
theorem rf_mon {K : PySem.W.Frag} : RMon (RF K) := fun H H1 m r F G a b k ⟨as, h1, h2, h3⟩ => ⟨as, h1, h2, fun p hp => ⟨k p (h3 p hp).1, (h3 p hp).2⟩⟩
section
variable {K : PySem.W.Frag} {r r0 : List Addr} {F H F0 H0 : Hp} {m m0 : Store}
theorem OwnL.mono {r' : List Addr} {F' : Hp} (p : Pre r r') (e : Same F F') : ∀ {vs : List V} {fs : List F1} {as : List Addr}, OwnL K r F H vs fs as → OwnL K r' F' H vs fs as
  | _, _, _, .nil => .nil
  | _, _, _, .pl h t => .pl (h.mono p e) (t.mono p e)
  | _, _, _, .own h q t => .own h (q.mono p e) (t.mono p e)
theorem OwnL.at_some : ∀ {vs : List V} {fs : List F1} {as : List Addr}, OwnL K r F H vs fs as → ∀ p ∈ as, ∃ o, H p = some o
  | _, _, _, .nil, p, hp => nomatch hp
  | _, _, _, .pl _ t, p, hp => t.at_some p hp
  | _, _, _, .own h _ t, p, hp => by
    rcases List.mem_cons.mp hp with rfl | hp
    · exact ⟨_, h⟩
    · exact t.at_some p hp
/-- all are frozen -/
theorem freezeAll : ∀ {as : List Addr} {F : Hp}, New H0 m r F as → (∀ p ∈ as, ∃ o, H p = some o) → HR K r F H m → Ext r0 F0 H0 m0 r F H m → ∃ F', HR K r F' H m ∧ Ext r0 F0 H0 m0 r F' H m ∧ Same F F' ∧ ∀ p ∈ as, F' p = H p
  | [], F, _, _, hr, x => ⟨F, hr, x, Same.refl F, fun p hp => nomatch hp⟩
  | a :: as, F, ⟨nd, hn⟩, ho, hr, x => by
    obtain ⟨o, eo⟩ := ho a List.mem_cons_self
    obtain ⟨h1, h2, h3⟩ := hn a List.mem_cons_self
    have nd' := List.nodup_cons.mp nd
    have s1 : Same F (upd F a o) := fun b u e => by rw [upd_ne (ne_of_none e h2)]; exact e
    obtain ⟨F', hr', x', s', e'⟩ := freezeAll (as := as) (F := upd F a o) ⟨nd'.2, fun p hp => by
      obtain ⟨q1, q2, q3⟩ := hn p (List.mem_cons_of_mem _ hp)
      have ne : p ≠ a := fun z => nd'.1 (z ▸ hp)
      exact ⟨q1, by rw [upd_ne ne]; exact q2, q3⟩⟩ (fun p hp => ho p (List.mem_cons_of_mem _ hp)) (hr.freeze h2 h3 eo) (x.freeze h2 h1)
    refine ⟨F', hr', x', s1.trans s', fun p hp => ?_⟩
    rcases List.mem_cons.mp hp with rfl | hp
    · rw [s' p o upd_same, eo]
    · exact e' p hp
theorem OwnL.dat {F' : Hp} (s : Same F F') : ∀ {vs : List V} {fs : List F1} {as : List Addr}, OwnL K r F H vs fs as → (∀ p ∈ as, F' p = H p) → RepAll K r F' vs (fs.map F1.dat)
  | _, _, _, .nil, _ => .nil
  | _, _, _, .pl h t, e => .cons (h.mono (Pre.refl _) s) (t.dat s e)
  | _, _, _, .own h q t, e => .cons (.lst ((e _ List.mem_cons_self).trans h) (q.mono (Pre.refl _) s)) (t.dat s fun p hp => e p (List.mem_cons_of_mem _ hp))
theorem rf_dat {v : V} {ft : FT} (hr : HR K r F H m) (x : Ext r0 F0 H0 m0 r F H m) (h : RF K H0 m r F H v ft) : ∃ F', HR K r F' H m ∧ Ext r0 F0 H0 m0 r F' H m ∧ Rep K r F' v ft.dat := by
  obtain ⟨as, h1, h2⟩ := h
  cases ft with
  | pl d => exact ⟨F, hr, x, h1.1⟩
  | own xs =>
    obtain ⟨F', hr', x', s, e⟩ := freezeAll h2 (OwnL.at_some h1) hr x
    have := OwnL.dat s h1 e
    cases this with
    | cons q _ => exact ⟨F', hr', x', q⟩
  | tup fs =>
    obtain ⟨p, vs, rfl, hp, h1⟩ := h1
    obtain ⟨F', hr', x', s, e⟩ := freezeAll h2 (OwnL.at_some h1) hr x
    exact ⟨F', hr', x', .tup (s _ _ hp) (OwnL.dat s h1 e)⟩
theorem celAll : ∀ {vs : List V} {fs : List F1} {as : List Addr} {r : List Addr} {m : Store}, OwnL K r F H vs fs as → New H0 m r F as → HR K r F H m → Ext r0 F0 H0 m0 r F H m → ∃ r', HR K r' F H (celL fs m).2 ∧ Ext r0 F0 H0 m0 r' F H (celL fs m).2 ∧ Pre r r' ∧ RepAll K r' F vs (celL fs m).1
  | _, _, _, r, m, .nil, _, hr, x => ⟨r, hr, x, Pre.refl _, .nil⟩
  | _, _, _, r, m, .pl h t, n, hr, x => by
    obtain ⟨r', hr', x', p, q⟩ := celAll t n hr x
    exact ⟨r', hr', x', p, .cons (h.mono p (Same.refl _)) q⟩
  | _, _, _, r, m, .own (p := p) (ws := ws) (xs := xs) h q t, ⟨nd, hn⟩, hr, x => by
    obtain ⟨h1, h2, h3⟩ := hn p List.mem_cons_self
    have nd' := List.nodup_cons.mp nd
    have hc := hr.toCell (c := .lst xs) h2 h3 ⟨ws, h, q⟩
    have pr : Pre r (r ++ [p]) := Pre.app r [p]
    obtain ⟨r', hr', x', p', q'⟩ := celAll (t.mono pr (Same.refl _)) ⟨nd'.2, fun a ha => by
      obtain ⟨q1, q2, q3⟩ := hn a (List.mem_cons_of_mem _ ha)
      refine ⟨q1, q2, fun k l e => ?_⟩
      rcases live_app l with z | rfl
      · rw [List.getElem?_append_left (by rw [hr.len]; exact live_lt z)] at e
        exact q3 k z e
      · have last : (r ++ [p])[m.length]? = some p := by rw [← hr.len]; simp
        rw [last] at e
        cases e
        exact nd'.1 ha⟩ hc (x.toCell hr.len h1)
    refine ⟨r', hr', x', pr.trans p', .cons (.cell (p' _ _ ?_)) q'⟩
    rw [← hr.len]; simp
theorem rf_cel {v : V} {ft : FT} (hr : HR K r F H m) (x : Ext r0 F0 H0 m0 r F H m) (h : RF K H0 m r F H v ft) : ∃ r', HR K r' F H (ft.cel m).2 ∧ Ext r0 F0 H0 m0 r' F H (ft.cel m).2 ∧ Rep K r' F v (ft.cel m).1 := by
  obtain ⟨as, h1, h2⟩ := h
  cases ft with
  | pl d => exact ⟨r, hr, x, h1.1⟩
  | own xs =>
    obtain ⟨r', hr', x', _, q⟩ := celAll h1 h2 hr x
    cases q with
    | cons q _ => exact ⟨r', hr', x', q⟩
  | tup fs =>
    obtain ⟨p, vs, rfl, hp, h1⟩ := h1
    obtain ⟨r', hr', x', _, q⟩ := celAll h1 h2 hr x
    exact ⟨r', hr', x', .tup hp q⟩
end
section
variable {α β κ : Type} {K : PySem.W.Frag} {W : WX} {R : Rel α β} {R' : Rel α κ} {r : List Addr} {F H : Hp} {σ : L2.St} {m m1 m2 : Store} {t : Hp → (α → Hp → Prop) → Prop} {b : β} {c : κ}
theorem JAt.re (h : JAt K W R r F H σ m t (.ok b) m1) (k : ∀ a r' F' H', HR K r' F' H' m1 → Ext r F H m r' F' H' m1 → R H m1 r' F' H' a b → ∃ r'' F'', HR K r'' F'' H' m2 ∧ Ext r F H m r'' F'' H' m2 ∧ R' H m2 r'' F'' H' a c) : JAt K W R' r F H σ m t (.ok c) m2 := fun Q q =>
  h Q fun a r' F' H' h1 h2 h3 => let ⟨r'', F'', q1, q2, q3⟩ := k a r' F' H' h1 h2 h3; q a r'' F'' H' q1 q2 q3
end
/-- taken as data; as a cell; plain -/
def dat (e : MF) : ME := fun δ m => (e δ m).bind fun ft m => ret ft.dat m
def cel (e : MF) : ME := fun δ m => (e δ m).bind fun ft m => ret (ft.cel m).1 (ft.cel m).2
def pla (e : MF) : ME := fun δ m => (e δ m).bind fun ft m => match ft with
  | .pl d => ret d m
  | _ => none
section
variable {K : PySem.W.Frag} {W : WX} {t : TE} {e : MF} {tas : TA} {as : MA}
theorem so_dat (h : So K W (RF K) t e) : So K W (RE K) t (dat e) := fun δ m res m' q r F H σ hr er => by
  rcases bind_some q with ⟨ft, m1, e1, e2⟩ | ⟨y, e1, rfl⟩
  · cases e2
    exact (h δ m _ _ e1 r F H σ hr er).re fun a r' F' H' h1 h2 h3 => let ⟨F'', q1, q2, q3⟩ := rf_dat h1 h2 h3; ⟨r', F'', q1, q2, q3⟩
  · exact h δ m _ _ e1 r F H σ hr er
theorem so_cel (h : So K W (RF K) t e) : So K W (RE K) t (cel e) := fun δ m res m' q r F H σ hr er => by
  rcases bind_some q with ⟨ft, m1, e1, e2⟩ | ⟨y, e1, rfl⟩
  · cases e2
    exact (h δ m _ _ e1 r F H σ hr er).re fun a r' F' H' h1 h2 h3 => let ⟨r'', q1, q2, q3⟩ := rf_cel h1 h2 h3; ⟨r'', F', q1, q2, q3⟩
  · exact h δ m _ _ e1 r F H σ hr er
theorem so_pla (h : So K W (RF K) t e) : So K W (RE K) t (pla e) := fun δ m res m' q r F H σ hr er => by
  rcases bind_some q with ⟨ft, m1, e1, e2⟩ | ⟨y, e1, rfl⟩
  · cases ft with
    | pl d =>
      cases e2
      exact (h δ m _ _ e1 r F H σ hr er).re fun a r' F' H' h1 h2 ⟨as, h3, _⟩ => ⟨r', F', h1, h2, h3.1⟩
    | own xs => cases e2
    | tup fs => cases e2
  · exact h δ m _ _ e1 r F H σ hr er
/-- one new list -/
theorem rf_new {r : List Addr} {F H : Hp} {m : Store} {p : Addr} {vs : List V} {xs : List D} (hr : HR K r F H m) (hp : H p = none) (ra : RepAll K r F vs xs) : HR K r F (upd H p (.lst vs)) m ∧ Ext r F H m r F (upd H p (.lst vs)) m ∧ RF K H m r F (upd H p (.lst vs)) (.ref p) (.own xs) :=
  ⟨hr.side hp, Ext.side hr hp, [p], .own upd_same ra .nil, by simp, fun q hq => by
    cases List.mem_singleton.mp hq
    exact ⟨hp, hr.sub.free hp, fun k l e => (hr.ne_new hp l e) rfl⟩⟩
def fLst (as : MA) : MF := fun δ m => (as δ m).bind fun xs m => if xs.length ≤ 100000 then ret (.own xs) m else none
theorem so_lst (hs : So K W (RA K) tas as) : So K W (RF K) (tLst tas) (fLst as) :=
  So.bind rf_mon hs (k := fun xs δ m => if xs.length ≤ 100000 then ret (FT.own xs) m else none) (u := fun xs σ H Q => xs.length ≤ sizeLine ∧ ∀ p, H p = none → Q (.ref p) (upd H p (.lst xs))) fun x δ m res m' e v r F H σ _ hr er rv => by
    split at e
    · rename_i hl
      cases e
      exact fun Q q => ⟨Evl.sz_of (by rw [rv.len]; exact hl), fun p hp => let ⟨q1, q2, q3⟩ := rf_new hr hp rv; q _ r F _ q1 q2 q3⟩
    · cases e
end

/-! ### statements -/
inductive OT where
  | nx (δ : En) (m : Store)
  | rt (d : D) (m : Store)
  | bk (δ : En) (m : Store)
  | ct (δ : En) (m : Store)
  | ex (x : Str) (δ : En) (m : Store)
def OT.out (K : PySem.W.Frag) : OT → Out
  | .nx δ m => .nx δ m
  | .rt d m => .rt d m
  | .bk δ m => .bk δ m
  | .ct δ m => .ct δ m
  | .ex x δ m => .ex (.ref (ga K x)) δ m
abbrev MS := En → Store → Option OT
def SS (K : PySem.W.Frag) (t : WX → TS) (e : MS) : Prop := ∀ W δ m o, e δ m = some o → YS K W (t W) δ m (o.out K)
def MX.run {α : Type} (x : MX α) (δ : En) (k : α → Store → Option OT) : Option OT :=
  match x with
  | some (.ok a, m) => k a m
  | some (.ex y, m) => some (.ex y δ m)
  | none => none
section
variable {α β : Type} {a : α} {δ : En} {m : Store} {y : Str} {k : α → Store → Option OT}
theorem run_ok : MX.run (some (.ok a, m)) δ k = k a m := rfl
theorem run_ex : MX.run (some (.ex y, m)) δ k = some (.ex y δ m) := rfl
theorem run_none : MX.run none δ k = none := rfl
theorem run_some {x : MX α} {o : OT} (h : x.run δ k = some o) : (∃ a m1, x = some (.ok a, m1) ∧ k a m1 = some o) ∨ ∃ y m1, x = some (.ex y, m1) ∧ o = .ex y δ m1 := by
  cases x with
  | none => cases h
  | some p =>
    obtain ⟨r, m1⟩ := p
    cases r with
    | ok a => exact .inl ⟨a, m1, rfl, h⟩
    | ex y => cases h; exact .inr ⟨y, m1, rfl, rfl⟩
end
theorem SS.run {α β : Type} {K : PySem.W.Frag} {R : Rel α β} {te : WX → L2.St → Hp → (α → Hp → Prop) → Prop} {e : En → Store → MX β} {u : WX → α → TS} {k : β → En → Store → Option OT} (he : ∀ W, So K W R (te W) e)
    (hk : ∀ W b δ m o, k b δ m = some o → ∀ v r F H σ H0 D, HR K r F H m → ER K r F σ δ → R H0 m r F H v b → OutOk K W r F H m D (o.out K) → u W v D σ H) :
    SS K (fun W D σ H => te W σ H fun v H1 => u W v D σ H1) (fun δ m => (e δ m).run δ fun b m => k b δ m) := fun W δ m o q r F H σ D hr er h => by
  rcases run_some q with ⟨b, m1, e1, e2⟩ | ⟨y, m1, e1, rfl⟩
  · exact he W δ m _ _ e1 r F H σ hr er _ fun v r1 F1 H1 hr1 x1 rv => hk W b δ m1 o e2 v r1 F1 H1 σ H D hr1 (er.ext x1) rv (h.ext hr.len hr1.len x1)
  · exact he W δ m _ _ e1 r F H σ hr er (fun r' F' H' hr' x' => h σ r' F' H' hr' (er.ext x') x') _
abbrev MG := D → En → Option En
def SG (K : PySem.W.Frag) (g : TG) (mg : MG) : Prop := ∀ d δ δ', mg d δ = some δ' → YG K g d δ δ'
def SGw (K : PySem.W.Frag) (vs : List Nat) (g : TG) (mg : MG) : Prop := ∀ d δ δ', mg d δ = some δ' → YGw K vs g d δ δ'
abbrev MGs := List D → En → Option En
def SGs (K : PySem.W.Frag) (g : TGs) (mg : MGs) : Prop := ∀ d δ δ', mg d δ = some δ' → YGs K g d δ δ'
def SGws (K : PySem.W.Frag) (vs : List Nat) (g : TGs) (mg : MGs) : Prop := ∀ d δ δ', mg d δ = some δ' → YGws K vs g d δ δ'
def mName (i : Nat) : MG := fun d δ => some (δ.set i (some d))
def msNil : MGs := fun ds δ => match ds with
  | [] => some δ
  | _ => none
def msCons (g : MG) (gs : MGs) : MGs := fun ds δ => match ds with
  | d :: ds => (g d δ).bind fun δ => gs ds δ
  | _ => none
def mTup (gs : MGs) : MG := fun d δ => match d with
  | .tup ds => gs ds δ
  | _ => none
section
variable {K : PySem.W.Frag} {g : TG} {gs : TGs} {mg : MG} {mgs : MGs} {vs : List Nat}
theorem sg_name {i : Nat} : SG K (gName i) (mName i) := fun d δ δ' e => by cases e; exact yg_name
theorem sgs_nil : SGs K gNil msNil := fun d δ δ' e => by
  cases d with
  | nil => cases e; exact ygs_nil
  | cons _ _ => cases e
theorem sgs_cons (h : SG K g mg) (hs : SGs K gs mgs) : SGs K (gCons g gs) (msCons mg mgs) := fun d δ δ' e => by
  cases d with
  | nil => cases e
  | cons d ds =>
    cases q : mg d δ with
    | none => simp [msCons, q] at e
    | some δ1 => simp [msCons, q] at e; exact ygs_cons (h d δ δ1 q) (hs ds δ1 δ' e)
/-- so many targets -/
inductive Many : MGs → Nat → Prop
  | nil : Many msNil 0
  | cons {g : MG} {gs : MGs} {n : Nat} : Many gs n → Many (msCons g gs) (n + 1)
theorem Many.len {gs : MGs} {n : Nat} (h : Many gs n) : ∀ {ds : List D} {δ δ' : En}, gs ds δ = some δ' → ds.length = n := by
  induction h with
  | nil =>
    intro ds δ δ' e
    cases ds with
    | nil => rfl
    | cons _ _ => cases e
  | cons _ ih =>
    intro ds δ δ' e
    cases ds with
    | nil => cases e
    | cons d ds =>
      rename_i g gs' n' _
      cases q : g d δ with
      | none => simp [msCons, q] at e
      | some δ1 =>
        simp [msCons, q] at e
        show ds.length + 1 = n' + 1
        rw [ih e]
theorem sg_tup {n : Nat} (hm : Many mgs n) (hs : SGs K gs mgs) : SG K (gTup K n gs) (mTup mgs) := fun d δ δ' e => by
  cases d with
  | tup ds => exact yg_tup (hm.len e) (hs ds δ δ' e)
  | _ => cases e
theorem sgw_name {i : Nat} (h : i ∈ vs) : SGw K vs (gName i) (mName i) := fun d δ δ' e => by cases e; exact ygw_name h
theorem sgws_nil : SGws K vs gNil msNil := fun d δ δ' e => by
  cases d with
  | nil => cases e; exact ygws_nil
  | cons _ _ => cases e
theorem sgws_cons (h : SGw K vs g mg) (hs : SGws K vs gs mgs) : SGws K vs (gCons g gs) (msCons mg mgs) := fun d δ δ' e => by
  cases d with
  | nil => cases e
  | cons d ds =>
    cases q : mg d δ with
    | none => simp [msCons, q] at e
    | some δ1 => simp [msCons, q] at e; exact ygws_cons (h d δ δ1 q) (hs ds δ1 δ' e)
theorem sgw_tup {n : Nat} (hm : Many mgs n) (hs : SGws K vs gs mgs) : SGw K vs (gTup K n gs) (mTup mgs) := fun d δ δ' e => by
  cases d with
  | tup ds => exact ygw_tup (hm.len e) (hs ds δ δ' e)
  | _ => cases e
end
def sNext : MS := fun δ m => some (.nx δ m)
def sBreak : MS := fun δ m => some (.bk δ m)
def sCont : MS := fun δ m => some (.ct δ m)
def sRetN : MS := fun _ m => some (.rt .non m)
def sSeq (a b : MS) : MS := fun δ m => match a δ m with
  | some (.nx δ m) => b δ m
  | o => o
def sAsg (e : ME) (g : MG) : MS := fun δ m => (e δ m).run δ fun d m => (g d δ).map fun δ => .nx δ m
def sSet (i : Nat) (e : ME) : MS := fun δ m => (e δ m).run δ fun d m => some (.nx (δ.set i (some d)) m)
def sExpr (e : ME) : MS := fun δ m => (e δ m).run δ fun _ m => some (.nx δ m)
def sRet (e : ME) : MS := fun δ m => (e δ m).run δ fun d m => some (.rt d m)
def sIf (t : MT) (a b : MS) : MS := fun δ m => (t δ m).run δ fun c m => cond c (a δ m) (b δ m)
def sRaise (x : Str) : MS := fun δ m => some (.ex x δ m)
section
variable {K : PySem.W.Frag} {te : WX → TE} {tt : WX → TT} {ts tu : WX → TS} {e : ME} {t : MT} {a b : MS} {g : TG} {mg : MG}
theorem ss_next : SS K (fun _ => tNext) sNext := fun W δ m o q => by cases q; exact ys_next
theorem ss_break : SS K (fun _ => tBreak) sBreak := fun W δ m o q => by cases q; exact ys_break
theorem ss_cont : SS K (fun _ => tCont) sCont := fun W δ m o q => by cases q; exact ys_cont
theorem ss_retN : SS K (fun _ => tRetN) sRetN := fun W δ m o q => by cases q; exact ys_retN
theorem ss_seq (ha : SS K ts a) (hb : SS K tu b) : SS K (fun W => tSeq (ts W) (tu W)) (sSeq a b) := fun W δ m o q => by
  unfold sSeq at q
  cases h : a δ m with
  | none => rw [h] at q; cases q
  | some o1 =>
    rw [h] at q
    cases o1 with
    | nx δ1 m1 => exact ys_seq (ha W δ m _ h) (hb W δ1 m1 o q)
    | rt d m1 => cases q; exact ys_seqX (ha W δ m _ h) rfl
    | bk d m1 => cases q; exact ys_seqX (ha W δ m _ h) rfl
    | ct d m1 => cases q; exact ys_seqX (ha W δ m _ h) rfl
    | ex x d m1 => cases q; exact ys_seqX (ha W δ m _ h) rfl
theorem ss_asg (he : ∀ W, So K W (RE K) (te W) e) (hg : SG K g mg) : SS K (fun W => tAsg (te W) g) (sAsg e mg) :=
  SS.run he (u := fun W v D σ H => g v σ H D.nx) (k := fun d δ m => (mg d δ).map fun δ => OT.nx δ m) fun W d δ m o q v r F H σ H0 D hr er rv h => by
    cases z : mg d δ with
    | none => rw [z] at q; cases q
    | some δ1 =>
      rw [z] at q; cases q
      exact hg d δ δ1 z r F H m σ v hr er rv _ fun σ1 er1 => h σ1 r F H hr er1 (Ext.refl hr)
theorem ss_set {i : Nat} (he : ∀ W, So K W (RE K) (te W) e) : SS K (fun W => tAsg (te W) (gName i)) (sSet i e) := ss_asg he sg_name
theorem ss_expr (he : ∀ W, So K W (RE K) (te W) e) : SS K (fun W => tDrop (te W)) (sExpr e) :=
  SS.run he (u := fun W v D σ H => D.nx σ H) (k := fun d δ m => some (OT.nx δ m)) fun W d δ m o q v r F H σ H0 D hr er rv h => by
    cases q; exact h σ r F H hr er (Ext.refl hr)
theorem ss_ret (he : ∀ W, So K W (RE K) (te W) e) : SS K (fun W => tRet (te W)) (sRet e) :=
  SS.run he (u := fun W v D σ H => D.rt v H) (k := fun d δ m => some (OT.rt d m)) fun W d δ m o q v r F H σ H0 D hr er rv h => by
    cases q; exact h v r F H hr (Ext.refl hr) rv
theorem ss_if (ht : ∀ W, So K W RB (tt W) t) (ha : SS K ts a) (hb : SS K tu b) : SS K (fun W => tIfS (tt W) (ts W) (tu W)) (sIf t a b) :=
  SS.run ht (u := fun W (c : Bool) D σ H => if c = true then ts W D σ H else tu W D σ H) (k := fun (c : Bool) δ m => cond c (a δ m) (b δ m)) fun W c δ m o q v r F H σ H0 D hr er rv h => by
    cases rv
    cases c with
    | true => exact ha W δ m o q r F H σ D hr er h
    | false => exact hb W δ m o q r F H σ D hr er h
theorem ss_raise {x : Str} : SS K (fun W => tRaise W (.ref (ga K x))) (sRaise x) := fun W δ m o q => by cases q; exact ys_raise
/-- a statement that is never come to -/
def sNever : MS := fun _ _ => none
theorem ss_never : SS K (fun _ => tNever) sNever := fun W δ m o q => by cases q
end
end DL
namespace DL
open PySem PySem.Spec PyProof.Rows L2

/-! ### loops -/
structure Wk where
  xs : List D
  src : List (Nat × List D)
def Wk.chk (w : Wk) (m : Store) : Prop := ∀ p ∈ w.src, m[p.1]? = some (.lst p.2)
abbrev MI := En → Store → MX Wk
def RI (K : PySem.W.Frag) : Rel It Wk := fun _ _ r F _ J w => ItOk K w.chk J r F w.xs
theorem ri_mon {K : PySem.W.Frag} : RMon (RI K) := fun _ _ _ _ _ _ _ _ _ h => h
open Classical in
noncomputable def forM (g : MG) (b : MS) (c : Store → Prop) : List D → En → Store → Option OT
  | [], δ, m => if c m then some (.nx δ m) else none
  | x :: xs, δ, m => if c m then (g x δ).bind fun δ => match b δ m with
      | some (.nx δ m) => forM g b c xs δ m
      | some (.ct δ m) => forM g b c xs δ m
      | some (.bk δ m) => some (.nx δ m)
      | o => o
    else none
noncomputable def sFor (w : MI) (g : MG) (b : MS) : MS := fun δ m => (w δ m).run δ fun w m => forM g b w.chk w.xs δ m
theorem ss_for {K : PySem.W.Frag} {wi : WX → TI} {g : TG} {t : WX → TS} {w : MI} {mg : MG} {b : MS} (hw : ∀ W, So K W (RI K) (wi W) w) (hg : SG K g mg) (hb : SS K t b) : SS K (fun W => tFor (wi W) g (t W)) (sFor w mg b) :=
  SS.run hw (u := fun W (J : It) D σ H1 => ∃ W' : Nat → Nat → L2.St → Hp → Prop, (∃ m, W' 0 m σ H1) ∧ ∀ i m σ H, W' i m σ H →
    (J.stop i H ∧ D.nx σ H) ∨ (J.go i H ∧ ∃ N : L2.St → Hp → Prop, (∀ σ' H', N σ' H' → ∃ m', m' < m ∧ W' (i + 1) m' σ' H') ∧ ∀ x H', J.yld i H x H' → g x σ H' fun σ2 H2 => t W { D with nx := N, ct := N, bk := D.nx } σ2 H2))
    (k := fun (w : Wk) δ m => forM mg b w.chk w.xs δ m) fun W wk δ m o e J r F H σ H0 D hr er ok q => by
    refine ⟨fun i mm σ' H' => mm = wk.xs.length - i ∧ i ≤ wk.xs.length ∧ ∃ δ' m' r' F', HR K r' F' H' m' ∧ ER K r' F' σ' δ' ∧ Ext r F H m r' F' H' m' ∧ forM mg b wk.chk (wk.xs.drop i) δ' m' = some o,
      ⟨wk.xs.length, by simp, Nat.zero_le _, δ, m, r, F, hr, er, Ext.refl hr, e⟩, ?_⟩
    rintro i mm σ' H' ⟨rfl, hin, δ', m', r', F', hr', er', x', e'⟩
    by_cases hlt : i < wk.xs.length
    · have ed : wk.xs[i]? = some wk.xs[i] := List.getElem?_eq_getElem hlt
      rw [List.drop_eq_getElem_cons hlt] at e'
      unfold forM at e'
      split at e'
      · rename_i hc
        obtain ⟨go, stop⟩ := ok r' F' H' m' x'.pre x'.sub hr' hc i
        obtain ⟨hgo, hy⟩ := go _ ed
        cases hg1 : mg wk.xs[i] δ' with
        | none => rw [hg1] at e'; cases e'
        | some δ1 =>
          rw [hg1] at e'
          simp only [Option.bind_some] at e'
          refine .inr ⟨hgo, fun σ2 H2 => ∃ δ2 m2 r2 F2, HR K r2 F2 H2 m2 ∧ ER K r2 F2 σ2 δ2 ∧ Ext r F H m r2 F2 H2 m2 ∧ forM mg b wk.chk (wk.xs.drop (i + 1)) δ2 m2 = some o, fun σ2 H2 p2 => ⟨wk.xs.length - (i + 1), by omega, rfl, hlt, p2⟩, fun x H'' y => ?_⟩
          obtain ⟨F2, hr2, x2, p2⟩ := hy x H'' y
          refine hg _ _ _ hg1 r' F2 H'' m' σ' x hr2 (er'.ext x2) p2 _ fun σ3 er3 => ?_
          have x02 := x'.trans hr'.len hr.len x2
          cases hb1 : b δ1 m' with
          | none => rw [hb1] at e'; cases e'
          | some o1 =>
            rw [hb1] at e'
            refine hb W δ1 m' o1 hb1 r' F2 H'' σ3 _ hr2 er3 ?_
            cases o1 with
            | nx δ4 m4 => exact fun σ4 r4 F4 H4 hr4 er4 x4 => ⟨δ4, m4, r4, F4, hr4, er4, x02.trans hr2.len hr.len x4, e'⟩
            | ct δ4 m4 => exact fun σ4 r4 F4 H4 hr4 er4 x4 => ⟨δ4, m4, r4, F4, hr4, er4, x02.trans hr2.len hr.len x4, e'⟩
            | bk δ4 m4 => cases e'; exact fun σ4 r4 F4 H4 hr4 er4 x4 => q σ4 r4 F4 H4 hr4 er4 (x02.trans hr2.len hr.len x4)
            | rt d m4 => cases e'; exact fun v r4 F4 H4 hr4 x4 p4 => q v r4 F4 H4 hr4 (x02.trans hr2.len hr.len x4) p4
            | ex y δ4 m4 => cases e'; exact fun σ4 r4 F4 H4 hr4 er4 x4 => q σ4 r4 F4 H4 hr4 er4 (x02.trans hr2.len hr.len x4)
      · cases e'
    · have hi' : i = wk.xs.length := by omega
      subst hi'
      rw [List.drop_length] at e'
      unfold forM at e'
      split at e'
      · rename_i hc
        cases e'
        obtain ⟨go, stop⟩ := ok r' F' H' m' x'.pre x'.sub hr' hc wk.xs.length
        exact .inl ⟨stop (Nat.le_refl _), q σ' r' F' H' hr' er' x'⟩
      · cases e'
def whileN (t : MT) (b : MS) : Nat → En → Store → Option OT
  | 0, _, _ => none
  | n + 1, δ, m => (t δ m).run δ fun c m => cond c (match b δ m with
      | some (.nx δ m) => whileN t b n δ m
      | some (.ct δ m) => whileN t b n δ m
      | some (.bk δ m) => some (.nx δ m)
      | o => o) (some (.nx δ m))
open Classical in
noncomputable def sWhile (t : MT) (b : MS) : MS := fun δ m => if h : ∃ n o, whileN t b n δ m = some o then whileN t b (Classical.choose h) δ m else none
theorem whileN_mono {t : MT} {b : MS} : ∀ {n k : Nat} {δ : En} {m : Store} {o : OT}, whileN t b n δ m = some o → n ≤ k → whileN t b k δ m = some o
  | 0, _, _, _, _, h, _ => by cases h
  | n + 1, 0, _, _, _, _, hk => by omega
  | n + 1, k + 1, δ, m, o, h, hk => by
    unfold whileN at h ⊢
    rcases run_some h with ⟨c, m1, e1, e2⟩ | ⟨y, m1, e1, rfl⟩
    · rw [e1, run_ok]
      cases c with
      | false => exact e2
      | true =>
        dsimp only [cond] at e2 ⊢
        cases hb : b δ m1 with
        | none => rw [hb] at e2; cases e2
        | some o1 =>
          rw [hb] at e2
          cases o1 with
          | nx δ4 m4 => exact whileN_mono e2 (by omega)
          | ct δ4 m4 => exact whileN_mono e2 (by omega)
          | bk δ4 m4 => exact e2
          | rt d m4 => exact e2
          | ex y δ4 m4 => exact e2
    · rw [e1, run_ex]
theorem sWhile_eq {t : MT} {b : MS} {n : Nat} {δ : En} {m : Store} {o : OT} (h : whileN t b n δ m = some o) : sWhile t b δ m = some o := by
  have ex : ∃ n o, whileN t b n δ m = some o := ⟨n, o, h⟩
  unfold sWhile
  rw [dif_pos ex]
  obtain ⟨o', h'⟩ := Classical.choose_spec ex
  rw [h']
  rcases Nat.le_total n (Classical.choose ex) with z | z
  · have := whileN_mono h z
    rw [h'] at this; exact this
  · have := whileN_mono h' z
    rw [h] at this; exact this.symm
theorem ss_while {K : PySem.W.Frag} {tt : WX → TT} {ts : WX → TS} {t : MT} {b : MS} (ht : ∀ W, So K W RB (tt W) t) (hb : SS K ts b) : SS K (fun W => tWhile (tt W) (ts W)) (sWhile t b) := fun W δ m o e r F H σ D hr er q => by
  unfold sWhile at e
  split at e
  · rename_i hex
    refine ⟨fun n σ' H' => ∃ δ' m' r' F', HR K r' F' H' m' ∧ ER K r' F' σ' δ' ∧ Ext r F H m r' F' H' m' ∧ whileN t b n δ' m' = some o, ⟨_, δ, m, r, F, hr, er, Ext.refl hr, e⟩, ?_⟩
    rintro n σ' H' ⟨δ', m', r', F', hr', er', x', e'⟩
    cases n with
    | zero => cases e'
    | succ n =>
      unfold whileN at e'
      rcases run_some e' with ⟨c, m1, e1, e2⟩ | ⟨y, m1, e1, rfl⟩
      · refine ht W δ' m' _ _ e1 r' F' H' σ' hr' er' _ fun c' r1 F1 H1 hr1 x1 rc => ?_
        cases rc
        have x01 := x'.trans hr'.len hr.len x1
        cases c with
        | false =>
          cases e2
          rw [if_neg Bool.false_ne_true]
          exact q σ' r1 F1 H1 hr1 (er'.ext x1) x01
        | true =>
          rw [if_pos rfl]
          dsimp only [cond] at e2
          refine ⟨fun σ2 H2 => ∃ δ2 m2 r2 F2, HR K r2 F2 H2 m2 ∧ ER K r2 F2 σ2 δ2 ∧ Ext r F H m r2 F2 H2 m2 ∧ whileN t b n δ2 m2 = some o, fun σ2 H2 p2 => ⟨n, by omega, p2⟩, ?_⟩
          cases hb1 : b δ' m1 with
          | none => rw [hb1] at e2; cases e2
          | some o1 =>
            rw [hb1] at e2
            refine hb W δ' m1 o1 hb1 r1 F1 H1 σ' _ hr1 (er'.ext x1) ?_
            cases o1 with
            | nx δ4 m4 => exact fun σ4 r4 F4 H4 hr4 er4 x4 => ⟨δ4, m4, r4, F4, hr4, er4, x01.trans hr1.len hr.len x4, e2⟩
            | ct δ4 m4 => exact fun σ4 r4 F4 H4 hr4 er4 x4 => ⟨δ4, m4, r4, F4, hr4, er4, x01.trans hr1.len hr.len x4, e2⟩
            | bk δ4 m4 => cases e2; exact fun σ4 r4 F4 H4 hr4 er4 x4 => q σ4 r4 F4 H4 hr4 er4 (x01.trans hr1.len hr.len x4)
            | rt d m4 => cases e2; exact fun v r4 F4 H4 hr4 x4 p4 => q v r4 F4 H4 hr4 (x01.trans hr1.len hr.len x4) p4
            | ex y δ4 m4 => cases e2; exact fun σ4 r4 F4 H4 hr4 er4 x4 => q σ4 r4 F4 H4 hr4 er4 (x01.trans hr1.len hr.len x4)
      · exact ht W δ' m' _ _ e1 r' F' H' σ' hr' er' (fun r1 F1 H1 hr1 x1 => q σ' r1 F1 H1 hr1 (er'.ext x1) (x'.trans hr'.len hr.len x1)) _
  · cases e

/-! ### comprehensions -/
def MX.sure {α β : Type} (x : MX α) (k : α → Store → MX β) : MX β :=
  match x with
  | some (.ok a, m) => k a m
  | _ => none
section
variable {α β : Type} {a : α} {m : Store} {x : Str} {k : α → Store → MX β}
theorem sure_ok : MX.sure (some (.ok a, m)) k = k a m := rfl
theorem sure_ex : MX.sure (some (.ex x, m)) k = none := rfl
theorem sure_none : MX.sure none k = none := rfl
theorem sure_some {x : MX α} {z : RX β × Store} (h : x.sure k = some z) : ∃ a m1, x = some (.ok a, m1) ∧ k a m1 = some z := by
  cases x with
  | none => cases h
  | some p =>
    obtain ⟨r, m1⟩ := p
    cases r with
    | ok a => exact ⟨a, m1, rfl, h⟩
    | ex y => cases h
end
open Classical in
noncomputable def lcM (g : MG) (t : MT) (e : ME) (c : Store → Prop) (δ : En) : List D → Store → MX (List D)
  | [], m => if c m then ret [] m else none
  | x :: xs, m => if c m then (g x δ).bind fun δ1 => (t δ1 m).sure fun b m => cond b ((e δ1 m).sure fun z m => (lcM g t e c δ xs m).sure fun zs m => ret (z :: zs) m) (lcM g t e c δ xs m)
    else none
noncomputable def fLc (w : MI) (g : MG) (t : MT) (e : ME) (vs : List Nat) : MF := fun δ m => (w δ m).bind fun w m => if w.xs.length < 100000 then (lcM g t e w.chk (wipeE δ vs) w.xs m).sure fun zs m => ret (.own zs) m else none
theorem so_lc {K : PySem.W.Frag} {W : WX} {wi : TI} {g : TG} {tt : TT} {te : TE} {vs : List Nat} {w : MI} {mg : MG} {t : MT} {e : ME} (hw : So K W (RI K) wi w) (hg : SGw K vs g mg) (ht : So K W RB tt t) (he : So K W (RE K) te e) : So K W (RF K) (tLc wi g tt te vs) (fLc w mg t e vs) := fun δ m res mf q r F H σ hr er => by
  rcases bind_some q with ⟨wk, m1, e1, e2⟩ | ⟨y, e1, rfl⟩
  · split at e2
    · rename_i hlen
      obtain ⟨zs, m2, e3, e4⟩ := sure_some e2
      cases e4
      intro Q q
      refine hw δ m _ _ e1 r F H σ hr er _ fun J r1 F1 H1 hr1 x1 ok Dl hD => ?_
      have hD0 : H Dl = none := trk_back x1 hD
      refine ⟨fun i mm H' => mm = wk.xs.length - i ∧ i ≤ wk.xs.length ∧ ∃ m' r' F' ws acc rest, HR K r' F' H' m' ∧ Ext r F H m r' F' H' m' ∧ Pre r1 r' ∧ Same F1 F' ∧ H' Dl = some (.lst ws) ∧ RepAll K r' F' ws acc ∧ F' Dl = none ∧ (∀ (k : Nat), live m' k → r'[k]? ≠ some Dl) ∧ acc.length ≤ i ∧ lcM mg t e wk.chk (wipeE δ vs) (wk.xs.drop i) m' = some (.ok rest, mf) ∧ acc ++ rest = zs,
        ⟨wk.xs.length, by simp, Nat.zero_le _, m1, r1, F1, [], [], zs, hr1.side hD, x1.trans hr1.len hr.len (Ext.side hr1 hD), Pre.refl _, Same.refl _, upd_same, .nil, hr1.sub.free hD, fun k l e => (hr1.ne_new hD l e) rfl, Nat.zero_le _, e3, rfl⟩, ?_⟩
      rintro i mm H' ⟨rfl, hin, m', r', F', ws, acc, rest, hr', x', pr', sm', hw', ra, fD, nD, hacc, ev, hz⟩
      by_cases hlt : i < wk.xs.length
      · have ed : wk.xs[i]? = some wk.xs[i] := List.getElem?_eq_getElem hlt
        rw [List.drop_eq_getElem_cons hlt] at ev
        unfold lcM at ev
        split at ev
        · rename_i hc
          obtain ⟨go, stop⟩ := ok r' F' H' m' pr' sm' hr' hc i
          obtain ⟨hgo, hy⟩ := go _ ed
          cases hg1 : mg wk.xs[i] (wipeE δ vs) with
          | none => rw [hg1] at ev; cases ev
          | some δ1 =>
            rw [hg1] at ev
            simp only [Option.bind_some] at ev
            obtain ⟨b, m3, et, ev2⟩ := sure_some ev
            refine .inr ⟨hgo, fun H2 => ∃ m' r' F' ws acc rest, HR K r' F' H2 m' ∧ Ext r F H m r' F' H2 m' ∧ Pre r1 r' ∧ Same F1 F' ∧ H2 Dl = some (.lst ws) ∧ RepAll K r' F' ws acc ∧ F' Dl = none ∧ (∀ (k : Nat), live m' k → r'[k]? ≠ some Dl) ∧ acc.length ≤ i + 1 ∧ lcM mg t e wk.chk (wipeE δ vs) (wk.xs.drop (i + 1)) m' = some (.ok rest, mf) ∧ acc ++ rest = zs,
              fun H2 p2 => ⟨wk.xs.length - (i + 1), by omega, rfl, hlt, p2⟩, fun x H'' y => ?_⟩
            obtain ⟨F2, hr2, x2, p2⟩ := hy x H'' y
            have er2 : ER K r' F2 (wipe σ vs) (wipeE δ vs) := ((er.ext x').ext x2).wipe vs
            refine hg _ _ _ hg1 r' F2 H'' m' (wipe σ vs) x hr2 er2 p2 _ fun σ3 er3 w3 => ⟨w3.trans wipe_wipe, ?_⟩
            refine ht δ1 m' _ _ et r' F2 H'' σ3 hr2 er3 _ fun b' r4 F4 H4 hr4 x4 rb => ?_
            cases rb
            have x24 := x2.trans hr2.len hr'.len x4
            obtain ⟨hw4, fD4, nD4⟩ := x24.side_keep hr'.len hw' fD nD
            have x04 := x'.trans hr'.len hr.len x24
            cases b with
            | true =>
              rw [if_pos rfl]
              dsimp only [cond] at ev2
              obtain ⟨z, m5, ee, ev3⟩ := sure_some ev2
              obtain ⟨zs', m6, ez, ev4⟩ := sure_some ev3
              cases ev4
              refine he δ1 m3 _ _ ee r4 F4 H4 σ3 hr4 (er3.ext x4) _ fun v r5 F5 H5 hr5 x5 p5 => ?_
              obtain ⟨hw5, fD5, nD5⟩ := x5.side_keep hr4.len hw4 fD4 nD4
              have ra5 := (ra.mono x24.pre x24.sub).mono x5.pre x5.sub
              refine ⟨ws, hw5, Evl.sz_lt (by rw [ra.len]; omega), m5, r5, F5, ws ++ [v], acc ++ [z], zs', hr5.sideSet fD5 nD5 (fun b z => by rw [hw5] at z; cases z), (x04.trans hr4.len hr.len x5).sideSet hD0, (pr'.trans x24.pre).trans x5.pre, (sm'.trans x24.sub).trans x5.sub, upd_same, ra5.app (.one p5), fD5, nD5, ?_, ez, ?_⟩
              · rw [List.length_append]; show acc.length + 1 ≤ i + 1; omega
              · rw [List.append_assoc]; exact hz
            | false =>
              rw [if_neg Bool.false_ne_true]
              exact ⟨m3, r4, F4, ws, acc, rest, hr4, x04, pr'.trans x24.pre, sm'.trans x24.sub, hw4, ra.mono x24.pre x24.sub, fD4, nD4, by omega, ev2, hz⟩
        · cases ev
      · have hi' : i = wk.xs.length := by omega
        subst hi'
        rw [List.drop_length] at ev
        unfold lcM at ev
        split at ev
        · rename_i hc
          cases ev
          rw [List.append_nil] at hz
          subst hz
          obtain ⟨go, stop⟩ := ok r' F' H' mf pr' sm' hr' hc wk.xs.length
          refine .inl ⟨stop (Nat.le_refl _), q (.ref Dl) r' F' H' hr' x' ⟨[Dl], .own hw' ra .nil, by simp, fun p hp => ?_⟩⟩
          cases List.mem_singleton.mp hp
          exact ⟨hD0, fD, nD⟩
        · cases ev
    · cases e2
  · exact fun q Q => hw δ m _ _ e1 r F H σ hr er q _

/-! ### defs and calls -/
abbrev FnS := List D → Store → MX FT
def ResF (K : PySem.W.Frag) (r : List Addr) (F H : Hp) (m : Store) (Q : VK) (E : XK) : RX FT → Store → Prop
  | .ok ft, m' => ∀ v r' F' H', HR K r' F' H' m' → Ext r F H m r' F' H' m' → RF K H m' r' F' H' v ft → Q v H'
  | .ex x, m' => ∀ r' F' H', HR K r' F' H' m' → Ext r F H m r' F' H' m' → E (.ref (ga K x)) none H'
def spF (K : PySem.W.Frag) (f : FnS) : Sp := fun vs H Q E => ∃ r F m ds res m', HR K r F H m ∧ RepAll K r F vs ds ∧ f ds m = some (res, m') ∧ ResF K r F H m Q E res m'
def fCall (f : FnS) (as : MA) : MF := fun δ m => (as δ m).bind fun ds m => f ds m
def fCall0 (f : FnS) (as : MA) : MF := fun δ m => (as δ m).bind fun ds m => (f ds m).sure ret
section
variable {K : PySem.W.Frag} {W : WX} {tas : TA} {as : MA} {f : FnS}
theorem so_call (hs : So K W (RA K) tas as) : So K W (RF K) (tCallS (spF K f) (WE W) tas) (fCall f as) :=
  So.bind rf_mon hs (k := fun ds δ m => f ds m) (u := fun vs σ H Q => spF K f vs H Q (WE W σ)) fun ds δ m res m' e vs r F H σ H0 hr er rv => by
    cases res with
    | ok ft => exact fun Q q => ⟨r, F, m, ds, .ok ft, m', hr, rv, e, fun v r' F' H' h1 h2 h3 => q v r' F' H' h1 h2 h3⟩
    | ex x => exact fun q Q => ⟨r, F, m, ds, .ex x, m', hr, rv, e, fun r' F' H' h1 h2 => q r' F' H' h1 h2⟩
theorem so_call0 (hs : So K W (RA K) tas as) : So K W (RF K) (tCall (spF K f) [] E0 tas) (fCall0 f as) :=
  So.bind rf_mon hs (k := fun ds δ m => (f ds m).sure ret) (u := fun vs σ H Q => spF K f (vs ++ []) H Q E0) fun ds δ m res m' e vs r F H σ H0 hr er rv => by
    obtain ⟨ft, m1, e1, e2⟩ := sure_some e
    cases e2
    intro Q q
    rw [List.append_nil]
    exact ⟨r, F, m, ds, .ok ft, m', hr, rv, e1, fun v r' F' H' h1 h2 h3 => q v r' F' H' h1 h2 h3⟩
end
/-- what a def hands back, seen from outside: its own cells are dropped, what it hands back of them is new -/
def F1.ft : F1 → FT
  | .pl d => .pl d
  | .own xs => .own xs
def resE (n : Nat) (m : Store) (d : D) : Option F1 := match d with
  | .cell k => if k < n then some (.pl (.cell k)) else match m[k]? with
    | some (.lst xs) => if D.unds n xs = true then some (.own xs) else none
    | _ => none
  | d => if d.und n = true then some (.pl d) else none
def resA (n : Nat) (m : Store) : List D → Option (List F1)
  | [] => some []
  | d :: ds => (resE n m d).bind fun f => (resA n m ds).map fun fs => f :: fs
def newK (n : Nat) : List D → List Nat
  | [] => []
  | .cell k :: ds => if k < n then newK n ds else k :: newK n ds
  | _ :: ds => newK n ds
open Classical in
noncomputable def resT (n : Nat) (m : Store) (d : D) : Option FT := match d with
  | .tup ds => if D.unds n ds = true then some (.pl (.tup ds)) else if (newK n ds).Nodup then (resA n m ds).map FT.tup else none
  | d => (resE n m d).map F1.ft
open Classical in
noncomputable def cutS (m0 m' : Store) : Option Store := if m'.length = m0.length then some m' else if Tidy m0 (m'.take m0.length) then some (m'.take m0.length) else none
open Classical in
noncomputable def finF (m0 : Store) (d : D) (m' : Store) : MX FT := if m'.length = m0.length then ret (.pl d) m' else if Tidy m0 (m'.take m0.length) then (resT m0.length m' d).map fun ft => (.ok ft, m'.take m0.length) else none
noncomputable def endF (m0 : Store) : Option OT → MX FT
  | some (.rt d m') => finF m0 d m'
  | some (.nx _ m') => finF m0 .non m'
  | some (.ex x _ m') => (cutS m0 m').map fun m => (.ex x, m)
  | _ => none
noncomputable def fnOf (n N : Nat) (b : MS) : FnS := fun ds m => if ds.length = n then endF m (b (st N ds) m) else none
section
variable {K : PySem.W.Frag} {r r' : List Addr} {F H F' H' : Hp} {m m' m2 : Store}
theorem und_take {n : Nat} {d : D} {v : V} (h : Rep K r F v d) (q : d.und n = true) : Rep K (r.take n) F v d := h.cut q
theorem cut_ok (hr0 : HR K r F H m) (hr : HR K r' F' H' m') (x : Ext r F H m r' F' H' m') (h : cutS m m' = some m2) : ∃ r'', HR K r'' F' H' m2 ∧ Ext r F H m r'' F' H' m2 := by
  unfold cutS at h
  split at h
  · cases h; exact ⟨r', hr, x⟩
  · split at h
    · rename_i ti
      cases h
      have e : m' = m'.take m.length ++ m'.drop m.length := (List.take_append_drop _ _).symm
      have hl : (m'.take m.length).length = m.length := by rw [List.length_take]; have := x.mlen; omega
      rw [e] at hr x
      have q1 := hr0.trunc ti hr
      have q2 := x.trunc hr0.len ti.1
      exact ⟨_, q1, q2⟩
    · cases h
theorem resE_ok (hr0 : HR K r F H m) (hr : HR K r' F' H' m') (x : Ext r F H m r' F' H' m') {v : V} {d : D} {f : F1} (h : resE m.length m' d = some f) (p : Rep K r' F' v d) :
    ∃ as, OwnL K (r'.take m.length) F' H' [v] [f] as ∧ ((∃ d', f = .pl d' ∧ as = []) ∨ ∃ k a, d = .cell k ∧ m.length ≤ k ∧ live m' k ∧ r'[k]? = some a ∧ as = [a] ∧ F' a = none) := by
  have plain : ∀ d : D, (if d.und m.length = true then some (F1.pl d) else none) = some f → Rep K r' F' v d → ∃ as, OwnL K (r'.take m.length) F' H' [v] [f] as ∧ ((∃ d', f = .pl d' ∧ as = []) ∨ ∃ k a, d = .cell k ∧ m.length ≤ k ∧ live m' k ∧ r'[k]? = some a ∧ as = [a] ∧ F' a = none) := by
    intro d h p
    split at h
    · rename_i hu; cases h; exact ⟨[], .pl (p.cut hu) .nil, .inl ⟨d, rfl, rfl⟩⟩
    · cases h
  cases d with
  | cell k =>
    unfold resE at h
    dsimp only at h
    split at h
    · rename_i hk
      cases h
      exact ⟨[], .pl (p.cut (decide_eq_true hk)) .nil, .inl ⟨_, rfl, rfl⟩⟩
    · rename_i hk
      cases p with
      | cell ea =>
        split at h
        · rename_i xs hx
          split at h
          · rename_i hu
            cases h
            obtain ⟨q1, vs, q2, q3⟩ := hr.cell _ _ _ ea hx rfl
            exact ⟨[_], .own q2 (q3.cut hu) .nil, .inr ⟨k, _, rfl, Nat.not_lt.mp hk, ⟨_, hx, rfl⟩, ea, rfl, q1⟩⟩
          · cases h
        · cases h
  | non => exact plain _ h p
  | bl b => exact plain _ h p
  | int b => exact plain _ h p
  | str b => exact plain _ h p
  | lst b => exact plain _ h p
  | tup b => exact plain _ h p
  | scr b => exact plain _ h p
  | exc b => exact plain _ h p
theorem resA_ok (hr0 : HR K r F H m) (hr : HR K r' F' H' m') (x : Ext r F H m r' F' H' m') : ∀ {ds : List D} {vs : List V} {fs : List F1}, resA m.length m' ds = some fs → (newK m.length ds).Nodup → RepAll K r' F' vs ds →
    ∃ as, OwnL K (r'.take m.length) F' H' vs fs as ∧ as.Nodup ∧ ∀ a ∈ as, F' a = none ∧ ∃ k, k ∈ newK m.length ds ∧ m.length ≤ k ∧ live m' k ∧ r'[k]? = some a
  | [], _, _, h, _, .nil => by
    cases h
    exact ⟨[], .nil, .nil, fun a ha => nomatch ha⟩
  | d :: ds, _, fs, h, nd, .cons (v := v) (vs := vs) p ps => by
    unfold resA at h
    cases q : resE m.length m' d with
    | none => rw [q] at h; cases h
    | some f =>
      rw [q] at h
      simp only [Option.bind_some] at h
      cases q2 : resA m.length m' ds with
      | none => rw [q2] at h; cases h
      | some fs' =>
        rw [q2] at h
        cases h
        have sub : ∀ k, k ∈ newK m.length ds → k ∈ newK m.length (d :: ds) := fun k hk => by
          cases d <;> unfold newK <;> first | exact hk | (split <;> first | exact hk | exact List.mem_cons_of_mem _ hk)
        have nd' : (newK m.length ds).Nodup := by
          cases d <;> first | exact nd | (unfold newK at nd; split at nd <;> first | exact nd | exact (List.nodup_cons.mp nd).2)
        obtain ⟨as, h1, h2, h3⟩ := resA_ok hr0 hr x q2 nd' ps
        obtain ⟨as1, g1, g2⟩ := resE_ok hr0 hr x q p
        rcases g2 with ⟨d', rfl, rfl⟩ | ⟨k, a, rfl, hk, lv, ea, rfl, fa⟩
        · cases g1 with
          | pl g _ => exact ⟨as, .pl g h1, h2, fun a ha => let ⟨z1, k, z2, z3⟩ := h3 a ha; ⟨z1, k, sub k z2, z3⟩⟩
        · cases g1 with
          | pl _ g => cases g
          | own g g' _ =>
            have hnk : newK m.length (D.cell k :: ds) = k :: newK m.length ds := by
              show (if k < m.length then newK m.length ds else k :: newK m.length ds) = _
              rw [if_neg (by omega)]
            rw [hnk] at nd
            refine ⟨_ :: as, .own g g' h1, List.nodup_cons.mpr ⟨fun hm => ?_, h2⟩, fun b hb => ?_⟩
            · obtain ⟨_, k2, hk2, _, lv2, ea2⟩ := h3 _ hm
              have := hr.inj k k2 _ ea ea2 lv lv2
              subst this
              exact (List.nodup_cons.mp nd).1 hk2
            · rcases List.mem_cons.mp hb with rfl | hb
              · exact ⟨fa, k, by rw [hnk]; exact List.mem_cons_self, hk, lv, ea⟩
              · obtain ⟨z1, k2, z2, z3⟩ := h3 b hb
                exact ⟨z1, k2, sub k2 z2, z3⟩
theorem fin_ok (hr0 : HR K r F H m) (hr : HR K r' F' H' m') (x : Ext r F H m r' F' H' m') {v : V} {d : D} {res : RX FT} (h : finF m d m' = some (res, m2)) (p : Rep K r' F' v d) : ∃ r'' ft, res = .ok ft ∧ HR K r'' F' H' m2 ∧ Ext r F H m r'' F' H' m2 ∧ RF K H m2 r'' F' H' v ft := by
  unfold finF at h
  split at h
  · cases h
    exact ⟨r', _, rfl, hr, x, [], ⟨p, rfl⟩, .nil, fun a ha => nomatch ha⟩
  · split at h
    · rename_i hne ti
      cases hq : resT m.length m' d with
      | none => rw [hq] at h; cases h
      | some ft =>
        rw [hq] at h
        cases h
        have e : m' = m'.take m.length ++ m'.drop m.length := (List.take_append_drop _ _).symm
        have hl : (m'.take m.length).length = m.length := by rw [List.length_take]; have := x.mlen; omega
        have hrq := hr
        have xq := x
        rw [e] at hr x
        have q1 := hr0.trunc ti hr
        have q2 := x.trunc hr0.len ti.1
        rw [hl] at q1 q2
        have lv' : ∀ j, live (m'.take m.length) j → live m' j ∧ j < m.length := fun j ⟨c, ec, ng⟩ => by
          rw [List.getElem?_take] at ec
          split at ec
          · rename_i hj; exact ⟨⟨c, ec, ng⟩, hj⟩
          · cases ec
        have newOk : ∀ a : Addr, F' a = none → (∃ k : Nat, m.length ≤ k ∧ live m' k ∧ r'[k]? = some a) → H a = none ∧ F' a = none ∧ ∀ j : Nat, live (m'.take m.length) j → (r'.take m.length)[j]? ≠ some a := by
          rintro a fa ⟨k, hk, lv, ea⟩
          refine ⟨xq.fresh k a hk ea, fa, fun j lj ej => ?_⟩
          obtain ⟨l1, l2⟩ := lv' j lj
          rw [List.getElem?_take, if_pos l2] at ej
          have := hrq.inj j k a ej ea l1 lv
          omega
        refine ⟨_, ft, rfl, q1, q2, ?_⟩
        have one : ∀ {d : D} {ft : FT}, (resE m.length m' d).map F1.ft = some ft → Rep K r' F' v d → RF K H (m'.take m.length) (r'.take m.length) F' H' v ft := by
          intro d ft hq p
          cases z : resE m.length m' d with
          | none => rw [z] at hq; cases hq
          | some f =>
            rw [z] at hq
            obtain ⟨as, g1, g2⟩ := resE_ok hr0 hrq xq z p
            rcases g2 with ⟨d', rfl, rfl⟩ | ⟨k, a, rfl, hk, lv, ea, rfl, fa⟩
            · cases hq
              cases g1 with
              | pl g _ => exact ⟨[], ⟨g, rfl⟩, .nil, fun a ha => nomatch ha⟩
            · cases f with
              | pl d' =>
                cases g1 with
                | pl _ g => cases g
              | own xs =>
                cases hq
                exact ⟨[a], g1, by simp, fun b hb => by cases List.mem_singleton.mp hb; exact newOk a fa ⟨k, hk, lv, ea⟩⟩
        cases d with
        | tup ds =>
          unfold resT at hq
          dsimp only at hq
          split at hq
          · rename_i hu
            cases hq
            exact ⟨[], ⟨p.cut hu, rfl⟩, .nil, fun a ha => nomatch ha⟩
          · split at hq
            · rename_i nd
              cases z : resA m.length m' ds with
              | none => rw [z] at hq; cases hq
              | some fs =>
                rw [z] at hq
                cases hq
                cases p with
                | tup hp ps =>
                  obtain ⟨as, g1, g2, g3⟩ := resA_ok hr0 hrq xq z nd ps
                  exact ⟨as, ⟨_, _, rfl, hp, g1⟩, g2, fun a ha => let ⟨z1, k, _, z3⟩ := g3 a ha; newOk a z1 ⟨k, z3⟩⟩
            · cases hq
        | cell k => exact one (d := (.cell k)) hq p
        | non => exact one (d := .non) hq p
        | bl b => exact one (d := (.bl b)) hq p
        | int b => exact one (d := (.int b)) hq p
        | str b => exact one (d := (.str b)) hq p
        | lst b => exact one (d := (.lst b)) hq p
        | scr b => exact one (d := (.scr b)) hq p
        | exc b => exact one (d := (.exc b)) hq p
    · cases h
end
/-- THE RULE for a def -/
theorem fn_okF {CX : CXT} {P : Program} {w : World} {K : PySem.W.Frag} {mg : Str → Option Value} {base : Heap} {x qual : Str} {params : Arguments} {body : List Stmt} {scope : Scope} {f : Addr} {fd : FuncData} {N ps : List Str} {k : Nat} {b : MS}
    (F : FunD K x qual params body scope [] [] f fd) (sc : FnScope N ps scope) (t : WX → TS)
    (hP : ∀ (cdv : Value) (A : Around) (outer : List Env) (s : Shared) (H : Hp) (E : XK), Room k (A.deeper (envOfC qual scope s.heap.objs.size f cdv)) → PSs (cxOf CX P w K mg base N qual scope f cdv A outer s H E) body (t fun cls d _ H' => E cls d H'))
    (hS : SS K t b) : FnOk P w K mg base CX (k + 1) f fd ps (spF K (fnOf ps.length N.length b)) := by
  refine F.ok sc (fun vs H Q E h => ?_) (fun cdv A outer s H vs Q E hr h => ?_)
  · obtain ⟨r, F, m, ds, res, m', _, p, hs, _⟩ := h
    rw [p.len]
    unfold fnOf at hs
    split at hs
    · rename_i hl; exact hl
    · cases hs
  · obtain ⟨r, F, m, ds, res, m', hr0, p, hs, q⟩ := h
    unfold fnOf at hs
    split at hs
    · refine ⟨_, hP cdv A outer s H E hr, ?_⟩
      cases ho : b (st N.length ds) m with
      | none => rw [ho] at hs; cases hs
      | some o =>
        rw [ho] at hs
        refine hS (fun cls d _ H' => E cls d H') _ _ _ ho r F H _ _ hr0 (er_start p) ?_
        cases o with
        | rt d m1 =>
            intro v r' F' H' h1 x1 p1
            obtain ⟨r'', ft, rfl, z1, z2, z3⟩ := fin_ok hr0 h1 x1 hs p1
            exact q v r'' F' H' z1 z2 z3
        | nx δ m1 =>
            intro σ' r' F' H' h1 _ x1
            obtain ⟨r'', ft, rfl, z1, z2, z3⟩ := fin_ok (v := .non) hr0 h1 x1 hs .non
            exact q .non r'' F' H' z1 z2 z3
        | ex y δ m1 =>
            intro σ' r' F' H' h1 _ x1
            have hs' : (cutS m m1).map (fun m => ((RX.ex y : RX FT), m)) = some (res, m') := hs
            cases z : cutS m m1 with
            | none => rw [z] at hs'; cases hs'
            | some m3 =>
              rw [z] at hs'
              cases hs'
              obtain ⟨r'', z1, z2⟩ := cut_ok hr0 h1 x1 z
              exact q r'' F' H' z1 z2
        | bk δ m1 => cases hs
        | ct δ m1 => cases hs
    · cases hs
end DL
namespace DL
open PySem PySem.Spec PyProof.Rows L2
/-! ### what is read as a list -/
def rdL (m : Store) : D → Option (List D)
  | .lst xs => some xs
  | .cell k => match m[k]? with
    | some (.lst xs) => some xs
    | _ => none
  | _ => none
def rdQ (m : Store) : D → Option (List D)
  | .lst xs => some xs
  | .cell k => match m[k]? with
    | some (.lst xs) => some xs
    | _ => none
  | .scr ns => some (ns.map D.int)
  | _ => none
/-- .. or as a tuple -/
def rdS (m : Store) : D → Option (List D)
  | .lst xs => some xs
  | .cell k => match m[k]? with
    | some (.lst xs) => some xs
    | _ => none
  | .scr ns => some (ns.map D.int)
  | .tup xs => some xs
  | _ => none
section
variable {K : PySem.W.Frag} {m : Store} {d : D} {r : List Addr} {F H : Hp} {v : V} {xs : List D}
theorem cell_some {k : Nat} (h : (match m[k]? with | some (.lst xs) => some xs | _ => none) = some xs) : m[k]? = some (.lst xs) := by
  split at h
  · rename_i e; cases h; exact e
  · cases h
theorem rdL_get (h : rdL m d = some xs) (hr : HR K r F H m) (p : Rep K r F v d) : ∃ a vs, v = .ref a ∧ H a = some (.lst vs) ∧ RepAll K r F vs xs := by
  cases d with
  | lst ys => cases h; exact IsL.get (.lst (m := m)) hr p
  | cell k => exact IsL.get (.cell (cell_some h)) hr p
  | _ => cases h
theorem repAll_ints : ∀ (ns : List Int), RepAll K r F (ns.map V.int) (ns.map D.int)
  | [] => .nil
  | n :: ns => .cons (.int n) (repAll_ints ns)
theorem rdQ_get (h : rdQ m d = some xs) (hr : HR K r F H m) (p : Rep K r F v d) : ∃ a vs, v = .ref a ∧ SqL K H a vs ∧ RepAll K r F vs xs := by
  cases d with
  | lst ys => cases h; obtain ⟨a, vs, e, h1, h2⟩ := IsL.get (.lst (m := m)) hr p; exact ⟨a, vs, e, SqL.of h1, h2⟩
  | cell k => obtain ⟨a, vs, e, h1, h2⟩ := IsL.get (.cell (cell_some h)) hr p; exact ⟨a, vs, e, SqL.of h1, h2⟩
  | scr ns => cases h; cases p with
    | scr hs => exact ⟨_, _, rfl, hr.sub.seq hs, repAll_ints ns⟩
  | _ => cases h
theorem rdS_get (h : rdS m d = some xs) (hr : HR K r F H m) (p : Rep K r F v d) : ∃ a vs, v = .ref a ∧ (SqL K H a vs ∨ SqT K H a vs) ∧ RepAll K r F vs xs := by
  cases d with
  | lst ys => cases h; obtain ⟨a, vs, e, h1, h2⟩ := IsL.get (.lst (m := m)) hr p; exact ⟨a, vs, e, .inl (SqL.of h1), h2⟩
  | cell k => obtain ⟨a, vs, e, h1, h2⟩ := IsL.get (.cell (cell_some h)) hr p; exact ⟨a, vs, e, .inl (SqL.of h1), h2⟩
  | scr ns => cases h; cases p with
    | scr hs => exact ⟨_, _, rfl, .inl (hr.sub.seq hs), repAll_ints ns⟩
  | tup ys => cases h; cases p with
    | tup hs ha => exact ⟨_, _, rfl, .inr (SqT.of (hr.sub _ _ hs)), ha⟩
  | _ => cases h
end
/-! ### whole numbers -/
def pAdd : D → D → Store → MX D := fun x y m => match x, y with
  | .int i, .int j => ret (.int (i + j)) m
  | _, _ => none
theorem s2_pAdd {K : PySem.W.Frag} {W : WX} : S2 K W oAdd pAdd := fun x y m res m' e r F H σ vx vy hr px py => by
  unfold pAdd at e
  split at e
  · cases e; cases px; cases py
    exact fun Q q => ⟨_, _, rfl, rfl, q _ r F H hr (Ext.refl hr) (.int _)⟩
  · cases e
def pSub : D → D → Store → MX D := fun x y m => match x, y with
  | .int i, .int j => ret (.int (i - j)) m
  | _, _ => none
theorem s2_pSub {K : PySem.W.Frag} {W : WX} : S2 K W oSub pSub := fun x y m res m' e r F H σ vx vy hr px py => by
  unfold pSub at e
  split at e
  · cases e; cases px; cases py
    exact fun Q q => ⟨_, _, rfl, rfl, q _ r F H hr (Ext.refl hr) (.int _)⟩
  · cases e
open Classical in
noncomputable def pMul : D → D → Store → MX D := fun x y m => match x, y with
  | .int i, .int j => if CMul i j then ret (.int (i * j)) m else none
  | _, _ => none
theorem s2_pMul {K : PySem.W.Frag} {W : WX} : S2 K W oMul pMul := fun x y m res m' e r F H σ vx vy hr px py => by
  unfold pMul at e
  split at e
  · split at e
    · rename_i hc
      cases e; cases px; cases py
      exact fun Q q => ⟨_, _, rfl, rfl, hc, q _ r F H hr (Ext.refl hr) (.int _)⟩
    · cases e
  · cases e
open Classical in
noncomputable def pDiv : D → D → Store → MX D := fun x y m => match x, y with
  | .int i, .int j => if CDivW i j then ret (.int (i / j)) m else none
  | _, _ => none
theorem s2_pDiv {K : PySem.W.Frag} {W : WX} : S2 K W oDiv pDiv := fun x y m res m' e r F H σ vx vy hr px py => by
  unfold pDiv at e
  split at e
  · split at e
    · rename_i hc
      cases e; cases px; cases py
      exact fun Q q => ⟨_, _, rfl, rfl, hc, q _ r F H hr (Ext.refl hr) (.int _)⟩
    · cases e
  · cases e
open Classical in
noncomputable def pMod : D → D → Store → MX D := fun x y m => match x, y with
  | .int i, .int j => if 0 < j then ret (.int (i % j)) m else none
  | _, _ => none
theorem s2_pMod {K : PySem.W.Frag} {W : WX} : S2 K W oMod pMod := fun x y m res m' e r F H σ vx vy hr px py => by
  unfold pMod at e
  split at e
  · split at e
    · rename_i hc
      cases e; cases px; cases py
      exact fun Q q => ⟨_, _, rfl, rfl, hc, q _ r F H hr (Ext.refl hr) (.int _)⟩
    · cases e
  · cases e
open Classical in
noncomputable def pPow : D → D → Store → MX D := fun x y m => match x, y with
  | .int i, .int j => if CPow i j then ret (.int (i ^ j.toNat)) m else none
  | _, _ => none
theorem s2_pPow {K : PySem.W.Frag} {W : WX} : S2 K W oPow pPow := fun x y m res m' e r F H σ vx vy hr px py => by
  unfold pPow at e
  split at e
  · split at e
    · rename_i hc
      cases e; cases px; cases py
      exact fun Q q => ⟨_, _, rfl, rfl, hc, q _ r F H hr (Ext.refl hr) (.int _)⟩
    · cases e
  · cases e
def pLt : D → D → Store → MX D := fun x y m => match x, y with
  | .int i, .int j => ret (.bl (decide (i < j))) m
  | _, _ => none
theorem s2_pLt {K : PySem.W.Frag} {W : WX} : S2 K W oLt pLt := fun x y m res m' e r F H σ vx vy hr px py => by
  unfold pLt at e
  split at e
  · cases e; cases px; cases py
    exact fun Q q => ⟨_, _, rfl, rfl, q _ r F H hr (Ext.refl hr) (.bl _)⟩
  · cases e
def pLe : D → D → Store → MX D := fun x y m => match x, y with
  | .int i, .int j => ret (.bl (decide (i ≤ j))) m
  | _, _ => none
theorem s2_pLe {K : PySem.W.Frag} {W : WX} : S2 K W oLe pLe := fun x y m res m' e r F H σ vx vy hr px py => by
  unfold pLe at e
  split at e
  · cases e; cases px; cases py
    exact fun Q q => ⟨_, _, rfl, rfl, q _ r F H hr (Ext.refl hr) (.bl _)⟩
  · cases e
def pGt : D → D → Store → MX D := fun x y m => match x, y with
  | .int i, .int j => ret (.bl (decide (j < i))) m
  | _, _ => none
theorem s2_pGt {K : PySem.W.Frag} {W : WX} : S2 K W oGt pGt := fun x y m res m' e r F H σ vx vy hr px py => by
  unfold pGt at e
  split at e
  · cases e; cases px; cases py
    exact fun Q q => ⟨_, _, rfl, rfl, q _ r F H hr (Ext.refl hr) (.bl _)⟩
  · cases e
def pGe : D → D → Store → MX D := fun x y m => match x, y with
  | .int i, .int j => ret (.bl (decide (j ≤ i))) m
  | _, _ => none
theorem s2_pGe {K : PySem.W.Frag} {W : WX} : S2 K W oGe pGe := fun x y m res m' e r F H σ vx vy hr px py => by
  unfold pGe at e
  split at e
  · cases e; cases px; cases py
    exact fun Q q => ⟨_, _, rfl, rfl, q _ r F H hr (Ext.refl hr) (.bl _)⟩
  · cases e
def pNeg : D → Store → MX D := fun x m => match x with
  | .int i => ret (.int (-i)) m
  | _ => none
theorem s1_pNeg {K : PySem.W.Frag} {W : WX} : S1 K W oNeg pNeg := fun x m res m' e r F H σ vx hr px => by
  cases x with
  | int i => cases e; cases px; exact fun Q q => ⟨_, rfl, q _ r F H hr (Ext.refl hr) (.int _)⟩
  | _ => cases e
def pEq : D → D → Store → MX D := fun x y m => match x, y with
  | .int i, .int j => ret (.bl (decide (i = j))) m
  | .bl i, .bl j => ret (.bl (decide (i = j))) m
  | .str i, .str j => ret (.bl (decide (i = j))) m
  | .non, .non => ret (.bl (true)) m
  | .non, .int _ => ret (.bl (false)) m
  | .int _, .non => ret (.bl (false)) m
  | _, _ => none
theorem s2_pEq {K : PySem.W.Frag} {W : WX} : S2 K W rEq pEq := fun x y m res m' e r F H σ vx vy hr px py => by
  unfold pEq at e
  split at e
  · cases e; cases px; cases py
    refine fun Q q => ⟨rfl, ?_⟩
    rw [DL.dec_int]; exact q _ r F H hr (Ext.refl hr) (.bl _)
  · cases e; cases px; cases py
    refine fun Q q => ⟨rfl, ?_⟩
    rw [DL.dec_bl]; exact q _ r F H hr (Ext.refl hr) (.bl _)
  · cases e; cases px; cases py
    refine fun Q q => ⟨rfl, ?_⟩
    rw [DL.dec_str]; exact q _ r F H hr (Ext.refl hr) (.bl _)
  · cases e; cases px; cases py
    exact fun Q q => ⟨rfl, q _ r F H hr (Ext.refl hr) (.bl _)⟩
  · cases e; cases px; cases py
    exact fun Q q => ⟨rfl, q _ r F H hr (Ext.refl hr) (.bl _)⟩
  · cases e; cases px; cases py
    exact fun Q q => ⟨rfl, q _ r F H hr (Ext.refl hr) (.bl _)⟩
  · cases e
def pNe : D → D → Store → MX D := fun x y m => match x, y with
  | .int i, .int j => ret (.bl (!decide (i = j))) m
  | .bl i, .bl j => ret (.bl (!decide (i = j))) m
  | .str i, .str j => ret (.bl (!decide (i = j))) m
  | .non, .non => ret (.bl (!true)) m
  | .non, .int _ => ret (.bl (!false)) m
  | .int _, .non => ret (.bl (!false)) m
  | _, _ => none
theorem s2_pNe {K : PySem.W.Frag} {W : WX} : S2 K W rNe pNe := fun x y m res m' e r F H σ vx vy hr px py => by
  unfold pNe at e
  split at e
  · cases e; cases px; cases py
    refine fun Q q => ⟨rfl, ?_⟩
    rw [DL.dec_int]; exact q _ r F H hr (Ext.refl hr) (.bl _)
  · cases e; cases px; cases py
    refine fun Q q => ⟨rfl, ?_⟩
    rw [DL.dec_bl]; exact q _ r F H hr (Ext.refl hr) (.bl _)
  · cases e; cases px; cases py
    refine fun Q q => ⟨rfl, ?_⟩
    rw [DL.dec_str]; exact q _ r F H hr (Ext.refl hr) (.bl _)
  · cases e; cases px; cases py
    exact fun Q q => ⟨rfl, q _ r F H hr (Ext.refl hr) (.bl _)⟩
  · cases e; cases px; cases py
    exact fun Q q => ⟨rfl, q _ r F H hr (Ext.refl hr) (.bl _)⟩
  · cases e; cases px; cases py
    exact fun Q q => ⟨rfl, q _ r F H hr (Ext.refl hr) (.bl _)⟩
  · cases e
def pIsN : D → D → Store → MX D := fun x y m => match y with
  | .non => ret (.bl (x.isNon)) m
  | _ => none
theorem s2_pIsN {K : PySem.W.Frag} {W : WX} : S2 K W oIsN pIsN := fun x y m res m' e r F H σ vx vy hr px py => by
  cases y with
  | non =>
    cases e; cases py
    refine fun Q q => ⟨rfl, ?_⟩
    have : decide (vx = V.non) = x.isNon := by cases px <;> rfl
    rw [this]; exact q _ r F H hr (Ext.refl hr) (.bl _)
  | _ => cases e
def pNotN : D → D → Store → MX D := fun x y m => match y with
  | .non => ret (.bl (!x.isNon)) m
  | _ => none
theorem s2_pNotN {K : PySem.W.Frag} {W : WX} : S2 K W oNotN pNotN := fun x y m res m' e r F H σ vx vy hr px py => by
  cases y with
  | non =>
    cases e; cases py
    refine fun Q q => ⟨rfl, ?_⟩
    have : decide (vx = V.non) = x.isNon := by cases px <;> rfl
    rw [this]; exact q _ r F H hr (Ext.refl hr) (.bl _)
  | _ => cases e
/-! ### == of data at any depth -/
def vw (m : Store) : D → Option D
  | .cell k => match m[k]? with
    | some (.lst xs) => some (.lst xs)
    | _ => none
  | d => some d
def eqb (d e : D) : Bool := PyData.eqv d.toPy e.toPy
theorem vw_sd {m : Store} {d d' : D} (h : vw m d = some d') (s : Sh 60 d') : Sd m d d' := by
  cases d with
  | cell k =>
    unfold vw at h
    dsimp only at h
    split at h
    · rename_i e; cases h; exact .cell e s
    · cases h
  | non => cases h; exact .data s
  | bl _ => cases h; exact .data s
  | int _ => cases h; exact .data s
  | str _ => cases h; exact .data s
  | lst _ => cases h; exact .data s
  | tup _ => cases h; exact .data s
  | scr _ => cases h; exact .data s
  | exc _ => cases h; exact .data s
open Classical in
noncomputable def pEqD : D → D → Store → MX D := fun x y m => (vw m x).bind fun x => (vw m y).bind fun y => if Sh 60 x ∧ Sh 60 y then ret (.bl (eqb x y)) m else none
theorem s2_pEqD {K : PySem.W.Frag} {W : WX} : S2 K W (rEqD K) pEqD := fun x y m res m' e r F H σ vx vy hr px py => by
  unfold pEqD at e
  cases h1 : vw m x with
  | none => rw [h1] at e; cases e
  | some x' =>
    rw [h1] at e
    cases h2 : vw m y with
    | none => rw [h2] at e; cases e
    | some y' =>
      rw [h2] at e
      simp only [Option.bind_some] at e
      split at e
      · rename_i hs
        cases e
        have s1 := vw_sd h1 hs.1
        have s2 := vw_sd h2 hs.2
        exact fun Q q => ⟨_, _, s1.pd.1.dp hr px, s2.pd.1.dp hr py, s1.pd.2.1, s2.pd.2.1, q _ r F H hr (Ext.refl hr) (.bl _)⟩
      · cases e
open Classical in
noncomputable def pNeD : D → D → Store → MX D := fun x y m => (vw m x).bind fun x => (vw m y).bind fun y => if Sh 60 x ∧ Sh 60 y then ret (.bl (!eqb x y)) m else none
theorem s2_pNeD {K : PySem.W.Frag} {W : WX} : S2 K W (rNeD K) pNeD := fun x y m res m' e r F H σ vx vy hr px py => by
  unfold pNeD at e
  cases h1 : vw m x with
  | none => rw [h1] at e; cases e
  | some x' =>
    rw [h1] at e
    cases h2 : vw m y with
    | none => rw [h2] at e; cases e
    | some y' =>
      rw [h2] at e
      simp only [Option.bind_some] at e
      split at e
      · rename_i hs
        cases e
        have s1 := vw_sd h1 hs.1
        have s2 := vw_sd h2 hs.2
        exact fun Q q => ⟨_, _, s1.pd.1.dp hr px, s2.pd.1.dp hr py, s1.pd.2.1, s2.pd.2.1, q _ r F H hr (Ext.refl hr) (.bl _)⟩
      · cases e
/-! ### items, lengths -/
def pIxT : D → D → Store → MX D := fun x y m => match x, y with
  | .tup ds, .int i => (L2.atI ds i).bind fun d => ret d m
  | _, _ => none
theorem s2_pIxT {K : PySem.W.Frag} {W : WX} : S2 K W (rIxT K) pIxT := fun x y m res m' e r F H σ vx vy hr px py => by
  unfold pIxT at e
  split at e
  · rename_i ds i
    cases h : L2.atI ds i with
    | none => rw [h] at e; cases e
    | some d =>
      rw [h] at e; cases e
      exact y_ixT h r F H vx vy hr px py
  · cases e
def pIxL : D → D → Store → MX D := fun x y m => match y with
  | .int i => (rdQ m x).bind fun ds => (L2.atI ds i).bind fun d => ret d m
  | _ => none
theorem s2_pIxL {K : PySem.W.Frag} {W : WX} : S2 K W (rIxL K) pIxL := fun x y m res m' e r F H σ vx vy hr px py => by
  unfold pIxL at e
  split at e
  · rename_i i
    cases h0 : rdQ m x with
    | none => rw [h0] at e; cases e
    | some ds =>
      rw [h0] at e
      simp only [Option.bind_some] at e
      cases h : L2.atI ds i with
      | none => rw [h] at e; cases e
      | some d =>
        rw [h] at e; cases e
        cases py
        obtain ⟨a, vs, rfl, hs, ra⟩ := rdQ_get h0 hr px
        obtain ⟨v, e1, p⟩ := ra.atI h
        exact fun Q q => ⟨_, _, i, v, rfl, rfl, hs, e1, q _ r F H hr (Ext.refl hr) p⟩
  · cases e
def pLen : List D → Store → MX D := fun xs m => match xs with
  | [d] => (rdS m d).bind fun ds => ret (.int ds.length) m
  | _ => none
theorem rep1 {K : PySem.W.Frag} {r : List Addr} {F : Hp} {vs : List V} {d : D} (p : RepAll K r F vs [d]) : ∃ v, vs = [v] ∧ Rep K r F v d := by
  cases p with
  | cons p q => cases q; exact ⟨_, rfl, p⟩
theorem rep2 {K : PySem.W.Frag} {r : List Addr} {F : Hp} {vs : List V} {d e : D} (p : RepAll K r F vs [d, e]) : ∃ v w, vs = [v, w] ∧ Rep K r F v d ∧ Rep K r F w e := by
  cases p with
  | cons p q => obtain ⟨w, rfl, pw⟩ := rep1 q; exact ⟨_, _, rfl, p, pw⟩
theorem rep3 {K : PySem.W.Frag} {r : List Addr} {F : Hp} {vs : List V} {d e f : D} (p : RepAll K r F vs [d, e, f]) : ∃ v w z, vs = [v, w, z] ∧ Rep K r F v d ∧ Rep K r F w e ∧ Rep K r F z f := by
  cases p with
  | cons p q => obtain ⟨w, z, rfl, pw, pz⟩ := rep2 q; exact ⟨_, _, _, rfl, p, pw, pz⟩
theorem sc_pLen {K : PySem.W.Frag} {W : WX} : SC K W (RE K) (Evl.rLenS K) pLen := fun xs m res m' e r F H σ vs hr p => by
  unfold pLen at e
  split at e
  · rename_i d
    cases h0 : rdS m d with
    | none => rw [h0] at e; cases e
    | some ds =>
      rw [h0] at e; cases e
      obtain ⟨v, rfl, pv⟩ := rep1 p
      obtain ⟨a, ws, rfl, hs, ra⟩ := rdS_get h0 hr pv
      refine fun Q q => ⟨_, _, rfl, hs, ?_⟩
      rw [ra.len]; exact q _ r F H hr (Ext.refl hr) (.int _)
  · cases e
def pMax2 : List D → Store → MX D := fun xs m => match xs with
  | [.int i, .int j] => ret (.int (max i j)) m
  | _ => none
theorem sc_pMax2 {K : PySem.W.Frag} {W : WX} : SC K W (RE K) Evl.rMax2 pMax2 := fun xs m res m' e r F H σ vs hr p => by
  unfold pMax2 at e
  split at e
  · rename_i i j
    cases e
    obtain ⟨v, w, rfl, pv, pw⟩ := rep2 p
    cases pv; cases pw
    have z : (if j > i then j else i) = max i j := by split <;> omega
    refine fun Q q => ⟨i, j, rfl, ?_⟩
    rw [z]; exact q _ r F H hr (Ext.refl hr) (.int _)
  · cases e
def pMin2 : List D → Store → MX D := fun xs m => match xs with
  | [.int i, .int j] => ret (.int (min i j)) m
  | _ => none
theorem sc_pMin2 {K : PySem.W.Frag} {W : WX} : SC K W (RE K) rMin2 pMin2 := fun xs m res m' e r F H σ vs hr p => by
  unfold pMin2 at e
  split at e
  · rename_i i j
    cases e
    obtain ⟨v, w, rfl, pv, pw⟩ := rep2 p
    cases pv; cases pw
    have z : (if j < i then j else i) = min i j := by split <;> omega
    refine fun Q q => ⟨i, j, rfl, ?_⟩
    rw [z]; exact q _ r F H hr (Ext.refl hr) (.int _)
  · cases e
def pMax3 : List D → Store → MX D := fun xs m => match xs with
  | [.int i, .int j, .int k] => ret (.int (max (max i j) k)) m
  | _ => none
theorem sc_pMax3 {K : PySem.W.Frag} {W : WX} : SC K W (RE K) (rNuC3 nuMax3) pMax3 := fun xs m res m' e r F H σ vs hr p => by
  unfold pMax3 at e
  split at e
  · cases e
    exact y_max3 r F H vs hr p
  · cases e
def pMin3 : List D → Store → MX D := fun xs m => match xs with
  | [.int i, .int j, .int k] => ret (.int (min (min i j) k)) m
  | _ => none
theorem sc_pMin3 {K : PySem.W.Frag} {W : WX} : SC K W (RE K) (rNuC3 nuMin3) pMin3 := fun xs m res m' e r F H σ vs hr p => by
  unfold pMin3 at e
  split at e
  · cases e
    exact y_min3 r F H vs hr p
  · cases e
def pAbs : List D → Store → MX D := fun xs m => match xs with
  | [.int i] => ret (.int (if i < 0 then -i else i)) m
  | _ => none
theorem sc_pAbs {K : PySem.W.Frag} {W : WX} : SC K W (RE K) rAbs pAbs := fun xs m res m' e r F H σ vs hr p => by
  unfold pAbs at e
  split at e
  · cases e
    obtain ⟨v, rfl, pv⟩ := rep1 p
    cases pv
    exact fun Q q => ⟨_, rfl, q _ r F H hr (Ext.refl hr) (.int _)⟩
  · cases e
/-! ### lists of numbers, of truths -/
def toInts : List D → Option (List Int)
  | [] => some []
  | .int i :: ds => (toInts ds).map fun ns => i :: ns
  | _ :: _ => none
def bools : List D → Option (List Bool)
  | [] => some []
  | .bl i :: ds => (bools ds).map fun ns => i :: ns
  | _ :: _ => none
theorem toInts_eq : ∀ {ds : List D} {ns : List Int}, toInts ds = some ns → ds = ns.map D.int
  | [], _, h => by cases h; rfl
  | d :: ds, ns, h => by
    cases d with
    | int i =>
      unfold toInts at h
      cases q : toInts ds with
      | none => rw [q] at h; cases h
      | some ms => rw [q] at h; cases h; rw [toInts_eq q]; rfl
    | _ => cases h
theorem bools_eq : ∀ {ds : List D} {ns : List Bool}, bools ds = some ns → ds = ns.map D.bl
  | [], _, h => by cases h; rfl
  | d :: ds, ns, h => by
    cases d with
    | bl i =>
      unfold bools at h
      cases q : bools ds with
      | none => rw [q] at h; cases h
      | some ms => rw [q] at h; cases h; rw [bools_eq q]; rfl
    | _ => cases h
theorem toInts_map : ∀ ns : List Int, toInts (ns.map D.int) = some ns
  | [] => rfl
  | n :: ns => by
    show (toInts (ns.map D.int)).map _ = _
    rw [toInts_map ns]; rfl
theorem bools_map : ∀ ns : List Bool, bools (ns.map D.bl) = some ns
  | [] => rfl
  | n :: ns => by
    show (bools (ns.map D.bl)).map _ = _
    rw [bools_map ns]; rfl
def imax : List Int → Int
  | [] => 0
  | [a] => a
  | a :: b :: l => max a (imax (b :: l))
def imin : List Int → Int
  | [] => 0
  | [a] => a
  | a :: b :: l => min a (imin (b :: l))
theorem imax_mem : ∀ {l : List Int}, l ≠ [] → imax l ∈ l
  | [a], _ => List.mem_cons_self
  | a :: b :: l, _ => by
    have ih := imax_mem (l := b :: l) (by simp)
    show max a (imax (b :: l)) ∈ _
    rcases Int.le_total a (imax (b :: l)) with h | h
    · rw [Int.max_eq_right h]; exact List.mem_cons_of_mem _ ih
    · rw [Int.max_eq_left h]; exact List.mem_cons_self
theorem imax_ge : ∀ {l : List Int} {x : Int}, x ∈ l → x ≤ imax l
  | [a], x, h => by cases List.mem_singleton.mp h; exact Int.le_refl _
  | a :: b :: l, x, h => by
    show x ≤ max a (imax (b :: l))
    rcases List.mem_cons.mp h with rfl | h
    · exact Int.le_max_left _ _
    · exact Int.le_trans (imax_ge h) (Int.le_max_right _ _)
theorem imin_mem : ∀ {l : List Int}, l ≠ [] → imin l ∈ l
  | [a], _ => List.mem_cons_self
  | a :: b :: l, _ => by
    have ih := imin_mem (l := b :: l) (by simp)
    show min a (imin (b :: l)) ∈ _
    rcases Int.le_total a (imin (b :: l)) with h | h
    · rw [Int.min_eq_left h]; exact List.mem_cons_self
    · rw [Int.min_eq_right h]; exact List.mem_cons_of_mem _ ih
theorem imin_le : ∀ {l : List Int} {x : Int}, x ∈ l → imin l ≤ x
  | [a], x, h => by cases List.mem_singleton.mp h; exact Int.le_refl _
  | a :: b :: l, x, h => by
    show min a (imin (b :: l)) ≤ x
    rcases List.mem_cons.mp h with rfl | h
    · exact Int.min_le_left _ _
    · exact Int.le_trans (Int.min_le_right _ _) (imin_le h)
def pSum : List D → Store → MX D := fun xs m => match xs with
  | [d] => (rdQ m d).bind fun ds => (toInts ds).bind fun ns => ret (.int ns.sum) m
  | _ => none
theorem sc_pSum {K : PySem.W.Frag} {W : WX} : SC K W (RE K) (rSum K) pSum := fun xs m res m' e r F H σ vs hr p => by
  unfold pSum at e
  split at e
  · rename_i d
    cases h0 : rdQ m d with
    | none => rw [h0] at e; cases e
    | some ds =>
      rw [h0] at e
      simp only [Option.bind_some] at e
      cases h1 : toInts ds with
      | none => rw [h1] at e; cases e
      | some ns =>
        rw [h1] at e; cases e
        cases toInts_eq h1
        obtain ⟨v, rfl, pv⟩ := rep1 p
        obtain ⟨a, ws, rfl, hs, ra⟩ := rdQ_get h0 hr pv
        cases ra.ints
        exact fun Q q => ⟨_, _, rfl, hs, q _ r F H hr (Ext.refl hr) (.int _)⟩
  · cases e
def pMaxL : List D → Store → MX D := fun xs m => match xs with
  | [d] => (rdQ m d).bind fun ds => (toInts ds).bind fun ns => if ns.length = 0 then none else ret (.int (imax ns)) m
  | _ => none
theorem sc_pMaxL {K : PySem.W.Frag} {W : WX} : SC K W (RE K) (rMax K) pMaxL := fun xs m res m' e r F H σ vs hr p => by
  unfold pMaxL at e
  split at e
  · rename_i d
    cases h0 : rdQ m d with
    | none => rw [h0] at e; cases e
    | some ds =>
      rw [h0] at e
      simp only [Option.bind_some] at e
      cases h1 : toInts ds with
      | none => rw [h1] at e; cases e
      | some ns =>
        rw [h1] at e
        simp only [Option.bind_some] at e
        split at e
        · cases e
        · rename_i hz
          cases e
          cases toInts_eq h1
          obtain ⟨v, rfl, pv⟩ := rep1 p
          obtain ⟨a, ws, rfl, hs, ra⟩ := rdQ_get h0 hr pv
          cases ra.ints
          have hne : ns ≠ [] := fun z => hz (by rw [z]; rfl)
          refine fun Q q => ⟨_, _, rfl, hs, Nat.pos_of_ne_zero hz, fun k hk hall => ?_⟩
          have : k = imax ns := Int.le_antisymm (imax_ge hk) (hall _ (imax_mem hne))
          rw [this]
          exact q _ r F H hr (Ext.refl hr) (.int _)
  · cases e
def pMinL : List D → Store → MX D := fun xs m => match xs with
  | [d] => (rdQ m d).bind fun ds => (toInts ds).bind fun ns => if ns.length = 0 then none else ret (.int (imin ns)) m
  | _ => none
theorem sc_pMinL {K : PySem.W.Frag} {W : WX} : SC K W (RE K) (rMin K) pMinL := fun xs m res m' e r F H σ vs hr p => by
  unfold pMinL at e
  split at e
  · rename_i d
    cases h0 : rdQ m d with
    | none => rw [h0] at e; cases e
    | some ds =>
      rw [h0] at e
      simp only [Option.bind_some] at e
      cases h1 : toInts ds with
      | none => rw [h1] at e; cases e
      | some ns =>
        rw [h1] at e
        simp only [Option.bind_some] at e
        split at e
        · cases e
        · rename_i hz
          cases e
          cases toInts_eq h1
          obtain ⟨v, rfl, pv⟩ := rep1 p
          obtain ⟨a, ws, rfl, hs, ra⟩ := rdQ_get h0 hr pv
          cases ra.ints
          have hne : ns ≠ [] := fun z => hz (by rw [z]; rfl)
          refine fun Q q => ⟨_, _, rfl, hs, Nat.pos_of_ne_zero hz, fun k hk hall => ?_⟩
          have : k = imin ns := Int.le_antisymm (hall _ (imin_mem hne)) (imin_le hk)
          rw [this]
          exact q _ r F H hr (Ext.refl hr) (.int _)
  · cases e
def pAll : List D → Store → MX D := fun xs m => match xs with
  | [d] => (rdQ m d).bind fun ds => (bools ds).bind fun ns => ret (.bl (ns.all id)) m
  | _ => none
theorem sc_pAll {K : PySem.W.Frag} {W : WX} : SC K W (RE K) (rAll K) pAll := fun xs m res m' e r F H σ vs hr p => by
  unfold pAll at e
  split at e
  · rename_i d
    cases h0 : rdQ m d with
    | none => rw [h0] at e; cases e
    | some ds =>
      rw [h0] at e
      simp only [Option.bind_some] at e
      cases h1 : bools ds with
      | none => rw [h1] at e; cases e
      | some ns =>
        rw [h1] at e; cases e
        cases bools_eq h1
        obtain ⟨v, rfl, pv⟩ := rep1 p
        obtain ⟨a, ws, rfl, hs, ra⟩ := rdQ_get h0 hr pv
        cases ra.bls
        exact fun Q q => ⟨_, _, rfl, hs, q _ r F H hr (Ext.refl hr) (.bl _)⟩
  · cases e
def pAny : List D → Store → MX D := fun xs m => match xs with
  | [d] => (rdQ m d).bind fun ds => (bools ds).bind fun ns => ret (.bl (ns.any id)) m
  | _ => none
theorem sc_pAny {K : PySem.W.Frag} {W : WX} : SC K W (RE K) (rAny K) pAny := fun xs m res m' e r F H σ vs hr p => by
  unfold pAny at e
  split at e
  · rename_i d
    cases h0 : rdQ m d with
    | none => rw [h0] at e; cases e
    | some ds =>
      rw [h0] at e
      simp only [Option.bind_some] at e
      cases h1 : bools ds with
      | none => rw [h1] at e; cases e
      | some ns =>
        rw [h1] at e; cases e
        cases bools_eq h1
        obtain ⟨v, rfl, pv⟩ := rep1 p
        obtain ⟨a, ws, rfl, hs, ra⟩ := rdQ_get h0 hr pv
        cases ra.bls
        exact fun Q q => ⟨_, _, rfl, hs, q _ r F H hr (Ext.refl hr) (.bl _)⟩
  · cases e
end DL
namespace DL
open PySem PySem.Spec PyProof.Rows L2
section
variable {K : PySem.W.Frag} {W : WX} {ta tb tc : TE} {tas : TA} {a b c : ME} {as : MA}
/-- new lists of two values -/
def S2F (K : PySem.W.Frag) (W : WX) (rr : R2) (o : D → D → Store → MX FT) : Prop := ∀ x y m res m', o x y m = some (res, m') → ∀ r F H σ vx vy, HR K r F H m → Rep K r F vx x → Rep K r F vy y → JAt K W (RF K) r F H σ m (rr vx vy) res m'
def fOp (o : D → D → Store → MX FT) (a b : ME) : MF := fun δ m => (a δ m).bind fun x m => (b δ m).bind fun y m => o x y m
theorem so_fop {rr : R2} {o : D → D → Store → MX FT} (ho : S2F K W rr o) (ha : So K W (RE K) ta a) (hb : So K W (RE K) tb b) : So K W (RF K) (tOp rr ta tb) (fOp o a b) := fun δ m res m' e r F H σ hr er => by
  show JAt K W (RF K) r F H σ m (fun H Q => ta σ H fun x H1 => tb σ H1 fun y H2 => rr x y H2 Q) res m'
  rcases bind_some e with ⟨x, m1, e1, e2⟩ | ⟨y, e1, rfl⟩
  · refine (ha δ m _ _ e1 r F H σ hr er).bind rf_mon hr fun v r1 F1 H1 hr1 x1 rv => ?_
    rcases bind_some e2 with ⟨y, m2, e3, e4⟩ | ⟨y, e3, rfl⟩
    · refine (hb δ m1 _ _ e3 r1 F1 H1 σ hr1 (er.ext x1)).bind rf_mon hr1 fun w r2 F2 H2 hr2 x2 rw => ?_
      exact ho x y m2 res m' e4 r2 F2 H2 σ v w hr2 (rv.mono x2.pre x2.sub) rw
    · exact (hb δ m1 _ _ e3 r1 F1 H1 σ hr1 (er.ext x1)).thrown
  · exact (ha δ m _ _ e1 r F H σ hr er).thrown
def pCat : D → D → Store → MX FT := fun x y m => (rdL m x).bind fun xs => (rdL m y).bind fun ys => if xs.length + ys.length ≤ 100000 then ret (.own (xs ++ ys)) m else none
theorem s2_pCat : S2F K W rCat pCat := fun x y m res m' e r F H σ vx vy hr px py => by
  unfold pCat at e
  cases h1 : rdL m x with
  | none => rw [h1] at e; cases e
  | some xs =>
    rw [h1] at e
    cases h2 : rdL m y with
    | none => rw [h2] at e; cases e
    | some ys =>
      rw [h2] at e
      simp only [Option.bind_some] at e
      split at e
      · rename_i hl
        cases e
        obtain ⟨a, vs, rfl, e1, r1⟩ := rdL_get h1 hr px
        obtain ⟨b, ws, rfl, e2, r2⟩ := rdL_get h2 hr py
        exact fun Q q => ⟨a, b, vs, ws, rfl, rfl, e1, e2, Evl.sz_of (by rw [r1.len, r2.len]; exact hl), fun p hp => let ⟨q1, q2, q3⟩ := rf_new hr hp (r1.app r2); q _ r F _ q1 q2 q3⟩
      · cases e
theorem RepAll.flat {r : List Addr} {F : Hp} {vs : List V} {ds : List D} (h : RepAll K r F vs ds) : ∀ n : Nat, RepAll K r F (List.replicate n vs).flatten (List.replicate n ds).flatten
  | 0 => .nil
  | n + 1 => by
    rw [List.replicate_succ, List.replicate_succ, List.flatten_cons, List.flatten_cons]
    exact h.app (RepAll.flat h n)
def Rg62 (n : Int) : Prop := -(2 ^ 62) ≤ n ∧ n < 2 ^ 62
theorem rg62 {n : Int} (h1 : -1000000000000 ≤ n) (h2 : n ≤ 1000000000000) : Rg62 n := by
  unfold Rg62
  omega
theorem Rg62.wide {n : Int} (h : Rg62 n) : -(2 ^ 63) ≤ n ∧ n < 2 ^ 63 := by
  unfold Rg62 at h
  omega
open Classical in
noncomputable def pRep : D → D → Store → MX FT := fun x y m => match y with
  | .int k => (rdL m x).bind fun xs => if Rg62 k ∧ xs.length * k.toNat ≤ 100000 then ret (.own (List.replicate k.toNat xs).flatten) m else none
  | _ => none
theorem s2_pRep : S2F K W rRep pRep := fun x y m res m' e r F H σ vx vy hr px py => by
  cases y with
  | int k =>
    unfold pRep at e
    dsimp only at e
    cases h1 : rdL m x with
    | none => rw [h1] at e; cases e
    | some xs =>
      rw [h1] at e
      simp only [Option.bind_some] at e
      split at e
      · rename_i hl
        cases e
        cases py
        obtain ⟨a, vs, rfl, e1, r1⟩ := rdL_get h1 hr px
        exact fun Q q => ⟨a, k, vs, rfl, rfl, e1, hl.1.wide.1, hl.1.wide.2, Evl.sz_of (by rw [r1.len]; exact hl.2), fun p hp => let ⟨q1, q2, q3⟩ := rf_new hr hp (r1.flat k.toNat); q _ r F _ q1 q2 q3⟩
      · cases e
  | _ => cases e
/-- slices -/
abbrev MO := En → Store → MX (Option Int)
def oNone : MO := fun _ m => ret none m
def oSome (e : ME) : MO := fun δ m => (e δ m).bind fun x m => match x with
  | .int i => ret (some i) m
  | _ => none
theorem so_none : So K W RO tNoPart oNone := fun δ m res m' e r F H σ hr er => by cases e; exact fun Q q => q none r F H hr (Ext.refl hr) rfl
theorem so_some (h : So K W (RE K) ta a) : So K W RO (tPart ta) (oSome a) :=
  So.bind ro_mon h (k := fun (x : D) δ m => match x with
    | .int i => ret (some i) m
    | _ => none) (u := fun (x : V) σ H Q => ∃ i, x = .int i ∧ Q (some i) H) fun x δ m res m' e v r F H σ _ hr er rv => by
    cases x with
    | int c => cases rv; cases e; exact fun Q q => ⟨c, rfl, q _ r F H hr (Ext.refl hr) rfl⟩
    | _ => cases e
def cutD (xs : List D) (lo hi : Option Int) : List D := (xs.drop (HT.sIx xs.length 0 lo)).take (HT.sIx xs.length xs.length hi - HT.sIx xs.length 0 lo)
theorem RepAll.cutV {r : List Addr} {F : Hp} {vs : List V} {ds : List D} (h : RepAll K r F vs ds) (lo hi : Option Int) : RepAll K r F (L2.cutV vs lo hi) (cutD ds lo hi) := by
  unfold L2.cutV cutD
  rw [h.len]
  exact (h.drop _).take _
def fSl (a : ME) (l h : MO) : MF := fun δ m => (a δ m).bind fun x m => (l δ m).bind fun lo m => (h δ m).bind fun hi m => (rdQ m x).bind fun xs => ret (.own (cutD xs lo hi)) m
theorem so_sl {tl th : TO} {l h : MO} (ha : So K W (RE K) ta a) (hl : So K W RO tl l) (hh : So K W RO th h) : So K W (RF K) (tSl (rSlL K) ta tl th) (fSl a l h) := fun δ m res m' e r F H σ hr er => by
  show JAt K W (RF K) r F H σ m (fun H Q => ta σ H fun x H1 => tl σ H1 fun lo H2 => th σ H2 fun hi H3 => rSlL K x lo hi H3 Q) res m'
  rcases bind_some e with ⟨x, m1, e1, e2⟩ | ⟨y, e1, rfl⟩
  · refine (ha δ m _ _ e1 r F H σ hr er).bind rf_mon hr fun v r1 F1 H1 hr1 x1 rv => ?_
    rcases bind_some e2 with ⟨lo, m2, e3, e4⟩ | ⟨y, e3, rfl⟩
    · refine (hl δ m1 _ _ e3 r1 F1 H1 σ hr1 (er.ext x1)).bind rf_mon hr1 fun lo' r2 F2 H2 hr2 x2 rlo => ?_
      cases rlo
      rcases bind_some e4 with ⟨hi, m3, e5, e6⟩ | ⟨y, e5, rfl⟩
      · refine (hh δ m2 _ _ e5 r2 F2 H2 σ hr2 ((er.ext x1).ext x2)).bind rf_mon hr2 fun hi' r3 F3 H3 hr3 x3 rhi => ?_
        cases rhi
        cases h0 : rdQ m3 x with
        | none => rw [h0] at e6; cases e6
        | some xs =>
          rw [h0] at e6
          cases e6
          obtain ⟨p, vs, rfl, hs, ra⟩ := rdQ_get h0 hr3 ((rv.mono x2.pre x2.sub).mono x3.pre x3.sub)
          exact fun Q q => ⟨p, vs, rfl, hs, fun p' hp' => let ⟨q1, q2, q3⟩ := rf_new hr3 hp' (ra.cutV lo hi); q _ r3 F3 _ q1 q2 q3⟩
      · exact (hh δ m2 _ _ e5 r2 F2 H2 σ hr2 ((er.ext x1).ext x2)).thrown
    · exact (hl δ m1 _ _ e3 r1 F1 H1 σ hr1 (er.ext x1)).thrown
  · exact (ha δ m _ _ e1 r F H σ hr er).thrown
def fRev (a : ME) : MF := fun δ m => (a δ m).bind fun x m => (rdQ m x).bind fun xs => ret (.own xs.reverse) m
theorem so_rev (ha : So K W (RE K) ta a) : So K W (RF K) (tRevL K ta) (fRev a) :=
  So.bind rf_mon ha (k := fun (x : D) δ m => (rdQ m x).bind fun xs => ret (FT.own xs.reverse) m) (u := fun (x : V) σ H Q => ∃ a xs, x = .ref a ∧ SqL K H a xs ∧ ∀ p, H p = none → Q (.ref p) (upd H p (.lst xs.reverse))) fun x δ m res m' e v r F H σ _ hr er rv => by
    cases h0 : rdQ m x with
    | none => rw [h0] at e; cases e
    | some xs =>
      rw [h0] at e
      cases e
      obtain ⟨p, vs, rfl, hs, ra⟩ := rdQ_get h0 hr rv
      exact fun Q q => ⟨p, vs, rfl, hs, fun p' hp' => let ⟨q1, q2, q3⟩ := rf_new hr hp' ra.rev; q _ r F _ q1 q2 q3⟩
def fCB (p : List D → Store → MX FT) (as : MA) : MF := fun δ m => (as δ m).bind fun xs m => p xs m
theorem so_fCB {rr : List V → Hp → VK → Prop} {o : List D → Store → MX FT} (ho : SC K W (RF K) rr o) (hs : So K W (RA K) tas as) : So K W (RF K) (tCB rr tas) (fCB o as) := so_cb rf_mon ho hs
def pList : List D → Store → MX FT := fun xs m => match xs with
  | [d] => (rdS m d).bind fun ds => ret (.own ds) m
  | _ => none
theorem sc_pList : SC K W (RF K) (Evl.rListS K) pList := fun xs m res m' e r F H σ vs hr p => by
  unfold pList at e
  split at e
  · rename_i d
    cases h0 : rdS m d with
    | none => rw [h0] at e; cases e
    | some ds =>
      rw [h0] at e; cases e
      obtain ⟨v, rfl, pv⟩ := rep1 p
      obtain ⟨a, ws, rfl, hs, ra⟩ := rdS_get h0 hr pv
      exact fun Q q => ⟨_, _, rfl, hs, fun p' hp' => let ⟨q1, q2, q3⟩ := rf_new hr hp' ra; q _ r F _ q1 q2 q3⟩
  · cases e
/-- membership, flat items -/
def flatD : D → Bool
  | .non => true
  | .bl _ => true
  | .int _ => true
  | .str _ => true
  | _ => false
def eqF : D → D → Bool
  | .non, .non => true
  | .bl a, .bl b => a == b
  | .bl a, .int b => (if a then 1 else 0) == b
  | .int a, .bl b => a == (if b then 1 else 0)
  | .int a, .int b => a == b
  | .str a, .str b => a == b
  | _, _ => false
theorem flat_rep {r : List Addr} {F : Hp} {v : V} {d : D} (h : Rep K r F v d) (f : flatD d = true) : flatV v = true := by cases h <;> first | rfl | cases f
theorem eqF_rep {r : List Addr} {F : Hp} {v w : V} {d e : D} (h : Rep K r F v d) (h2 : Rep K r F w e) (f : flatD d = true) (f2 : flatD e = true) : eqV v w = eqF d e := by
  cases h <;> cases h2 <;> first | rfl | (exact absurd f Bool.false_ne_true) | (exact absurd f2 Bool.false_ne_true)
theorem flats_rep {r : List Addr} {F : Hp} {x : V} {d : D} (hx : Rep K r F x d) (fx : flatD d = true) : ∀ {vs : List V} {ds : List D}, RepAll K r F vs ds → ds.all flatD = true → vs.all flatV = true ∧ inV x vs = ds.any fun e => eqF e d
  | _, _, .nil, _ => ⟨rfl, rfl⟩
  | _, _, .cons h t, f => by
    rw [List.all_cons, Bool.and_eq_true] at f
    obtain ⟨i1, i2⟩ := flats_rep hx fx t f.2
    refine ⟨by rw [List.all_cons, flat_rep h f.1, i1]; rfl, ?_⟩
    unfold inV at i2 ⊢
    rw [List.any_cons, List.any_cons, i2, eqF_rep h hx f.1 fx]
def pIn (neg : Bool) : D → D → Store → MX D := fun x y m => (rdS m y).bind fun ys => if flatD x = true ∧ ys.all flatD = true then ret (.bl (if neg then !(ys.any fun e => eqF e x) else ys.any fun e => eqF e x)) m else none
theorem s2_pIn {neg : Bool} : S2 K W (rIn K neg) (pIn neg) := fun x y m res m' e r F H σ vx vy hr px py => by
  unfold pIn at e
  cases h0 : rdS m y with
  | none => rw [h0] at e; cases e
  | some ys =>
    rw [h0] at e
    simp only [Option.bind_some] at e
    split at e
    · rename_i hf
      cases e
      obtain ⟨a, ws, rfl, hs, ra⟩ := rdS_get h0 hr py
      obtain ⟨i1, i2⟩ := flats_rep px hf.1 ra hf.2
      refine fun Q q => ⟨_, _, rfl, hs, flat_rep px hf.1, i1, ?_⟩
      rw [i2]
      exact q _ r F H hr (Ext.refl hr) (.bl _)
    · cases e
def eBits (a : ME) : ME := fun δ m => (a δ m).bind fun x m => match x with
  | .int i => ret (.int (Builtin.Int.intBits i : Nat)) m
  | _ => none
theorem so_bits (ha : So K W (RE K) ta a) : So K W (RE K) (tBits ta) (eBits a) :=
  So.bind re_mon ha (k := fun (x : D) δ m => match x with
    | .int i => ret (.int (Builtin.Int.intBits i : Nat)) m
    | _ => none) (u := fun (x : V) σ H Q => ∃ i, x = .int i ∧ Q (.int (Builtin.Int.intBits i : Nat)) H) fun x δ m res m' e v r F H σ _ hr er rv => by
    cases x with
    | int i => cases rv; cases e; exact fun Q q => ⟨i, rfl, q _ r F H hr (Ext.refl hr) (.int _)⟩
    | _ => cases e
/-! ### methods of lists -/
def isLst (m : Store) (d : D) : Bool := (rdQ m d).isSome
theorem isLst_ty {m : Store} {d : D} {r : List Addr} {F H : Hp} {v : V} (h : isLst m d = true) (hr : HR K r F H m) (p : Rep K r F v d) : tyV K "list" v H := by
  unfold isLst at h
  cases h0 : rdQ m d with
  | none => rw [h0] at h; cases h
  | some xs =>
    obtain ⟨a, vs, rfl, hs, _⟩ := rdQ_get h0 hr p
    exact .inl ⟨rfl, vs, hs⟩
def eBM (p : D → List D → Store → MX D) (o : ME) (as : MA) : ME := fun δ m => (o δ m).bind fun x m => if isLst m x = true then (as δ m).bind fun xs m => p x xs m else none
def eBM0 (p : D → List D → Store → MX D) (o : ME) : ME := fun δ m => (o δ m).bind fun x m => if isLst m x = true then p x [] m else none
def SM (K : PySem.W.Frag) (W : WX) (rr : V → List V → Hp → VK → Prop) (o : D → List D → Store → MX D) : Prop := ∀ x xs m res m', o x xs m = some (res, m') → ∀ r F H σ v vs, HR K r F H m → Rep K r F v x → RepAll K r F vs xs → JAt K W (RE K) r F H σ m (rr v vs) res m'
theorem jat_and {K : PySem.W.Frag} {W : WX} {r : List Addr} {F H : Hp} {σ : L2.St} {m m' : Store} {P : Hp → Prop} {t : Hp → VK → Prop} {res : RX D} (hP : P H) (h : JAt K W (RE K) r F H σ m t res m') : JAt K W (RE K) r F H σ m (fun H Q => P H ∧ t H Q) res m' := by
  cases res with
  | ok z => exact fun Q q => ⟨hP, h Q q⟩
  | ex z => exact fun q Q => ⟨hP, h q Q⟩
theorem so_bm {rr : V → List V → Hp → VK → Prop} {p : D → List D → Store → MX D} (hp : SM K W rr p) (ho : So K W (RE K) ta a) (hs : So K W (RA K) tas as) : So K W (RE K) (tBM K "list" rr ta tas) (eBM p a as) :=
  So.bind re_mon ho (k := fun (x : D) δ m => if isLst m x = true then (as δ m).bind fun xs m => p x xs m else none) (u := fun (x : V) σ H Q => tyV K "list" x H ∧ tas σ H fun xs H2 => rr x xs H2 Q) fun x δ m res m' e v r F H σ _ hr er rv => by
    split at e
    · rename_i hl
      refine jat_and (P := fun H => tyV K "list" v H) (isLst_ty hl hr rv) ?_
      rcases bind_some e with ⟨xs, m1, e1, e2⟩ | ⟨y, e1, rfl⟩
      · exact (hs δ m _ _ e1 r F H σ hr er).bind re_mon hr fun vs r1 F1 H1 hr1 x1 rvs => hp x xs m1 res m' e2 r1 F1 H1 σ v vs hr1 (rv.mono x1.pre x1.sub) rvs
      · exact (hs δ m _ _ e1 r F H σ hr er).thrown
    · cases e
theorem so_bm0 {rr : V → List V → Hp → VK → Prop} {p : D → List D → Store → MX D} (hp : SM K W rr p) (ho : So K W (RE K) ta a) : So K W (RE K) (tBM0 K "list" rr ta) (eBM0 p a) :=
  So.bind re_mon ho (k := fun (x : D) δ m => if isLst m x = true then p x [] m else none) (u := fun (x : V) σ H Q => tyV K "list" x H ∧ rr x [] H Q) fun x δ m res m' e v r F H σ _ hr er rv => by
    split at e
    · rename_i hl
      exact jat_and (P := fun H => tyV K "list" v H) (isLst_ty hl hr rv) (hp x [] m res m' e r F H σ v [] hr rv .nil)
    · cases e
/-- the cell's list -/
def cellL (m : Store) : D → Option (Nat × List D)
  | .cell k => match m[k]? with
    | some (.lst xs) => some (k, xs)
    | _ => none
  | _ => none
theorem cellL_get {m : Store} {d : D} {r : List Addr} {F H : Hp} {v : V} {k : Nat} {xs : List D} (h : cellL m d = some (k, xs)) (hr : HR K r F H m) (p : Rep K r F v d) : ∃ a vs, v = .ref a ∧ r[k]? = some a ∧ m[k]? = some (.lst xs) ∧ H a = some (.lst vs) ∧ RepAll K r F vs xs := by
  cases d with
  | cell k' =>
    unfold cellL at h
    dsimp only at h
    split at h
    · rename_i ys e
      cases h
      cases p with
      | cell ea =>
        obtain ⟨_, vs, h1, h2⟩ := hr.cell _ _ _ ea e rfl
        exact ⟨_, _, rfl, ea, e, h1, h2⟩
    · cases h
  | _ => cases h
theorem putL {r : List Addr} {F H : Hp} {m : Store} {k : Nat} {a : Addr} {vs ws : List V} {xs ys : List D} (hr : HR K r F H m) (ea : r[k]? = some a) (hk : m[k]? = some (.lst xs)) (h1 : H a = some (.lst vs)) (q : RepAll K r F ws ys) :
    HR K r F (upd H a (.lst ws)) (m.set k (.lst ys)) ∧ Ext r F H m r F (upd H a (.lst ws)) (m.set k (.lst ys)) :=
  have lv : live m k := ⟨_, hk, rfl⟩
  ⟨hr.put lv ea (fun b z => by rw [h1] at z; cases z) ⟨_, upd_same, q⟩, Ext.put hr lv ea⟩
def pAppend : D → List D → Store → MX D := fun x as m => match as with
  | [d] => (cellL m x).bind fun p => if p.2.length < 100000 then ret .non (m.set p.1 (.lst (p.2 ++ [d]))) else none
  | _ => none
theorem sm_pAppend : SM K W rAppend pAppend := fun x xs m res m' e r F H σ v vs hr px ps => by
  unfold pAppend at e
  split at e
  · rename_i d
    cases h0 : cellL m x with
    | none => rw [h0] at e; cases e
    | some p =>
      obtain ⟨k, ys⟩ := p
      rw [h0] at e
      simp only [Option.bind_some] at e
      split at e
      · rename_i hl
        cases e
        obtain ⟨a, ws, rfl, ea, hk, h1, h2⟩ := cellL_get h0 hr px
        obtain ⟨y, rfl, py⟩ := rep1 ps
        obtain ⟨z1, z2⟩ := putL hr ea hk h1 (h2.app (.one py))
        exact fun Q q => ⟨_, ws, y, rfl, rfl, h1, Evl.sz_lt (by rw [h2.len]; exact hl), q _ r F _ z1 z2 .non⟩
      · cases e
  · cases e
def pReverse : D → List D → Store → MX D := fun x as m => match as with
  | [] => (cellL m x).bind fun p => ret .non (m.set p.1 (.lst p.2.reverse))
  | _ => none
theorem sm_pReverse : SM K W rReverse pReverse := fun x xs m res m' e r F H σ v vs hr px ps => by
  unfold pReverse at e
  split at e
  · cases h0 : cellL m x with
    | none => rw [h0] at e; cases e
    | some p =>
      obtain ⟨k, ys⟩ := p
      rw [h0] at e
      cases e
      obtain ⟨a, ws, rfl, ea, hk, h1, h2⟩ := cellL_get h0 hr px
      cases ps
      obtain ⟨z1, z2⟩ := putL hr ea hk h1 h2.rev
      exact fun Q q => ⟨_, ws, rfl, rfl, h1, q _ r F _ z1 z2 .non⟩
  · cases e
theorem RepAll.erase {r : List Addr} {F : Hp} : ∀ {vs : List V} {ds : List D} (i : Nat), RepAll K r F vs ds → RepAll K r F (vs.eraseIdx i) (ds.eraseIdx i)
  | _, _, _, .nil => .nil
  | _, _, 0, .cons _ t => t
  | _, _, i + 1, .cons q t => .cons q (RepAll.erase i t)
theorem RepAll.dropLast {r : List Addr} {F : Hp} {vs : List V} {ds : List D} (h : RepAll K r F vs ds) : RepAll K r F vs.dropLast ds.dropLast := by
  rw [List.dropLast_eq_take, List.dropLast_eq_take, h.len]; exact h.take _
def pPop : D → List D → Store → MX D := fun x as m => match as with
  | [] => (cellL m x).bind fun p => (p.2[p.2.length - 1]?).bind fun d => ret d (m.set p.1 (.lst p.2.dropLast))
  | _ => none
theorem sm_pPop : SM K W rPop pPop := fun x xs m res m' e r F H σ v vs hr px ps => by
  unfold pPop at e
  split at e
  · cases h0 : cellL m x with
    | none => rw [h0] at e; cases e
    | some p =>
      obtain ⟨k, ys⟩ := p
      rw [h0] at e
      simp only [Option.bind_some] at e
      cases hd : ys[ys.length - 1]? with
      | none => rw [hd] at e; cases e
      | some d =>
        rw [hd] at e
        cases e
        obtain ⟨a, ws, rfl, ea, hk, h1, h2⟩ := cellL_get h0 hr px
        cases ps
        obtain ⟨z1, z2⟩ := putL hr ea hk h1 h2.dropLast
        obtain ⟨y, ey, py⟩ := h2.get hd
        exact fun Q q => ⟨_, ws, y, rfl, rfl, h1, by rw [h2.len]; exact ey, q _ r F _ z1 z2 py⟩
  · cases e
open Classical in
noncomputable def pPopAt : D → List D → Store → MX D := fun x as m => match as with
  | [.int i] => (cellL m x).bind fun p => if Rg62 i then (seqIndex? i p.2.length).bind fun j => (p.2[j]?).bind fun d => ret d (m.set p.1 (.lst (p.2.eraseIdx j))) else none
  | _ => none
theorem sm_pPopAt : SM K W rPopAt pPopAt := fun x xs m res m' e r F H σ v vs hr px ps => by
  unfold pPopAt at e
  split at e
  · rename_i i
    cases h0 : cellL m x with
    | none => rw [h0] at e; cases e
    | some p =>
      obtain ⟨k, ys⟩ := p
      rw [h0] at e
      simp only [Option.bind_some] at e
      split at e
      · rename_i hb
        cases hj : seqIndex? i ys.length with
        | none => rw [hj] at e; cases e
        | some j =>
          rw [hj] at e
          simp only [Option.bind_some] at e
          cases hd : ys[j]? with
          | none => rw [hd] at e; cases e
          | some d =>
            rw [hd] at e
            cases e
            obtain ⟨a, ws, rfl, ea, hk, h1, h2⟩ := cellL_get h0 hr px
            obtain ⟨y, rfl, py⟩ := rep1 ps
            cases py
            obtain ⟨z1, z2⟩ := putL hr ea hk h1 (h2.erase j)
            obtain ⟨y, ey, py⟩ := h2.get hd
            exact fun Q q => ⟨_, ws, i, j, y, rfl, rfl, h1, hb.wide.1, hb.wide.2, by rw [h2.len]; exact hj, ey, q _ r F _ z1 z2 py⟩
      · cases e
  · cases e
end
/-- xs[i] = e -/
def sSetI (e o i : ME) : MS := fun δ m => (e δ m).run δ fun d m => (o δ m).run δ fun x m => (i δ m).run δ fun y m => match y with
  | .int k => (cellL m x).bind fun p => (ixN p.2.length k).bind fun j => some (.nx δ (m.set p.1 (.lst (p.2.set j d))))
  | _ => none
theorem ss_setI {K : PySem.W.Frag} {te to ti : WX → TE} {e o i : ME} (he : ∀ W, So K W (RE K) (te W) e) (ho : ∀ W, So K W (RE K) (to W) o) (hi : ∀ W, So K W (RE K) (ti W) i) : SS K (fun W => tAsg (te W) (gSub (to W) (ti W) rSetL)) (sSetI e o i) := fun W δ m out q r F H σ D hr er h => by
  show te W σ H fun v H1 => to W σ H1 fun o H2 => ti W σ H2 fun i H3 => rSetL o i v H3 fun H4 => D.nx σ H4
  rcases run_some q with ⟨d, m1, e1, q⟩ | ⟨y, m1, e1, rfl⟩
  · refine he W δ m _ _ e1 r F H σ hr er _ fun v r1 F1 H1 hr1 x1 rv => ?_
    have er1 := er.ext x1
    rcases run_some q with ⟨x, m2, e2, q⟩ | ⟨y, m2, e2, rfl⟩
    · refine ho W δ m1 _ _ e2 r1 F1 H1 σ hr1 er1 _ fun ov r2 F2 H2 hr2 x2 rx => ?_
      have er2 := er1.ext x2
      have x02 := x1.trans hr1.len hr.len x2
      rcases run_some q with ⟨y, m3, e3, q⟩ | ⟨y, m3, e3, rfl⟩
      · refine hi W δ m2 _ _ e3 r2 F2 H2 σ hr2 er2 _ fun iv r3 F3 H3 hr3 x3 ry => ?_
        have er3 := er2.ext x3
        have x03 := x02.trans hr2.len hr.len x3
        cases y with
        | int k =>
          dsimp only at q
          cases h0 : cellL m3 x with
          | none => rw [h0] at q; cases q
          | some p =>
            obtain ⟨kk, ys⟩ := p
            rw [h0] at q
            simp only [Option.bind_some] at q
            cases hj : ixN ys.length k with
            | none => rw [hj] at q; cases q
            | some j =>
              rw [hj] at q
              cases q
              cases ry
              obtain ⟨a, ws, rfl, ea, hk, h1, h2⟩ := cellL_get h0 hr3 (rx.mono x3.pre x3.sub)
              obtain ⟨z1, z2⟩ := putL hr3 ea hk h1 (h2.set ((rv.mono x2.pre x2.sub).mono x3.pre x3.sub) j)
              exact ⟨a, ws, k, j, rfl, rfl, h1, by rw [h2.len]; exact hj, h σ r3 F3 _ z1 er3 (x03.trans hr3.len hr.len z2)⟩
        | _ => cases q
      · exact hi W δ m2 _ _ e3 r2 F2 H2 σ hr2 er2 (fun r' F' H' hr' x' => h σ r' F' H' hr' (er2.ext x') (x02.trans hr2.len hr.len x')) _
    · exact ho W δ m1 _ _ e2 r1 F1 H1 σ hr1 er1 (fun r' F' H' hr' x' => h σ r' F' H' hr' (er1.ext x') (x1.trans hr1.len hr.len x')) _
  · exact he W δ m _ _ e1 r F H σ hr er (fun r' F' H' hr' x' => h σ r' F' H' hr' (er.ext x') x') _
/-- x += e of a name -/
def sAug (i : Nat) (f : Int → Int → Int) (e : ME) : MS := fun δ m => match δ[i]? with
  | some (some (.int a)) => (e δ m).run δ fun d m => match d with
    | .int b => some (.nx (δ.set i (some (.int (f a b)))) m)
    | _ => none
  | _ => none
theorem ss_aug {K : PySem.W.Frag} {te : WX → TE} {e : ME} {i : Nat} {f : Int → Int → Int} (he : ∀ W, So K W (RE K) (te W) e) : SS K (fun W => tAug i (te W) (ipI f)) (sAug i f e) := fun W δ m out q r F H σ D hr er h => by
  unfold sAug at q
  split at q
  · rename_i a hi
    obtain ⟨v, ev, pv⟩ := er.2 i _ hi
    cases pv
    refine ⟨_, ev, ?_⟩
    rcases run_some q with ⟨d, m1, e1, q⟩ | ⟨y, m1, e1, rfl⟩
    · refine he W δ m _ _ e1 r F H σ hr er _ fun w r1 F1 H1 hr1 x1 rw => ?_
      cases d with
      | int b =>
        cases q
        cases rw
        exact ⟨a, b, rfl, rfl, h _ r1 F1 H1 hr1 ((er.ext x1).set i (.int _)) x1⟩
      | _ => cases q
    · exact he W δ m _ _ e1 r F H σ hr er (fun r' F' H' hr' x' => h σ r' F' H' hr' (er.ext x') x') _
  · cases q
/-! ### what is walked -/
section
variable {K : PySem.W.Frag} {W : WX} {ta : TE} {tas : TA} {a : ME} {as : MA}
def srcOf : D → List D → List (Nat × List D)
  | .cell k, xs => [(k, xs)]
  | _, _ => []
def wList (e : ME) : MI := fun δ m => (e δ m).bind fun x m => (rdQ m x).bind fun xs => ret ⟨xs, srcOf x xs⟩ m
/-- while the walk's source stays, it reads the same -/
theorem src_stays {m m' : Store} {d : D} {xs : List D} (h : rdQ m d = some xs) (hc : ∀ p ∈ srcOf d xs, m'[p.1]? = some (.lst p.2)) : rdQ m' d = some xs := by
  cases d with
  | lst ys => exact h
  | scr ns => exact h
  | cell k =>
    have := hc (k, xs) (by simp [srcOf])
    show (match m'[k]? with | some (.lst xs) => some xs | _ => none) = some xs
    rw [this]
  | _ => cases h
theorem so_wList (he : So K W (RE K) ta a) : So K W (RI K) (iList K ta) (wList a) :=
  So.bind ri_mon he (k := fun (x : D) δ m => (rdQ m x).bind fun xs => ret (Wk.mk xs (srcOf x xs)) m) (u := fun (x : V) σ H R => ∃ a, x = .ref a ∧ (∃ xs, SqL K H a xs) ∧ R (Itl K a) H) fun x δ m res m' e v r F H σ _ hr er rv => by
    cases h0 : rdQ m x with
    | none => rw [h0] at e; cases e
    | some xs =>
      rw [h0] at e
      cases e
      obtain ⟨p, vs, rfl, hs, _⟩ := rdQ_get h0 hr rv
      refine fun Q q => ⟨_, rfl, ⟨_, hs⟩, q _ r F H hr (Ext.refl hr) fun r' F' H' m' pr sm hr' hC i => ?_⟩
      obtain ⟨p', ws, ep, hs', ra⟩ := rdQ_get (src_stays h0 hC) hr' (rv.mono pr sm)
      cases ep
      refine ⟨fun d hd => ?_, fun hi => ⟨_, hs', by rw [ra.len]; exact hi⟩⟩
      obtain ⟨v, e1, p1⟩ := ra.get hd
      refine ⟨⟨_, v, hs', e1⟩, fun x H'' y => ?_⟩
      obtain ⟨rfl, y⟩ := y
      have := y _ hs'
      rw [e1] at this; cases this
      exact ⟨F', hr', Ext.refl hr', p1⟩
def wTup (e : ME) : MI := fun δ m => (e δ m).bind fun x m => match x with
  | .tup xs => ret ⟨xs, []⟩ m
  | _ => none
theorem so_wTup (he : So K W (RE K) ta a) : So K W (RI K) (iTup K ta) (wTup a) :=
  So.bind ri_mon he (k := fun (x : D) δ m => match x with
    | .tup xs => ret (Wk.mk xs []) m
    | _ => none) (u := fun (x : V) σ H R => ∃ a, x = .ref a ∧ (∃ xs, SqT K H a xs) ∧ R (Itt K a) H) fun x δ m res m' e v r F H σ _ hr er rv => by
    cases x with
    | tup xs =>
      cases e
      cases rv with
      | tup hs ha =>
        refine fun Q q => ⟨_, rfl, ⟨_, SqT.of (hr.sub _ _ hs)⟩, q _ r F H hr (Ext.refl hr) fun r' F' H' m' pr sm hr' _ i => ?_⟩
        have hH := SqT.of (K := K) (hr'.sub _ _ (sm _ _ hs))
        refine ⟨fun d hd => ?_, fun hi => ⟨_, hH, by rw [ha.len]; exact hi⟩⟩
        obtain ⟨v, e1, p⟩ := ha.get hd
        refine ⟨⟨_, v, hH, e1⟩, fun x H'' y => ?_⟩
        obtain ⟨rfl, y⟩ := y
        have := y _ hH
        rw [e1] at this; cases this
        exact ⟨F', hr', Ext.refl hr', p.mono pr sm⟩
    | _ => cases e
open Classical in
noncomputable def wRng1 (as : MA) : MI := fun δ m => (as δ m).bind fun xs m => match xs with
  | [.int n] => if Rg62 n then ret ⟨rng 0 n.toNat, []⟩ m else none
  | _ => none
open Classical in
theorem so_wRng1 (hs : So K W (RA K) tas as) : So K W (RI K) (iRng1 tas) (wRng1 as) :=
  So.bind ri_mon hs (k := fun (xs : List D) δ m => match xs with
    | [.int n] => if Rg62 n then ret (Wk.mk (rng 0 n.toNat) []) m else none
    | _ => none) (u := fun (vs : List V) σ H R => ∃ j : Int, vs = [.int j] ∧ -(2 ^ 62) ≤ j ∧ j < 2 ^ 62 ∧ R (Itr 0 j.toNat) H) fun x δ m res m' e v r F H σ _ hr er rv => by
    split at e
    · rename_i n
      split at e
      · rename_i hn
        cases e
        obtain ⟨w, rfl, pw⟩ := rep1 rv
        cases pw
        exact fun Q q => ⟨n, rfl, hn.1, hn.2, q _ r F H hr (Ext.refl hr) itr_ok⟩
      · cases e
    · cases e
open Classical in
noncomputable def wRng2 (as : MA) : MI := fun δ m => (as δ m).bind fun xs m => match xs with
  | [.int a, .int b] => if Rg62 a ∧ Rg62 b then ret ⟨rng a (b - a).toNat, []⟩ m else none
  | _ => none
open Classical in
theorem so_wRng2 (hs : So K W (RA K) tas as) : So K W (RI K) (iRng2 tas) (wRng2 as) :=
  So.bind ri_mon hs (k := fun (xs : List D) δ m => match xs with
    | [.int a, .int b] => if Rg62 a ∧ Rg62 b then ret (Wk.mk (rng a (b - a).toNat) []) m else none
    | _ => none) (u := fun (vs : List V) σ H R => ∃ i j : Int, vs = [.int i, .int j] ∧ (-(2 ^ 62) ≤ i ∧ i < 2 ^ 62 ∧ -(2 ^ 62) ≤ j ∧ j < 2 ^ 62) ∧ R (Itr i (j - i).toNat) H) fun x δ m res m' e v r F H σ _ hr er rv => by
    split at e
    · rename_i n k
      split at e
      · rename_i hn
        cases e
        obtain ⟨w, w2, rfl, pw, pw2⟩ := rep2 rv
        cases pw; cases pw2
        exact fun Q q => ⟨n, k, rfl, ⟨hn.1.1, hn.1.2, hn.2.1, hn.2.2⟩, q _ r F H hr (Ext.refl hr) itr_ok⟩
      · cases e
    · cases e
/-- enumerate(xs), zip(xs, ys) -/
def enumD : Nat → List D → List D
  | _, [] => []
  | n, x :: xs => .tup [.int n, x] :: enumD (n + 1) xs
theorem enumD_get : ∀ {xs : List D} {n i : Nat} {d : D}, (enumD n xs)[i]? = some d → ∃ x, xs[i]? = some x ∧ d = .tup [.int ((n + i : Nat) : Int), x]
  | [], _, _, _, h => by simp [enumD] at h
  | x :: xs, n, 0, d, h => by simp [enumD] at h; exact ⟨x, rfl, by rw [← h]; rfl⟩
  | x :: xs, n, i + 1, d, h => by
    simp [enumD] at h
    obtain ⟨y, h1, h2⟩ := enumD_get h
    refine ⟨y, by simpa using h1, ?_⟩
    rw [h2, show n + 1 + i = n + (i + 1) by omega]
theorem enumD_len : ∀ (xs : List D) (n : Nat), (enumD n xs).length = xs.length
  | [], _ => rfl
  | x :: xs, n => by simp [enumD, enumD_len xs]
def zipD : List D → List D → List D
  | x :: xs, y :: ys => .tup [x, y] :: zipD xs ys
  | _, _ => []
theorem zipD_get : ∀ {xs ys : List D} {i : Nat} {d : D}, (zipD xs ys)[i]? = some d → ∃ x y, xs[i]? = some x ∧ ys[i]? = some y ∧ d = .tup [x, y]
  | [], _, _, _, h => by simp [zipD] at h
  | _ :: _, [], _, _, h => by simp [zipD] at h
  | x :: xs, y :: ys, 0, d, h => by simp [zipD] at h; exact ⟨x, y, rfl, rfl, h.symm⟩
  | x :: xs, y :: ys, i + 1, d, h => by
    simp [zipD] at h
    obtain ⟨a, b, h1, h2, h3⟩ := zipD_get h
    exact ⟨a, b, by simpa using h1, by simpa using h2, h3⟩
theorem zipD_len : ∀ (xs ys : List D), (zipD xs ys).length = min xs.length ys.length
  | [], ys => by simp [zipD]
  | _ :: _, [] => by simp [zipD]
  | x :: xs, y :: ys => by simp [zipD, zipD_len xs ys]
def wEnum (as : MA) : MI := fun δ m => (as δ m).bind fun ds m => match ds with
  | [d] => (rdQ m d).bind fun xs => ret ⟨enumD 0 xs, srcOf d xs⟩ m
  | _ => none
theorem so_wEnum (hs : So K W (RA K) tas as) : So K W (RI K) (iEnum K tas) (wEnum as) :=
  So.bind ri_mon hs (k := fun (ds : List D) δ m => match ds with
    | [d] => (rdQ m d).bind fun xs => ret (Wk.mk (enumD 0 xs) (srcOf d xs)) m
    | _ => none) (u := fun (vs : List V) σ H R => ∃ a xs, vs = [.ref a] ∧ SqL K H a xs ∧ R (Ite K a) H) fun x δ m res m' e v r F H σ _ hr er rv => by
    split at e
    · rename_i d
      cases h0 : rdQ m d with
      | none => rw [h0] at e; cases e
      | some xs =>
        rw [h0] at e
        cases e
        obtain ⟨w, rfl, pw⟩ := rep1 rv
        obtain ⟨p, vs, rfl, hs, _⟩ := rdQ_get h0 hr pw
        refine fun Q q => ⟨_, _, rfl, hs, q _ r F H hr (Ext.refl hr) fun r' F' H' m' pr sm hr' hC i => ?_⟩
        obtain ⟨p', ws, ep, hs', ra⟩ := rdQ_get (src_stays h0 hC) hr' (pw.mono pr sm)
        cases ep
        refine ⟨fun d hd => ?_, fun hi => ⟨_, hs', by rw [ra.len]; rw [enumD_len] at hi; exact hi⟩⟩
        obtain ⟨z, hz, rfl⟩ := enumD_get hd
        obtain ⟨v, e1, p1⟩ := ra.get hz
        refine ⟨⟨_, v, hs', e1⟩, fun x H'' y => ?_⟩
        obtain ⟨T, x, rfl, hT, rfl, y⟩ := y
        have := y _ hs'
        rw [e1] at this; cases this
        have e1 := Ext.laid hr' (o := .tup [.int (i : Int), v]) hT
        refine ⟨_, hr'.laid hT, e1, .tup upd_same ?_⟩
        rw [Nat.zero_add]
        exact .cons (.int _) (.cons (p1.mono (Pre.refl _) e1.sub) .nil)
    · cases e
def wZip (as : MA) : MI := fun δ m => (as δ m).bind fun ds m => match ds with
  | [d, e] => (rdQ m d).bind fun xs => (rdQ m e).bind fun ys => ret ⟨zipD xs ys, srcOf d xs ++ srcOf e ys⟩ m
  | _ => none
theorem so_wZip (hs : So K W (RA K) tas as) : So K W (RI K) (iZip K tas) (wZip as) :=
  So.bind ri_mon hs (k := fun (ds : List D) δ m => match ds with
    | [d, e] => (rdQ m d).bind fun xs => (rdQ m e).bind fun ys => ret (Wk.mk (zipD xs ys) (srcOf d xs ++ srcOf e ys)) m
    | _ => none) (u := fun (vs : List V) σ H R => ∃ a b xs ys, vs = [.ref a, .ref b] ∧ SqL K H a xs ∧ SqL K H b ys ∧ R (Itz K a b) H) fun x δ m res m' e v r F H σ _ hr er rv => by
    split at e
    · rename_i d d2
      cases h0 : rdQ m d with
      | none => rw [h0] at e; cases e
      | some xs =>
        rw [h0] at e
        simp only [Option.bind_some] at e
        cases h1 : rdQ m d2 with
        | none => rw [h1] at e; cases e
        | some ys =>
          rw [h1] at e
          cases e
          obtain ⟨w, w2, rfl, pw, pw2⟩ := rep2 rv
          obtain ⟨p, vs, rfl, hs, _⟩ := rdQ_get h0 hr pw
          obtain ⟨p2, vs2, rfl, hs2, _⟩ := rdQ_get h1 hr pw2
          refine fun Q q => ⟨_, _, _, _, rfl, hs, hs2, q _ r F H hr (Ext.refl hr) fun r' F' H' m' pr sm hr' hC i => ?_⟩
          obtain ⟨p', ws, ep, hs', ra⟩ := rdQ_get (src_stays h0 fun p hp => hC p (List.mem_append_left _ hp)) hr' (pw.mono pr sm)
          cases ep
          obtain ⟨p', ws2, ep, hs2', ra2⟩ := rdQ_get (src_stays h1 fun p hp => hC p (List.mem_append_right _ hp)) hr' (pw2.mono pr sm)
          cases ep
          refine ⟨fun d hd => ?_, fun hi => ⟨_, _, hs', hs2', by rw [ra.len, ra2.len]; rw [zipD_len] at hi; omega⟩⟩
          obtain ⟨z, z2, hz, hz2, rfl⟩ := zipD_get hd
          obtain ⟨v, e1, p1⟩ := ra.get hz
          obtain ⟨v2, e2, p2⟩ := ra2.get hz2
          refine ⟨⟨_, _, v, v2, hs', hs2', e1, e2⟩, fun x H'' y => ?_⟩
          obtain ⟨T, x, x2, rfl, hT, rfl, y, y2⟩ := y
          have q1 := y _ hs'
          rw [e1] at q1; cases q1
          have q2 := y2 _ hs2'
          rw [e2] at q2; cases q2
          have e1 := Ext.laid hr' (o := .tup [v, v2]) hT
          exact ⟨_, hr'.laid hT, e1, .tup upd_same (.cons (p1.mono (Pre.refl _) e1.sub) (.cons (p2.mono (Pre.refl _) e1.sub) .nil))⟩
    · cases e
end
end DL
namespace DL
open PySem PySem.Spec PyProof.Rows L2
/-! ### isinstance of built-in types -/
def tyN (m : Store) : D → Option String
  | .non => some "NoneType"
  | .bl _ => some "bool"
  | .int _ => some "int"
  | .str _ => some "str"
  | .lst _ => some "list"
  | .tup _ => some "tuple"
  | .cell k => match m[k]? with
    | some (.lst _) => some "list"
    | _ => none
  | _ => none
theorem tyN_tn {m : Store} {d : D} {n : String} (h : tyN m d = some n) : Tn m d n := by
  cases d with
  | non => cases h; exact .non
  | bl _ => cases h; exact .bl
  | int _ => cases h; exact .int
  | str _ => cases h; exact .str
  | lst _ => cases h; exact .lst
  | tup _ => cases h; exact .tup
  | cell k =>
    unfold tyN at h
    dsimp only at h
    split at h
    · rename_i e; cases h; exact .cell e
    · cases h
  | scr _ => cases h
  | exc _ => cases h
def isTy (n c : String) : Bool := decide (n = c) || (decide (n = "bool") && decide (c = "int"))
def tyNames : List String := ["NoneType", "bool", "int", "str", "list", "tuple"]
theorem tyN_mem {m : Store} {d : D} {n : String} (h : tyN m d = some n) : n ∈ tyNames := by
  have := tyN_tn h
  cases this <;> decide
def kitAll (c : String) : Bool := tyNames.all fun n => decide (kitB n c = some (isTy n c))
theorem ka_int : kitAll "int" = true := by decide +kernel
theorem ka_bool : kitAll "bool" = true := by decide +kernel
theorem ka_str : kitAll "str" = true := by decide +kernel
theorem ka_list : kitAll "list" = true := by decide +kernel
theorem ka_tuple : kitAll "tuple" = true := by decide +kernel
def eIsT (c : String) (a : ME) : ME := fun δ m => (a δ m).bind fun x m => (tyN m x).bind fun n => ret (.bl (isTy n c)) m
theorem so_isT {K : PySem.W.Frag} {W : WX} {ta : TE} {a : ME} {c : String} (hc : kitAll c = true) (ha : So K W (RE K) ta a) : So K W (RE K) (tCB (rIsi K) (tCons ta (tCons (tC (.ty c)) tNil))) (eIsT c a) :=
  So.bind re_mon ha (k := fun (x : D) δ m => (tyN m x).bind fun n => ret (.bl (isTy n c)) m) (u := fun (x : V) σ H Q => rIsi K [x, .ty c] H Q) fun x δ m res m' e v r F H σ _ hr er rv => by
    cases h : tyN m x with
    | none => rw [h] at e; cases e
    | some n =>
      rw [h] at e
      cases e
      have hb : kitB n c = some (isTy n c) := of_decide_eq_true (List.all_eq_true.mp hc n (tyN_mem h))
      exact y_isi (tyN_tn h) hb r F H v hr rv
/-! ### errors -/
def isXk (c y : Str) : Bool := decide (c = "ShelfError") || (decide (c = "ValueError") || decide (y = c))
def eIsX (ns : List Str) (c : Str) (a : ME) : ME := fun δ m => (a δ m).bind fun x m => match x with
  | .exc y => if y = "ShelfError" ∨ y ∈ ns then ret (.bl (isXk c y)) m else none
  | .non => ret (.bl false) m
  | _ => none
/-- what isinstance asks of a class, by its name -/
structure CK (K : PySem.W.Frag) (ns : List Str) (c : Str) (cv : V) (cu : Value) : Prop where
  cls : ClsV cv cu
  one : ∀ y : Str, y = ("ShelfError" : Str) ∨ y ∈ ns → PySem.W.kitOne K (.ref (ga K y)) cu = some (isXk c y)
  non : PySem.W.kitOne K (.type "NoneType") cu = some false
theorem ck_up {K : PySem.W.Frag} {ns : List Str} (xs : Xs K ns) : CK K ns "ShelfError" (.ref (ga K "ShelfError")) (.ref (ga K "ShelfError")) :=
  ⟨.own _, fun y hy => by
    rcases hy with rfl | hy
    · exact xs.up.s
    · exact (xs.one y hy).s, xs.up.n⟩
theorem ck_ve {K : PySem.W.Frag} {ns : List Str} (xs : Xs K ns) : CK K ns "ValueError" (.ty "ValueError") (.type "ValueError") :=
  ⟨.ty _, fun y hy => by
    rcases hy with rfl | hy
    · exact xs.up.v
    · exact (xs.one y hy).v, xs.nv⟩
theorem ck_one {K : PySem.W.Frag} {ns : List Str} (xs : Xs K ns) {c : Str} (hc : c ∈ ns) (h1 : c ≠ "ShelfError" ∧ c ≠ "ValueError") : CK K ns c (.ref (ga K c)) (.ref (ga K c)) :=
  ⟨.own _, fun y hy => by
    have e : isXk c y = decide (y = c) := by unfold isXk; rw [decide_eq_false h1.1, decide_eq_false h1.2]; rfl
    rw [e]
    rcases hy with rfl | hy
    · rw [xs.down c hc, decide_eq_false (fun z => h1.1 z.symm)]
    · exact xs.kit y hy c hc, (xs.one c hc).n⟩
theorem so_isX {K : PySem.W.Frag} {W : WX} {ta : TE} {a : ME} {ns : List Str} {c : Str} {cv : V} {cu : Value} (xs : Xs K ns) (ck : CK K ns c cv cu) (ha : So K W (RE K) ta a) : So K W (RE K) (tCB (rIsA K) (tCons ta (tCons (tC cv) tNil))) (eIsX ns c a) :=
  So.bind re_mon ha (k := fun (x : D) δ m => match x with
    | .exc y => if y = "ShelfError" ∨ y ∈ ns then ret (.bl (isXk c y)) m else none
    | .non => ret (.bl false) m
    | _ => none) (u := fun (x : V) σ H Q => rIsA K [x, cv] H Q) fun x δ m res m' e v r F H σ _ hr er rv => by
    cases x with
    | exc y =>
      dsimp only at e
      split at e
      · rename_i hy
        cases e
        cases rv with
        | exc h =>
          have hE : ExcC K (ga K y) := by
            rcases hy with rfl | hy
            · exact xs.up.c
            · exact (xs.one y hy).c
          exact fun Q q => .inl ⟨_, ga K y, cv, cu, _, rfl, h.imp (hr.sub _ _) (hr.sub _ _), hE, ck.cls, ck.one y hy, q _ r F H hr (Ext.refl hr) (.bl _)⟩
      · cases e
    | non =>
      cases e
      cases rv
      exact fun Q q => .inr ⟨.non, cv, .type "NoneType", cu, false, rfl, ck.cls, .base .non, ck.non, q _ r F H hr (Ext.refl hr) (.bl _)⟩
    | _ => cases e
def eExc (x : Str) (as : MA) : ME := fun δ m => (as δ m).bind fun _ m => ret (.exc x) m
theorem so_exc {K : PySem.W.Frag} {W : WX} {tas : TA} {as : MA} {x : Str} (hs : So K W (RA K) tas as) : So K W (RE K) (tExc (ga K x) tas) (eExc x as) :=
  So.bind re_mon hs (k := fun (_ : List D) δ m => ret (.exc x) m) (u := fun (_ : List V) σ H Q => ∀ a, H a = none → Q (.ref a) (upd H a (ExO (.ref (ga K x)) a))) fun ds δ m res m' e v r F H σ _ hr er rv => by
    cases e
    exact fun Q q a na => q _ r _ _ (hr.laid na) (Ext.laid hr na) (.exc (.inr upd_same))
/-- try: .. except ShelfError as i: j = i -/
def sTry (ns : List Str) (i j : Nat) (b : MS) : MS := fun δ m => match b δ m with
  | some (.ex x δ1 m1) => if x ∈ ns then some (.nx (((δ1.set i (some (.exc x))).set j (some (.exc x))).set i none) m1) else none
  | o => o
theorem ss_try {K : PySem.W.Frag} {ns : List Str} {i j : Nat} {t : WX → TS} {b : MS} (xs : Xs K ns) (hb : SS K t b) : SS K (fun _ => tTry K (.ref (ga K "ShelfError")) i j t) (sTry ns i j b) := fun W δ m o q => by
  unfold sTry at q
  cases h : b δ m with
  | none => rw [h] at q; cases q
  | some o1 =>
    rw [h] at q
    cases o1 with
    | ex x δ1 m1 =>
      dsimp only at q
      split at q
      · rename_i hx
        cases q
        exact ys_tryX (fun W' => hb W' δ m _ h) (xs.exm x hx)
      · cases q
    | nx δ1 m1 => cases q; exact fun r F H σ D hr er k => hb _ δ m _ h r F H σ D hr er k
    | rt d m1 => cases q; exact fun r F H σ D hr er k => hb _ δ m _ h r F H σ D hr er k
    | bk δ1 m1 => cases q; exact fun r F H σ D hr er k => hb _ δ m _ h r F H σ D hr er k
    | ct δ1 m1 => cases q; exact fun r F H σ D hr er k => hb _ δ m _ h r F H σ D hr er k
/-! ### sorted -/
def isort (ns : List Int) : List Int := ns.mergeSort fun a b => decide (a ≤ b)
theorem isort_perm (ns : List Int) : (isort ns).Perm ns := List.mergeSort_perm _ _
theorem isort_sorted (ns : List Int) : (isort ns).Pairwise (· ≤ ·) := by
  have := List.pairwise_mergeSort (le := fun a b : Int => decide (a ≤ b)) (fun a b c h1 h2 => by simp at *; omega) (fun a b => by simp; omega) ns
  exact this.imp fun h => by simpa using h
theorem isort_uniq {ns ns' : List Int} (h1 : ns'.Perm ns) (h2 : ns'.Pairwise (· ≤ ·)) : ns' = isort ns :=
  List.Perm.eq_of_pairwise (le := (· ≤ ·)) (fun a b _ _ x y => Int.le_antisymm x y) h2 (isort_sorted ns) (h1.trans (isort_perm ns).symm)
def pSortI : List D → Store → MX FT := fun xs m => match xs with
  | [d] => (rdQ m d).bind fun ds => (toInts ds).bind fun ns => ret (.own ((isort ns).map D.int)) m
  | _ => none
theorem sc_pSortI {K : PySem.W.Frag} {W : WX} : SC K W (RF K) (rSortedI K) pSortI := fun xs m res m' e r F H σ vs hr p => by
  unfold pSortI at e
  split at e
  · rename_i d
    cases h0 : rdQ m d with
    | none => rw [h0] at e; cases e
    | some ds =>
      rw [h0] at e
      simp only [Option.bind_some] at e
      cases h1 : toInts ds with
      | none => rw [h1] at e; cases e
      | some ns =>
        rw [h1] at e; cases e
        cases toInts_eq h1
        obtain ⟨v, rfl, pv⟩ := rep1 p
        obtain ⟨a, ws, rfl, hs, ra⟩ := rdQ_get h0 hr pv
        cases ra.ints
        refine fun Q q => ⟨_, _, rfl, hs, fun ns' p' h2 h3 hp' => ?_⟩
        rw [isort_uniq h2 h3]
        obtain ⟨q1, q2, q3⟩ := rf_new hr hp' (repAll_ints (isort ns))
        exact q _ r F _ q1 q2 q3
  · cases e
abbrev Sp2 := Int × Int
def eS (s : Sp2) : D := .tup [.int s.1, .int s.2]
def toPairs : List D → Option (List Sp2)
  | [] => some []
  | .tup [.int a, .int b] :: ds => (toPairs ds).map fun ps => (a, b) :: ps
  | _ :: _ => none
theorem toPairs_map : ∀ ps : List Sp2, toPairs (ps.map eS) = some ps
  | [] => rfl
  | p :: ps => by
    show (toPairs (ps.map eS)).map _ = _
    rw [toPairs_map ps]; rfl
theorem toPairs_eq : ∀ {ds : List D} {ps : List Sp2}, toPairs ds = some ps → ds = ps.map eS
  | [], _, h => by cases h; rfl
  | d :: ds, ps, h => by
    unfold toPairs at h
    split at h
    · rename_i e; cases e
    · rename_i a b ds' e
      cases e
      cases q : toPairs ds with
      | none => rw [q] at h; cases h
      | some qs => rw [q] at h; cases h; rw [toPairs_eq q]; rfl
    · cases h
def lexle (p q : Sp2) : Bool := !SrtO.lexB q p
theorem lexle_iff {p q : Sp2} : lexle p q = true ↔ p.1 < q.1 ∨ (p.1 = q.1 ∧ p.2 ≤ q.2) := by
  unfold lexle
  have h := SrtO.lexB_iff (p := q) (q := p)
  cases z : SrtO.lexB q p with
  | true =>
    have := h.mp z
    simp; omega
  | false =>
    have hn : ¬ (q.1 < p.1 ∨ q.1 = p.1 ∧ q.2 < p.2) := fun w => by rw [h.mpr w] at z; cases z
    simp; omega
def psort (ps : List Sp2) : List Sp2 := ps.mergeSort lexle
theorem psort_perm (ps : List Sp2) : (psort ps).Perm ps := List.mergeSort_perm _ _
theorem psort_sorted (ps : List Sp2) : (psort ps).Pairwise fun p q => lexle p q = true :=
  List.pairwise_mergeSort (le := lexle) (fun a b c h1 h2 => by rw [lexle_iff] at *; omega) (fun a b => by
    by_cases h : lexle a b = true
    · rw [h]; rfl
    · have : lexle b a = true := by rw [lexle_iff] at *; omega
      rw [this]; simp) ps
theorem psort_uniq {ps ps' : List Sp2} (h1 : ps'.Perm ps) (h2 : ps'.Pairwise fun p q => lexle p q = true) : ps' = psort ps :=
  List.Perm.eq_of_pairwise (le := fun p q => lexle p q = true) (fun a b _ _ x y => by
    rw [lexle_iff] at x y
    exact Prod.ext (by omega) (by omega)) h2 (psort_sorted ps) (h1.trans (psort_perm ps).symm)
def keyP (H : Hp) : V → Int × Int
  | .ref t => match H t with
    | some (.tup [.int a, .int b]) => (a, b)
    | _ => (0, 0)
  | _ => (0, 0)
theorem keyP_rep {K : PySem.W.Frag} {r : List Addr} {F H : Hp} (s : Same F H) {v : V} {p : Sp2} (h : Rep K r F v (eS p)) : keyP H v = p ∧ ∃ t, v = .ref t ∧ H t = some (.tup [.int p.1, .int p.2]) := by
  cases h with
  | tup hs ha =>
    obtain ⟨x, y, rfl, px, py⟩ := rep2 ha
    cases px; cases py
    have e := s _ _ hs
    exact ⟨by show (match H _ with | some (.tup [.int a, .int b]) => (a, b) | _ => (0, 0)) = p; rw [e], _, rfl, e⟩
theorem keys_rep {K : PySem.W.Frag} {r : List Addr} {F H : Hp} (s : Same F H) : ∀ {vs : List V} {ps : List Sp2}, RepAll K r F vs (ps.map eS) → vs.map (keyP H) = ps ∧ ∀ v ∈ vs, Rep K r F v (eS (keyP H v))
  | [], [], _ => ⟨rfl, fun v hv => nomatch hv⟩
  | v :: vs, p :: ps, .cons h t => by
    obtain ⟨e1, e2⟩ := keys_rep s t
    obtain ⟨e3, _⟩ := keyP_rep s h
    refine ⟨by rw [List.map_cons, e1, e3], fun w hw => ?_⟩
    rcases List.mem_cons.mp hw with rfl | hw
    · rw [e3]; exact h
    · exact e2 w hw
theorem rep_keys {K : PySem.W.Frag} {r : List Addr} {F : Hp} {k : V → Int × Int} : ∀ {vs : List V}, (∀ v ∈ vs, Rep K r F v (eS (k v))) → RepAll K r F vs ((vs.map k).map eS)
  | [], _ => .nil
  | v :: vs, h => .cons (h v List.mem_cons_self) (rep_keys fun w hw => h w (List.mem_cons_of_mem _ hw))
def pSortP : List D → Store → MX FT := fun xs m => match xs with
  | [d] => (rdQ m d).bind fun ds => (toPairs ds).bind fun ps => ret (.own ((psort ps).map eS)) m
  | _ => none
theorem sc_pSortP {K : PySem.W.Frag} {W : WX} : SC K W (RF K) (rSortedPO K) pSortP := fun xs m res m' e r F H σ vs hr p => by
  unfold pSortP at e
  split at e
  · rename_i d
    cases h0 : rdQ m d with
    | none => rw [h0] at e; cases e
    | some ds =>
      rw [h0] at e
      simp only [Option.bind_some] at e
      cases h1 : toPairs ds with
      | none => rw [h1] at e; cases e
      | some ps =>
        rw [h1] at e; cases e
        cases toPairs_eq h1
        obtain ⟨v, rfl, pv⟩ := rep1 p
        obtain ⟨a, ws, rfl, hs, ra⟩ := rdQ_get h0 hr pv
        obtain ⟨e1, e2⟩ := keys_rep hr.sub ra
        refine fun Q q => ⟨_, ws, keyP H, rfl, hs, fun x hx => (keyP_rep hr.sub (e2 x hx)).2, fun ys p' h2 h3 hp' => ?_⟩
        have hp : ys.Perm ws := h3.perm
        have e3 : ys.map (keyP H) = psort ps := by
          refine psort_uniq ?_ ?_
          · rw [← e1]; exact hp.map _
          · rw [List.pairwise_map]
            exact h2.imp fun {x y} z => by
              show (!SrtO.lexB (keyP H y) (keyP H x)) = true
              rw [show SrtO.lexB (keyP H y) (keyP H x) = false from z]; rfl
        have ra2 : RepAll K r F ys ((psort ps).map eS) := by
          rw [← e3]
          exact rep_keys fun y hy => e2 y (hp.mem_iff.mp hy)
        obtain ⟨q1, q2, q3⟩ := rf_new hr hp' ra2
        exact q _ r F _ q1 q2 q3
  · cases e
/-! ### callees, the law's own call -/
theorem fn_okG {CX : CXT} {P : Program} {w : World} {K : PySem.W.Frag} {mg : Str → Option Value} {base : Heap} {x qual : Str} {params : Arguments} {body : List Stmt} {scope : Scope} {f : Addr} {fd : FuncData} {N ps : List Str} {k n kk : Nat} {b : MS} {ff : FnS}
    (F : FunD K x qual params body scope [] [] f fd) (sc : FnScope N ps scope) (t : WX → TS)
    (hP : ∀ (cdv : Value) (A : Around) (outer : List Env) (s : Shared) (H : Hp) (E : XK), Room k (A.deeper (envOfC qual scope s.heap.objs.size f cdv)) → PSs (cxOf CX P w K mg base N qual scope f cdv A outer s H E) body (t fun cls d _ H' => E cls d H'))
    (hS : SS K t b) (hf : ff = fnOf n kk b) (hn : ps.length = n) (hk : N.length = kk) : FnOk P w K mg base CX (k + 1) f fd ps (spF K ff) := by
  subst hf hn hk
  exact fn_okF F sc t hP hS
def CalF (P : Program) (w : World) (K : PySem.W.Frag) (mg : Str → Option Value) (base : Heap) (x : Str) (k : Nat) (ps : List Str) (f : FnS) : Prop :=
  ∃ fd, FnOk P w K mg base (L2.CX P w) k (He.ga K x) fd ps (spF K f) ∧ Binds K fd ps [] ∧ PySem.W.keepIn K (.ref (He.ga K x)) = true ∧ mg x = some (.ref (He.ga K x))
section
variable {X : Cx} {k : Nat} {ps : List Str} {f : FnS} {x : Str} {p pos : Pos} {e : Expr} {es : List Expr} {t : TA}
theorem pc_own {j : Nat} (C : CalF X.prog X.w X.K X.mg X.base x j ps f) (hr : Room j X.A) (hg : Gl X x) (ha : PA X (e :: es) t) (hdb : (x == ("__debug__" : Str)) = false := by decide)
    (he : starEach (e :: es) X.env = (false, eval e X.env) :: starEach es X.env := by rfl) (hpl : (backTo pos (starEach es X.env)).any (·.1) = false := by rfl) : PE X (.Call (.Name x p) (e :: es) [] pos) (tCall (spF X.K f) [] E0 t) := by
  obtain ⟨fd, F, b, kp, m⟩ := C
  exact pe_call F hr hg m kp b .nil passL ha hdb he hpl
theorem pc_own0 {j : Nat} (C : CalF X.prog X.w X.K X.mg X.base x j ps f) (hr : Room j X.A) (hg : Gl X x) (hdb : (x == ("__debug__" : Str)) = false := by decide) : PE X (.Call (.Name x p) [] [] pos) (tCall (spF X.K f) [] E0 tNil) := by
  obtain ⟨fd, F, b, kp, m⟩ := C
  exact pe_call0 F hr hg m kp b .nil passL hdb
theorem pc_ownS {j : Nat} {W : WX} (C : CalF X.prog X.w X.K X.mg X.base x j ps f) (tk : Takes X W) (hr : Room j X.A) (hg : Gl X x) (ha : PA X (e :: es) t) (hdb : (x == ("__debug__" : Str)) = false := by decide)
    (he : starEach (e :: es) X.env = (false, eval e X.env) :: starEach es X.env := by rfl) (hpl : (backTo pos (starEach es X.env)).any (·.1) = false := by rfl) : PE X (.Call (.Name x p) (e :: es) [] pos) (tCallS (spF X.K f) (WE W) t) := by
  obtain ⟨fd, F, b, kp, m⟩ := C
  exact pe_callS F hr hg m kp b (fun σ => passAt tk σ) ha hdb he hpl
end
theorem law_startF {K : PySem.W.Frag} {f : FnS} {H : Hp} {a : Addr} {ns : List Int} (hS : SqL K H a (ns.map V.int)) {m' : Store} (h : f [.scr ns] [] = some (.ok (.pl (.bl true)), m')) : spF K f [.ref a] H (fun v _ => v = .bl true) (fun _ _ _ => False) :=
  ⟨[], H, [], [.scr ns], .ok (.pl (.bl true)), m', ⟨rfl, Same.refl _, fun k a c e => by simp at e, fun k l a e => by simp at e, fun k a kvs e => by simp at e, fun k l a x y e => by simp at e⟩, .cons (.scr hS) .nil, h, fun v r F H _ _ p => by
    obtain ⟨as, ⟨p, _⟩, _⟩ := p
    cases p; rfl⟩
end DL
/-! Plain proofs about evaluators: what holds behind a run. -/
namespace DL
open PySem PySem.Spec PyProof.Rows L2
def wp {α : Type} (x : MX α) (Q : RX α → Store → Prop) : Prop := match x with
  | some (r, m) => Q r m
  | none => False
def ws (x : Option OT) (Q : OT → Prop) : Prop := match x with
  | some o => Q o
  | none => False
section
variable {α β : Type} {a : α} {m : Store} {x : MX α} {Q Q' : RX α → Store → Prop} {o : OT} {R R' : OT → Prop} {y : Option OT} {δ : En}
theorem wp_some {r : RX α} : wp (some (r, m)) Q = Q r m := rfl
theorem wp_none : wp (none : MX α) Q = False := rfl
theorem ws_some : ws (some o) R = R o := rfl
theorem ws_none : ws none R = False := rfl
theorem wp_mono (h : wp x Q) (k : ∀ r m, Q r m → Q' r m) : wp x Q' := by
  cases x with
  | none => exact h
  | some p => exact k _ _ h
theorem ws_mono (h : ws y R) (k : ∀ o, R o → R' o) : ws y R' := by
  cases y with
  | none => exact h
  | some p => exact k _ h
theorem wp_get (h : wp x Q) : ∃ r m, x = some (r, m) ∧ Q r m := by
  cases x with
  | none => exact h.elim
  | some p => exact ⟨p.1, p.2, rfl, h⟩
theorem ws_get (h : ws y R) : ∃ o, y = some o ∧ R o := by
  cases y with
  | none => exact h.elim
  | some p => exact ⟨p, rfl, h⟩
theorem wp_bind {k : α → Store → MX β} {Q : RX β → Store → Prop} : wp (x.bind k) Q = wp x (fun r m => match r with | .ok a => wp (k a m) Q | .ex y => Q (.ex y) m) := by
  cases x with
  | none => rfl
  | some p =>
    obtain ⟨r, m⟩ := p
    cases r <;> rfl
theorem wp_sure {k : α → Store → MX β} {Q : RX β → Store → Prop} : wp (x.sure k) Q = wp x (fun r m => match r with | .ok a => wp (k a m) Q | .ex _ => False) := by
  cases x with
  | none => rfl
  | some p =>
    obtain ⟨r, m⟩ := p
    cases r <;> rfl
theorem ws_run {k : α → Store → Option OT} : ws (x.run δ k) R = wp x (fun r m => match r with | .ok a => ws (k a m) R | .ex y => R (.ex y δ m)) := by
  cases x with
  | none => rfl
  | some p =>
    obtain ⟨r, m⟩ := p
    cases r <;> rfl
theorem ws_seq {a b : MS} : ws (sSeq a b δ m) R = ws (a δ m) (fun o => match o with | .nx δ m => ws (b δ m) R | o => R o) := by
  unfold sSeq
  cases a δ m with
  | none => rfl
  | some o => cases o <;> rfl
theorem wp_ite {c : Prop} [Decidable c] {x y : MX α} : wp (if c then x else y) Q = if c then wp x Q else wp y Q := by split <;> rfl
theorem ws_ite {c : Prop} [Decidable c] {x y : Option OT} : ws (if c then x else y) R = if c then ws x R else ws y R := by split <;> rfl
end
theorem and_ret {b c : Bool} {m : Store} : cond b (ret (D.bl c) m) (ret (D.bl false) m) = ret (D.bl (b && c)) m := by cases b <;> rfl
theorem or_ret {b c : Bool} {m : Store} : cond b (ret (D.bl true) m) (ret (D.bl c) m) = ret (D.bl (b || c)) m := by cases b <;> rfl
theorem and_retB {b c : Bool} {m : Store} : cond b (ret c m) (ret false m) = ret (b && c) m := by cases b <;> rfl
theorem or_retB {b c : Bool} {m : Store} : cond b (ret true m) (ret c m) = ret (b || c) m := by cases b <;> rfl
theorem wp_cond {α : Type} {b : Bool} {x y : MX α} {Q : RX α → Store → Prop} : wp (cond b x y) Q = ((b = true → wp x Q) ∧ (b = false → wp y Q)) := by cases b <;> simp
theorem ws_cond {b : Bool} {x y : Option OT} {R : OT → Prop} : ws (cond b x y) R = ((b = true → ws x R) ∧ (b = false → ws y R)) := by cases b <;> simp
theorem atI_0 {α : Type} {x : α} {xs : List α} : L2.atI (x :: xs) 0 = some x := by
  rw [atI_of (by omega) (by simp <;> omega)]; rfl
theorem atI_1 {α : Type} {x y : α} {xs : List α} : L2.atI (x :: y :: xs) 1 = some y := by
  rw [atI_of (by omega) (by simp <;> omega)]; rfl
theorem atI_2 {α : Type} {x y z : α} {xs : List α} : L2.atI (x :: y :: z :: xs) 2 = some z := by
  rw [atI_of (by omega) (by simp <;> omega)]; rfl
theorem atI_3 {α : Type} {x y z u : α} {xs : List α} : L2.atI (x :: y :: z :: u :: xs) 3 = some u := by
  rw [atI_of (by omega) (by simp <;> omega)]; rfl
theorem atI_last {α : Type} {xs : List α} {x : α} : L2.atI (xs ++ [x]) (-1) = some x := by
  unfold L2.atI ixN
  have hl : (xs ++ [x]).length = xs.length + 1 := by simp
  rw [if_neg (show ¬ (0 : Int) ≤ -1 by omega), hl, if_pos (show -((xs.length + 1 : Nat) : Int) ≤ -1 by omega)]
  simp only [Option.bind_some]
  have : ((-1 : Int) + ((xs.length + 1 : Nat) : Int)).toNat = xs.length := by omega
  rw [this]; simp
theorem wp_fn {n N : Nat} {b : MS} {ds : List D} {m : Store} {Q : RX FT → Store → Prop} (h : ds.length = n) : wp (fnOf n N b ds m) Q = ws (b (st N ds) m) (fun o => wp (endF m (some o)) Q) := by
  unfold fnOf
  rw [if_pos h]
  cases b (st N ds) m with
  | none => rfl
  | some o => rfl
theorem wp_fnI {n N : Nat} {b : MS} {ds : List D} {m : Store} {Q : RX FT → Store → Prop} (h : ds.length = n) (k : ws (b (st N ds) m) (fun o => wp (endF m (some o)) Q)) : wp (fnOf n N b ds m) Q := by
  rw [wp_fn h]; exact k
theorem endF_rt {m m' : Store} {d : D} : endF m (some (.rt d m')) = finF m d m' := rfl
theorem endF_nx {m m' : Store} {δ : En} : endF m (some (.nx δ m')) = finF m .non m' := rfl
theorem endF_ex {m m' : Store} {δ : En} {x : Str} : endF m (some (.ex x δ m')) = (cutS m m').map fun m => (.ex x, m) := rfl
theorem cut_same {m m' : Store} (h : m'.length = m.length) : cutS m m' = some m' := by unfold cutS; rw [if_pos h]
theorem cut_app {m0 m l : Store} (hl : m.length = m0.length) (ti : Tidy m0 m) : cutS m0 (m ++ l) = some m := by
  unfold cutS
  by_cases hz : (m ++ l).length = m0.length
  · rw [if_pos hz]
    have : l = [] := by
      rw [List.length_append] at hz
      exact List.eq_nil_of_length_eq_zero (by omega)
    subst this
    rw [List.append_nil]
  · rw [if_neg hz]
    have e : (m ++ l).take m0.length = m := by rw [← hl]; simp
    rw [e, if_pos ti]
theorem ixN_lit30 : ixN 3 0 = some 0 := rfl
theorem ixN_lit31 : ixN 3 1 = some 1 := rfl
theorem ixN_lit32 : ixN 3 2 = some 2 := rfl
/-- for, by an invariant over what is left -/
theorem ws_for {g : MG} {b : MS} {c : Store → Prop} {R : OT → Prop} (I : List D → En → Store → Prop) (hc : ∀ l δ m, I l δ m → c m) (hend : ∀ δ m, I [] δ m → R (.nx δ m))
    (step : ∀ x l δ m, I (x :: l) δ m → ∃ δ1, g x δ = some δ1 ∧ ws (b δ1 m) (fun o => match o with | .nx δ m => I l δ m | .ct δ m => I l δ m | .bk δ m => R (.nx δ m) | o => R o)) :
    ∀ {l : List D} {δ : En} {m : Store}, I l δ m → ws (forM g b c l δ m) R
  | [], δ, m, h => by
    unfold forM
    rw [if_pos (hc _ _ _ h)]
    exact hend δ m h
  | x :: l, δ, m, h => by
    unfold forM
    rw [if_pos (hc _ _ _ h)]
    obtain ⟨δ1, e1, h1⟩ := step x l δ m h
    rw [e1]
    simp only [Option.bind_some]
    obtain ⟨o, e2, h2⟩ := ws_get h1
    rw [e2]
    cases o with
    | nx δ m => exact ws_for I hc hend step h2
    | ct δ m => exact ws_for I hc hend step h2
    | bk δ m => exact h2
    | rt d m => exact h2
    | ex y δ m => exact h2
/-- it goes on -/
def Nx (I : En → Store → Prop) (o : OT) : Prop := ∃ δ m, o = .nx δ m ∧ I δ m
theorem nx_nx {I : En → Store → Prop} {δ : En} {m : Store} : Nx I (.nx δ m) = I δ m := propext ⟨fun ⟨_, _, e, h⟩ => by cases e; exact h, fun h => ⟨_, _, rfl, h⟩⟩
/-- for, whose body goes on -/
theorem forN {g : MG} {b : MS} {c : Store → Prop} (I : List D → En → Store → Prop) (hc : ∀ l δ m, I l δ m → c m) (step : ∀ x l δ m, I (x :: l) δ m → ∃ δ1, g x δ = some δ1 ∧ ws (b δ1 m) (Nx (I l))) {l : List D} {δ : En} {m : Store} (h : I l δ m) : ws (forM g b c l δ m) (Nx (I [])) :=
  ws_for (R := Nx (I [])) I hc (fun δ m h => ⟨δ, m, rfl, h⟩) (fun x l δ m h => by
    obtain ⟨δ1, e1, h1⟩ := step x l δ m h
    refine ⟨δ1, e1, ws_mono h1 ?_⟩
    rintro o ⟨δ2, m2, rfl, h2⟩
    exact h2) h
/-- for over typed items -/
theorem ws_forT {α : Type} {g : MG} {b : MS} {c : Store → Prop} {R : OT → Prop} (en : α → D) (I : List α → En → Store → Prop) (hc : ∀ l δ m, I l δ m → c m) (hend : ∀ δ m, I [] δ m → R (.nx δ m))
    (step : ∀ x l δ m, I (x :: l) δ m → ∃ δ1, g (en x) δ = some δ1 ∧ ws (b δ1 m) (fun o => match o with | .nx δ m => I l δ m | .ct δ m => I l δ m | .bk δ m => R (.nx δ m) | o => R o)) {l : List α} {δ : En} {m : Store} (h : I l δ m) : ws (forM g b c (l.map en) δ m) R :=
  ws_for (R := R) (fun l' δ m => ∃ l, l' = l.map en ∧ I l δ m) (fun _ _ _ ⟨l, _, h⟩ => hc l _ _ h) (fun δ m ⟨l, e, h⟩ => by
    cases l with
    | nil => exact hend δ m h
    | cons _ _ => cases e) (fun x l' δ m ⟨l, e, h⟩ => by
    cases l with
    | nil => cases e
    | cons y l =>
      cases e
      obtain ⟨δ1, e1, h1⟩ := step y l δ m h
      refine ⟨δ1, e1, ws_mono h1 fun o h => ?_⟩
      cases o with
      | nx δ m => exact ⟨l, rfl, h⟩
      | ct δ m => exact ⟨l, rfl, h⟩
      | bk δ m => exact h
      | rt d m => exact h
      | ex y δ m => exact h) ⟨l, rfl, h⟩
theorem forT {α : Type} {g : MG} {b : MS} {c : Store → Prop} (en : α → D) (I : List α → En → Store → Prop) (hc : ∀ l δ m, I l δ m → c m) (step : ∀ x l δ m, I (x :: l) δ m → ∃ δ1, g (en x) δ = some δ1 ∧ ws (b δ1 m) (Nx (I l))) {l : List α} {δ : En} {m : Store} (h : I l δ m) : ws (forM g b c (l.map en) δ m) (Nx (I [])) :=
  ws_forT (R := Nx (I [])) en I hc (fun δ m h => ⟨δ, m, rfl, h⟩) (fun x l δ m h => by
    obtain ⟨δ1, e1, h1⟩ := step x l δ m h
    refine ⟨δ1, e1, ws_mono h1 ?_⟩
    rintro o ⟨δ2, m2, rfl, h2⟩
    exact h2) h
/-- for that folds a typed state -/
theorem forF {α S : Type} {g : MG} {b : MS} {c : Store → Prop} (en : α → D) (f : S → α → S) (st : S → En → Store → Prop) (xs : List α) (hc : ∀ s δ m, st s δ m → c m)
    (step : ∀ s x δ m, x ∈ xs → st s δ m → ∃ δ1, g (en x) δ = some δ1 ∧ ws (b δ1 m) (Nx (st (f s x)))) {s0 : S} {δ : En} {m : Store} (h : st s0 δ m) : ws (forM g b c (xs.map en) δ m) (Nx (st (xs.foldl f s0))) := by
  have key := forT (g := g) (b := b) (c := c) en (fun l δ m => ∃ pre, xs = pre ++ l ∧ st (pre.foldl f s0) δ m) (fun l δ m ⟨pre, _, h⟩ => hc _ _ _ h) (fun x l δ m ⟨pre, e, h⟩ => by
    obtain ⟨δ1, e1, h1⟩ := step _ x δ m (by rw [e]; simp) h
    refine ⟨δ1, e1, ws_mono h1 ?_⟩
    rintro o ⟨δ2, m2, rfl, h2⟩
    refine ⟨δ2, m2, rfl, pre ++ [x], by rw [e]; simp, ?_⟩
    rw [List.foldl_append]; exact h2) (l := xs) (δ := δ) (m := m) ⟨[], rfl, h⟩
  refine ws_mono key ?_
  rintro o ⟨δ2, m2, rfl, pre, e, h2⟩
  rw [List.append_nil] at e
  subst e
  exact ⟨δ2, m2, rfl, h2⟩
/-- while, by an invariant and a measure -/
theorem ws_while {t : MT} {b : MS} {R : OT → Prop} (I : Nat → En → Store → Prop)
    (step : ∀ n δ m, I n δ m → wp (t δ m) (fun r m1 => match r with
      | .ok true => ws (b δ m1) (fun o => match o with | .nx δ m => ∃ k, k < n ∧ I k δ m | .ct δ m => ∃ k, k < n ∧ I k δ m | .bk δ m => R (.nx δ m) | o => R o)
      | .ok false => R (.nx δ m1)
      | .ex y => R (.ex y δ m1))) : ∀ {n : Nat} {δ : En} {m : Store}, I n δ m → ws (sWhile t b δ m) R := by
  have key : ∀ N n δ m, n < N → I n δ m → ws (whileN t b N δ m) R := by
    intro N
    induction N with
    | zero => intro n δ m h; omega
    | succ N ih =>
      intro n δ m hn h
      unfold whileN
      obtain ⟨r, m1, e1, h1⟩ := wp_get (step n δ m h)
      rw [e1]
      cases r with
      | ex y => exact h1
      | ok c =>
        cases c with
        | false => exact h1
        | true =>
          rw [run_ok]
          dsimp only [cond] at h1 ⊢
          obtain ⟨o, e2, h2⟩ := ws_get h1
          rw [e2]
          cases o with
          | nx δ m => obtain ⟨k, hk, h2⟩ := h2; exact ih k δ m (by omega) h2
          | ct δ m => obtain ⟨k, hk, h2⟩ := h2; exact ih k δ m (by omega) h2
          | bk δ m => exact h2
          | rt d m => exact h2
          | ex y δ m => exact h2
  intro n δ m h
  obtain ⟨o, e, h2⟩ := ws_get (key (n + 1) n δ m (by omega) h)
  rw [sWhile_eq e]
  exact h2
/-- a comprehension over typed items that changes nothing -/
theorem lcM_pure {α : Type} {g : MG} {t : MT} {e : ME} {c : Store → Prop} {δ : En} {m : Store} (hc : c m) (en : α → D) (p : α → Bool) (f : α → D) : ∀ (ys : List α),
    (∀ y ∈ ys, ∃ δ1, g (en y) δ = some δ1 ∧ t δ1 m = ret (p y) m ∧ (p y = true → e δ1 m = ret (f y) m)) → lcM g t e c δ (ys.map en) m = ret ((ys.filter p).map f) m
  | [], _ => by
    rw [List.map_nil]
    unfold lcM
    rw [if_pos hc]; rfl
  | y :: ys, h => by
    obtain ⟨δ1, e1, e2, e3⟩ := h y List.mem_cons_self
    have ih := lcM_pure hc en p f ys fun z hz => h z (List.mem_cons_of_mem _ hz)
    rw [List.map_cons]
    unfold lcM
    rw [if_pos hc, e1]
    simp only [Option.bind_some]
    rw [e2]
    cases hp : p y with
    | true =>
      show MX.sure (e δ1 m) _ = _
      rw [e3 hp]
      show MX.sure (lcM g t e c δ (ys.map en) m) _ = _
      rw [ih, List.filter_cons, if_pos hp]; rfl
    | false =>
      show lcM g t e c δ (ys.map en) m = _
      rw [ih, List.filter_cons, hp]; rfl
theorem lcM_map {α : Type} {g : MG} {e : ME} {c : Store → Prop} {δ : En} {m : Store} (hc : c m) (en : α → D) (f : α → D) (ys : List α)
    (h : ∀ y ∈ ys, ∃ δ1, g (en y) δ = some δ1 ∧ e δ1 m = ret (f y) m) : lcM g mYes e c δ (ys.map en) m = ret (ys.map f) m := by
  have := lcM_pure (t := mYes) hc en (fun _ => true) f ys fun y hy => by
    obtain ⟨δ1, e1, e2⟩ := h y hy
    exact ⟨δ1, e1, rfl, fun _ => e2⟩
  rwa [List.filter_eq_self.mpr (fun _ _ => rfl)] at this
theorem chk_nil {xs : List D} {m : Store} : (Wk.mk xs []).chk m := fun p hp => nomatch hp
theorem chk_one {xs ys : List D} {k : Nat} {m : Store} (h : m[k]? = some (.lst ys)) : (Wk.mk xs [(k, ys)]).chk m := fun p hp => by
  cases List.mem_singleton.mp hp; exact h
/-! ### conditional steps -/
section
variable {m : Store} {i j : Int} {k : Nat} {xs : List D}
theorem pMul_r (h1 : -18446744073709551616 < j) (h2 : j < 18446744073709551616) : pMul (.int i) (.int j) m = ret (.int (i * j)) m := by
  unfold pMul; dsimp only; rw [if_pos]; exact .inr ⟨h1, h2⟩
theorem pMul_l (h1 : -18446744073709551616 < i) (h2 : i < 18446744073709551616) : pMul (.int i) (.int j) m = ret (.int (i * j)) m := by
  unfold pMul; dsimp only; rw [if_pos]; exact .inl ⟨h1, h2⟩
theorem pMod_pos (h : 0 < j) : pMod (.int i) (.int j) m = ret (.int (i % j)) m := by
  unfold pMod; dsimp only; rw [if_pos h]
theorem pDiv_pos (h : 0 < j) (h2 : j < 618970019642690137449562112) : pDiv (.int i) (.int j) m = ret (.int (i / j)) m := by
  unfold pDiv; dsimp only; rw [if_pos]
  refine wide_div (b := 89) h ?_ (by decide) (by decide)
  have e : (2 ^ 89 : Nat) = 618970019642690137449562112 := rfl
  rw [e]; omega
theorem pPow_ok {n : Nat} (h : n ≤ 1000) (h2 : i.natAbs < 2 ^ 64) : pPow (.int i) (.int (n : Int)) m = ret (.int (i ^ n)) m := by
  unfold pPow; dsimp only; rw [if_pos ⟨by omega, by omega, h2⟩]; simp
theorem pow_12 : pPow (.int 10) (.int 12) m = ret (.int 1000000000000) m := by
  rw [show (12 : Int) = ((12 : Nat) : Int) from rfl, pPow_ok (by omega) (by decide)]; rfl
theorem pow_9 : pPow (.int 10) (.int 9) m = ret (.int 1000000000) m := by
  rw [show (9 : Int) = ((9 : Nat) : Int) from rfl, pPow_ok (by omega) (by decide)]; rfl
theorem pow_18 : pPow (.int 10) (.int 18) m = ret (.int 1000000000000000000) m := by
  rw [show (18 : Int) = ((18 : Nat) : Int) from rfl, pPow_ok (by omega) (by decide)]; rfl
theorem pow_29 : pPow (.int 10) (.int 29) m = ret (.int 100000000000000000000000000000) m := by
  rw [show (29 : Int) = ((29 : Nat) : Int) from rfl, pPow_ok (by omega) (by decide)]; rfl
theorem rdQ_cell (h : m[k]? = some (.lst xs)) : rdQ m (.cell k) = some xs := by unfold rdQ; dsimp only; rw [h]
theorem rdL_cell (h : m[k]? = some (.lst xs)) : rdL m (.cell k) = some xs := by unfold rdL; dsimp only; rw [h]
theorem rdS_cell (h : m[k]? = some (.lst xs)) : rdS m (.cell k) = some xs := by unfold rdS; dsimp only; rw [h]
theorem cellL_cell (h : m[k]? = some (.lst xs)) : cellL m (.cell k) = some (k, xs) := by unfold cellL; dsimp only; rw [h]
theorem isLst_cell (h : m[k]? = some (.lst xs)) : isLst m (.cell k) = true := by unfold isLst; rw [rdQ_cell h]; rfl
theorem vw_cell (h : m[k]? = some (.lst xs)) : vw m (.cell k) = some (.lst xs) := by unfold vw; dsimp only; rw [h]
theorem rdQ_lst : rdQ m (.lst xs) = some xs := rfl
theorem rdL_lst : rdL m (.lst xs) = some xs := rfl
theorem rdS_lst : rdS m (.lst xs) = some xs := rfl
theorem rdS_tup : rdS m (.tup xs) = some xs := rfl
theorem rdQ_scr {ns : List Int} : rdQ m (.scr ns) = some (ns.map D.int) := rfl
theorem rdS_scr {ns : List Int} : rdS m (.scr ns) = some (ns.map D.int) := rfl
theorem vw_lst : vw m (.lst xs) = some (.lst xs) := rfl
theorem vw_tup : vw m (.tup xs) = some (.tup xs) := rfl
/-- a list's emptiness, lists of one kind -/
theorem eqb_nil : eqb (.lst xs) (.lst []) = xs.isEmpty := by
  show PyData.eqv (.list (D.toPys xs)) (.list []) = _
  rw [eqv_nil, toPys_empty]
theorem sh_nil {n : Nat} : Sh (n + 1) (.lst []) := fun x hx => nomatch hx
theorem sh_int {n : Nat} {i : Int} : Sh n (.int i) := by cases n <;> trivial
theorem sh_bl {n : Nat} {i : Bool} : Sh n (.bl i) := by cases n <;> trivial
theorem sh_non {n : Nat} : Sh n .non := by cases n <;> trivial
theorem sh_eS {n : Nat} {s : Sp2} : Sh (n + 1) (eS s) := fun x hx => by
  rcases List.mem_cons.mp hx with rfl | hx
  · exact sh_int
  · cases List.mem_singleton.mp hx; exact sh_int
theorem sh_ints {n : Nat} {ns : List Int} : Sh (n + 1) (.lst (ns.map D.int)) := Sh.map fun _ => sh_int
theorem sh_spans {n : Nat} {ss : List Sp2} : Sh (n + 2) (.lst (ss.map eS)) := Sh.map fun _ => sh_eS
theorem pNeD_nil {d : D} (h : vw m d = some (.lst xs)) (hs : Sh 60 (.lst xs)) : pNeD d (.lst []) m = ret (.bl (!xs.isEmpty)) m := by
  unfold pNeD
  rw [h, vw_lst]
  simp only [Option.bind_some]
  rw [if_pos ⟨hs, sh_nil⟩, eqb_nil]
theorem pEqD_nil {d : D} (h : vw m d = some (.lst xs)) (hs : Sh 60 (.lst xs)) : pEqD d (.lst []) m = ret (.bl xs.isEmpty) m := by
  unfold pEqD
  rw [h, vw_lst]
  simp only [Option.bind_some]
  rw [if_pos ⟨hs, sh_nil⟩, eqb_nil]
theorem isEmpty_map {α β : Type} {f : α → β} {xs : List α} : (xs.map f).isEmpty = xs.isEmpty := by cases xs <;> rfl
end
/-- == of encoded things -/
theorem eqv_ints : ∀ (a b : List Int), PyData.eqvAll (D.toPys (a.map D.int)) (D.toPys (b.map D.int)) = decide (a = b)
  | [], [] => rfl
  | [], b :: bs => rfl
  | a :: as, [] => rfl
  | a :: as, b :: bs => by
    have ih := eqv_ints as bs
    show (PyData.eqv (.int a) (.int b) && PyData.eqvAll (D.toPys (as.map D.int)) (D.toPys (bs.map D.int))) = _
    rw [ih]
    show (decide (a = b) && decide (as = bs)) = _
    by_cases h1 : a = b <;> by_cases h2 : as = bs <;> simp [h1, h2]
theorem eqvAll_map {α : Type} [DecidableEq α] {f : α → D} (h : ∀ a b, eqb (f a) (f b) = decide (a = b)) : ∀ (a b : List α), PyData.eqvAll (D.toPys (a.map f)) (D.toPys (b.map f)) = decide (a = b)
  | [], [] => rfl
  | [], b :: bs => rfl
  | a :: as, [] => rfl
  | a :: as, b :: bs => by
    have ih := eqvAll_map h as bs
    show (eqb (f a) (f b) && PyData.eqvAll (D.toPys (as.map f)) (D.toPys (bs.map f))) = _
    rw [ih, h]
    by_cases h1 : a = b <;> by_cases h2 : as = bs <;> simp [h1, h2]
theorem eqb_int (a b : Int) : eqb (.int a) (.int b) = decide (a = b) := rfl
theorem eqb_eS (a b : Sp2) : eqb (eS a) (eS b) = decide (a = b) := by
  have h := eqv_ints [a.1, a.2] [b.1, b.2]
  show PyData.eqvAll (D.toPys [.int a.1, .int a.2]) (D.toPys [.int b.1, .int b.2]) = _
  refine h.trans ?_
  by_cases h1 : a = b
  · subst h1; simp
  · have : ¬ [a.1, a.2] = [b.1, b.2] := fun e => by
      simp at e; exact h1 (Prod.ext e.1 e.2)
    simp [h1, this]
theorem eqb_lst {α : Type} [DecidableEq α] {f : α → D} (h : ∀ a b, eqb (f a) (f b) = decide (a = b)) (a b : List α) : eqb (.lst (a.map f)) (.lst (b.map f)) = decide (a = b) := eqvAll_map h a b
theorem eqb_ints (a b : List Int) : eqb (.lst (a.map D.int)) (.lst (b.map D.int)) = decide (a = b) := eqb_lst eqb_int a b
theorem eqb_spans (a b : List Sp2) : eqb (.lst (a.map eS)) (.lst (b.map eS)) = decide (a = b) := eqb_lst eqb_eS a b
theorem pEqD_eq {d e x y : D} {m : Store} (h : vw m d = some x) (h2 : vw m e = some y) (s1 : Sh 60 x) (s2 : Sh 60 y) : pEqD d e m = ret (.bl (eqb x y)) m := by
  unfold pEqD
  rw [h, h2]
  simp only [Option.bind_some]
  rw [if_pos ⟨s1, s2⟩]
theorem pNeD_eq {d e x y : D} {m : Store} (h : vw m d = some x) (h2 : vw m e = some y) (s1 : Sh 60 x) (s2 : Sh 60 y) : pNeD d e m = ret (.bl (!eqb x y)) m := by
  unfold pNeD
  rw [h, h2]
  simp only [Option.bind_some]
  rw [if_pos ⟨s1, s2⟩]
/-! ### stores: m with the def's own cells behind -/
theorem len_app (m l : Store) : (m ++ l).length = m.length + l.length := List.length_append
theorem get_app (m l : Store) (i : Nat) : (m ++ l)[m.length + i]? = l[i]? := by
  rw [List.getElem?_append_right (by omega)]; congr 1; omega
theorem get_app0 (m l : Store) : (m ++ l)[m.length]? = l[0]? := get_app m l 0
theorem set_app (m l : Store) (i : Nat) (c : Cell) : (m ++ l).set (m.length + i) c = m ++ l.set i c := by
  rw [List.set_append_right _ _ (by omega)]; congr 2; omega
theorem set_app0 (m l : Store) (c : Cell) : (m ++ l).set m.length c = m ++ l.set 0 c := set_app m l 0 c
theorem take_app (m l : Store) : (m ++ l).take m.length = m := by simp
theorem unds_map {α : Type} {f : α → D} {n : Nat} (h : ∀ x, (f x).und n = true) : ∀ xs : List α, D.unds n (xs.map f) = true
  | [] => rfl
  | x :: xs => by
    show ((f x).und n && D.unds n (xs.map f)) = true
    rw [h x, unds_map h xs]; rfl
theorem unds_ints (n : Nat) (xs : List Int) : D.unds n (xs.map D.int) = true := unds_map (fun _ => rfl) xs
theorem unds_eS (n : Nat) (xs : List Sp2) : D.unds n (xs.map eS) = true := unds_map (fun _ => rfl) xs
theorem unds_bl (n : Nat) (xs : List Bool) : D.unds n (xs.map D.bl) = true := unds_map (fun _ => rfl) xs
/-- a def that leaves the store's length -/
theorem fin_same {m0 m' : Store} {d : D} (h : m'.length = m0.length) : finF m0 d m' = ret (.pl d) m' := by unfold finF; rw [if_pos h]
/-- a def with cells of its own that hands back the one at i -/
theorem fin_own {m0 m l : Store} {i : Nat} {xs : List D} (hl : m.length = m0.length) (ti : Tidy m0 m) (hi : l[i]? = some (.lst xs)) (hu : D.unds m0.length xs = true) : finF m0 (.cell (m0.length + i)) (m ++ l) = ret (.own xs) m := by
  have hlen : i < l.length := (List.getElem?_eq_some_iff.mp hi).1
  unfold finF
  rw [if_neg (by rw [List.length_append]; omega), ← hl, take_app, if_pos ti]
  have e : (m ++ l)[m.length + i]? = some (.lst xs) := by rw [get_app]; exact hi
  show (Option.map F1.ft (if m.length + i < m.length then some (.pl (.cell (m.length + i))) else match (m ++ l)[m.length + i]? with
    | some (.lst xs) => if D.unds m.length xs = true then some (.own xs) else none
    | _ => none)).map _ = _
  rw [if_neg (by omega), e]
  show (Option.map F1.ft (if D.unds m.length xs = true then some (.own xs) else none)).map _ = _
  rw [if_pos (by rw [hl]; exact hu)]; rfl
theorem fin_own0 {m l : Store} {xs : List D} (hu : D.unds m.length xs = true) : finF m (.cell m.length) (m ++ .lst xs :: l) = ret (.own xs) m := fin_own (i := 0) rfl (Tidy.refl _) rfl hu
/-- .. that hands back plain data -/
theorem fin_plain {m0 m l : Store} {d : D} (hl : m.length = m0.length) (ti : Tidy m0 m) (hd : resT m0.length (m ++ l) d = some (.pl d)) : finF m0 d (m ++ l) = ret (.pl d) m := by
  unfold finF
  by_cases hz : (m ++ l).length = m0.length
  · rw [if_pos hz]
    have : l = [] := by
      rw [List.length_append] at hz
      exact List.eq_nil_of_length_eq_zero (by omega)
    subst this
    rw [List.append_nil]
  · rw [if_neg hz]
    have e : (m ++ l).take m0.length = m := by rw [← hl]; exact take_app m l
    rw [e, if_pos ti, hd]; rfl
theorem fin_top {m' : Store} {b : Bool} : finF [] (.bl b) m' = ret (.pl (.bl b)) [] := fin_plain (m0 := []) (m := []) (l := m') rfl (Tidy.refl _) rfl
theorem res_int {n : Nat} {m : Store} {i : Int} : resT n m (.int i) = some (.pl (.int i)) := rfl
theorem res_bl {n : Nat} {m : Store} {i : Bool} : resT n m (.bl i) = some (.pl (.bl i)) := rfl
theorem res_non {n : Nat} {m : Store} : resT n m .non = some (.pl .non) := rfl
theorem res_eS {n : Nat} {m : Store} {s : Sp2} : resT n m (eS s) = some (.pl (eS s)) := by
  unfold resT eS
  dsimp only
  rw [if_pos (show D.unds n [D.int s.1, D.int s.2] = true from rfl)]
theorem tidy_int {m m' : Store} {k : Nat} {ns : List Int} (h : Tidy m m') : Tidy m (m'.set k (.lst (ns.map D.int))) := h.set (unds_ints _ ns)
end DL
/-! sorted(set(xs)), len(set(xs)) of a list of ints, of any length. -/
namespace DL
open PySem PySem.Spec PyProof.Rows L2
abbrev newSet (w : World) : Obj := { cls := .type "set", dict := none, data := .set #[] 0 (.fresh 0 0 (!w.params.followText "set-order")) }
section
variable {P : Program} {w : World} {A : Around} {E : Value → Shared → Prop} {s : Shared}
theorem set_of_list {l : Addr} {its : Array Value} (ns : List Int) {Q : Value → Shared → Prop} (hA : A.handled = none) (hL : s.heap.IsList l its) (hI : IntsAre its.toList ns) (hB : ns.length + 1 < scanBound)
    (hQ : ∀ (g : Heap) (tk c : Nat), SetR w g s.heap.objs.size (fun j => decide (j ∈ ns)) c → (∀ b o, s.heap.get? b = some o → g.get? b = some o) → Q (.ref s.heap.objs.size) { s with heap := g, toks := tk }) :
    wpAny (model P w) A (call (.type "set") [.ref l]) Q E s := by
  have hn : its.size = ns.length := by
    have z := IntsAre.length hI
    rwa [Array.length_toList] at z
  obtain ⟨cc, tt, hmro⟩ := F.called_set.mro
  have hmade := F.called_set.made
  have hsub := F.called_set.sub
  refine wpAny_call (codeAny_of_tree ?_)
  show wpAny _ _ (callAny (.type "set") _) _ _ _
  refine wpAny_pure ⟨Code.quiet_builtin _ (by decide +kernel), codeAny_builtin F.entry_type_call ?_⟩
  rw [Around.under_plain (weight_type_call_type "set" [.ref l] []) rfl]
  have f1 := F.called_set.notType
  have f2 := F.called_set.canCreate
  have f3 := F.typeCall_set_1 (.ref l)
  repeat (any_goals (first | assumption | wp_step))
  refine codeAny_mono (code_set_led1 (.ref l) (E := E) (Q₁ := fun z s₁ => z = .ref s.heap.objs.size ∧ s₁ = { s with heap := s.heap.push (newSet w) }) ⟨rfl, rfl⟩) fun z s₁ hz => ?_
  cases z with
  | error e => exact hz
  | ok fl =>
    cases fl with
    | ret z =>
      obtain ⟨rfl, rfl⟩ := hz
      have g0 : (s.heap.push (newSet w)).get? s.heap.objs.size = some (newSet w) := Heap.get?_push_size _ rfl
      have t0 : Shared.TypeIs { s with heap := s.heap.push (newSet w) } (.ref s.heap.objs.size) "set" := ⟨_, g0, rfl⟩
      have f4 := F.called_set.init.lookup
      have f5 := F.called_set.init.bind (.ref s.heap.objs.size)
      repeat (any_goals (first | assumption | wp_step))
      refine codeAny_mono (codeAny_call_builtin (R := wants (fun z s₂ => z = .none ∧ ∃ g tk c, s₂ = { s with heap := g, toks := tk } ∧ SetR w g s.heap.objs.size (fun j => decide (j ∈ ns)) c ∧
          (∀ b o, s.heap.get? b = some o → g.get? b = some o)) E) F.called_set.init.plain F.entry_set_init (check_set_init_1 t0 ?_)) fun y s₂ hy => ?_
      · obtain ⟨⟨oc, od, oda, osl⟩, ho, hc, nl, hd⟩ := hL
        simp only at hc hd
        subst hc hd
        have ho2 : (s.heap.push (newSet w)).get? l = some { cls := .type "list", dict := od, data := .seq its nl, slots := osl } := Heap.get?_push_of_some _ ho
        have k1 := F.sub_list_set
        have k2 := F.sub_list_frozenset
        have k3 : (Value.type "list" == Value.type "dict") = false := by decide
        have hL2 : (s.heap.push (newSet w)).IsList l its := ⟨_, ho2, rfl, nl, rfl⟩
        unfold Builtin.«set.__init__» noKeywords Builtin.Frozenset.updateFrom
        generalize hPI : pyIter = PI
        wp_walk
        subst hPI
        refine wpAny_pyIter_list hL2 ?_
        refine wpAny_bind (wpAny_runValue ?_)
        have lS : l < s.heap.objs.size := Heap.lt_size ho
        have h3 : A.in1.in1.in1.handled = none := by simp [hA]
        have neI : l ≠ (s.heap.push (newSet w)).objs.size := by
          rw [Heap.size_push]; exact Nat.ne_of_lt (Nat.lt_succ_of_lt lS)
        have notF : s.heap.objs.size ∉ [(s.heap.push (newSet w)).objs.size, l] := by
          rw [Heap.size_push]
          intro hm
          rcases List.mem_cons.mp hm with z | z
          · exact absurd z (Nat.ne_of_lt (Nat.lt_succ_self _))
          · exact absurd (List.mem_singleton.mp z) (Nat.ne_of_gt lS)
        have hv : ∀ (i : Nat) (v : Value), its[i]? = some v → ∃ k t, ns[i]? = some k ∧ v = .int k t := fun i v e => by
          have hi : i < ns.length := by rw [← hn]; exact (Array.getElem?_eq_some_iff.mp e).1
          obtain ⟨t, z⟩ := PyProof.Rows.IntsAre.int_at hI i v (by rw [Array.getElem?_toList]; exact e)
          refine ⟨ns[i], t, List.getElem?_eq_getElem hi, ?_⟩
          rw [z, List.getD_eq_getElem?_getD, List.getElem?_eq_getElem hi] <;> rfl
        refine set_update_ints ((Walks.list h3 _ l neI its).toS) s.heap.objs.size notF ns hn hB hv (its.size - 0) 0 _ (by omega) (Nat.zero_le _) ⟨⟨_, Heap.get?_push_size _ rfl, rfl, rfl⟩, (hL2.push _)⟩ ?start ?fin
        case start =>
          refine ⟨0, Nat.le_refl 0, setR_new_at ?_⟩
          exact Heap.get?_push_of_some _ g0
        case fin =>
          intro s' c' hm _ hS'
          obtain ⟨g, gg, dd, tk', oo⟩ := s'
          have e1 : gg = s.gens := hm.gens
          have e2 : dd = s.drawn := hm.drawn
          have e3 : oo = s.os := hm.os
          subst e1 e2 e3
          show wpAny _ _ _ _ _ _
          refine wpAny_pure ?_
          show wpAny _ _ (PySem.ret Value.none) _ _ _
          refine wpAny_pure ⟨rfl, g, tk', c', rfl, hS', fun b o e => ?_⟩
          have hb0 : b < s.heap.objs.size := Heap.lt_size e
          refine hm.heap b o ?_ (Heap.get?_push_of_some _ (Heap.get?_push_of_some _ e))
          intro hm2
          rcases List.mem_cons.mp hm2 with z | z
          · exact absurd z (Nat.ne_of_lt hb0)
          · have z := List.mem_singleton.mp z
            rw [Heap.size_push] at z
            exact absurd z (Nat.ne_of_lt (Nat.lt_succ_of_lt hb0))
      · cases y with
        | error e => exact hy
        | ok fl₂ =>
          cases fl₂ with
          | ret z =>
            obtain ⟨rfl, g, tk, c', rfl, hS', hk'⟩ := hy
            repeat (any_goals (first | assumption | wp_step))
            exact hQ _ _ _ hS' hk'
          | _ => exact hy.elim
    | _ => exact hz.elim
/-- sorted of a set of ints, however many -/
theorem sorted_of_set {a : Addr} {S : Int → Bool} {n : Nat} {Q : Value → Shared → Prop} (R : SetR w s.heap a S n) (hA : A.handled = none)
    (hQ : ∀ s' p (out : Array Value) (c : Nat) (ns : List Int), (∀ b o, s.heap.get? b = some o → s'.heap.get? b = some o) → s'.gens = s.gens → s'.os = s.os → s.heap.objs.size ≤ p →
      s'.heap.get? p = some (seqObj "list" out c) → IntsAre out.toList ns → ns.Pairwise (· < ·) → (∀ k, k ∈ ns ↔ S k = true) → ns.length ≤ sizeLine → Q (.ref p) s') :
    wpAny (model P w) A (call (.builtin "sorted") [.ref a]) Q E s := by
  obtain ⟨o, es, ep, t, h1, h2, h3, h4, h5, h6, h7, h8, h9, h10, h11⟩ := R
  refine Calls.call_function_entry kind_sorted plain_sorted entry_sorted (args_sorted1 _) ?_
  unfold Builtin.«sorted»
  refine wpAny_bind (m := checkCount "sorted" 1 1 _) (wpAny_pure ?_)
  refine wpAny_bind (collect_set (A := A.in1) hA ⟨o, h1, h2.1, h3⟩ h8 h7 h10 h11 fun s1 us k1 z1 g1 o1 pm => ?_)
  have lz : us.length ≤ sizeLine := by
    rw [pm.length_eq, List.length_map, Array.length_toList]
    exact fits_of_scanBound h7
  have ui : IntsAre us (us.map Builtin.Re.reRawOf) := ints_of us fun v hv => by
    obtain ⟨e, he, q⟩ := List.mem_map.mp (pm.mem_iff.mp hv)
    obtain ⟨k, tk, z, _⟩ := h4 e he
    exact ⟨k, tk, by rw [← q]; exact z⟩
  have pk : (us.map Builtin.Re.reRawOf).Perm (es.toList.map keyOf) := by
    have q := pm.map Builtin.Re.reRawOf
    rwa [List.map_map] at q
  refine wpAny_bind (wpAny_newList ?_ lz)
  have gL : (s1.heap.push (seqObj "list" us.toArray 0)).get? s1.heap.objs.size = some (seqObj "list" us.toArray 0) := Heap.get?_push_size _ rfl
  refine wpAny_bind (wpAny_holding (wpAny_call_entry slot_list_sort ⟨_, gL, rfl⟩ entry_list_sort (SrtO.list_sort_ord SrtO.swo_int gL lz (fun hlen => SrtO.ints_sortable ui hlen) fun out k2 k3 => ⟨_, rfl, ?_⟩) (args_list_sort _)))
  obtain ⟨m1, m2, m3⟩ := SrtO.ints_out ui k2 k3
  obtain ⟨c, hc⟩ := sortedHeap_at (vs := us) (out := out.toArray) gL
  have pn := m2.trans pk
  refine wpAny_pure ⟨_, rfl, hQ _ s1.heap.objs.size out.toArray c (out.map SrtO.iv) (fun b u e => ?_) g1 o1 z1 hc (by simpa using m1) (lt_of_le_nodup _ m3 (pn.nodup_iff.mpr h5)) (fun k => by rw [pn.mem_iff, ← h6 k]) ?_⟩
  · have q := k1 b u e
    have hlt := Heap.lt_size q
    show (sortedHeap (s1.heap.push (seqObj "list" us.toArray 0)) s1.heap.objs.size us out.toArray).get? b = some u
    rw [sortedHeap_old (Nat.ne_of_lt hlt) (by rw [size_push']; exact Nat.lt_succ_of_lt hlt)]
    exact Heap.get?_push_of_some _ q
  · rw [m2.length_eq, List.length_map]; exact lz
end
/-- the list's ints, rising, none twice -/
def undup : List Int → List Int
  | [] => []
  | x :: xs => if x ∈ xs then undup xs else x :: undup xs
theorem undup_mem : ∀ {ns : List Int} {k : Int}, k ∈ undup ns ↔ k ∈ ns
  | [], k => Iff.rfl
  | x :: xs, k => by
    unfold undup
    split
    · rename_i h
      rw [undup_mem]
      exact ⟨List.mem_cons_of_mem _, fun q => by
        rcases List.mem_cons.mp q with rfl | q
        · exact h
        · exact q⟩
    · rw [List.mem_cons, List.mem_cons, undup_mem]
theorem undup_nodup : ∀ ns : List Int, (undup ns).Nodup
  | [] => .nil
  | x :: xs => by
    unfold undup
    split
    · exact undup_nodup xs
    · rename_i h
      exact List.nodup_cons.mpr ⟨fun q => h (undup_mem.mp q), undup_nodup xs⟩
def usort (ns : List Int) : List Int := isort (undup ns)
def tSortSet (K : PySem.W.Frag) (ta : TE) : TE := fun σ H Q => ta σ H fun x H1 => ∃ (l : Addr) (ns : List Int), x = V.ref l ∧ SqL K H1 l (ns.map V.int) ∧ ns.length ≤ 4000 ∧
  ∀ (us : List Int) (p : Addr), us.Pairwise (· < ·) → (∀ k, k ∈ us ↔ k ∈ ns) → H1 p = none → Q (.ref p) (upd H1 p (.lst (us.map V.int)))
theorem pe_sortSet {X : Cx} {a : Expr} {ta : TE} {p p2 q pos : Pos} (hg : Gl X "sorted") (hm : X.mg "sorted" = none) (hg2 : Gl X "set") (hm2 : X.mg "set" = none) (ha : PE X a ta) (hc : X.calm = true := by rfl)
    (na : starEach [a] X.env = (false, eval a X.env) :: starEach [] X.env := by rfl) : PE X (.Call (.Name "sorted" p) [.Call (.Name "set" p2) [a] [] q] [] pos) (tSortSet X.K ta) := by
  refine ⟨fun pins s σ H Q I h => ?_⟩
  refine Call_ (ld_blt I hg hm bt_sorted ?_)
  refine PyProof.Rows.callWith_builtin1 (PyProof.Rows.args_cons ?_ rfl) rfl rfl
  refine Call_ (ld_blt I hg2 hm2 bt_set ?_)
  refine PyProof.Rows.callWith_type1 (PyProof.Rows.args_cons (thn (ha.run pins s σ H _ I h) fun v s1 ⟨x, H1, I1, r1, q1⟩ => PyProof.Rows.args_nil ?_) na) na rfl
  obtain ⟨l, ns, rfl, hq, hl, q1⟩ := q1
  cases r1
  obtain ⟨its, r, pl, hz⟩ := I1.list hq
  have hints := r.ints
  refine set_of_list ns (I1.ok.hd hc) pl.isList (by simpa using hints) (by unfold scanBound; omega) fun g tk c hS hk => ?_
  refine PyProof.Rows.args_nil ?_
  have I2 : Inv X pins σ H1 { s1 with heap := g, toks := tk } := I1.kept fun b o e => hk b o e
  have hS' : SetR X.w ({ s1 with heap := g, toks := tk } : Shared).heap s1.heap.objs.size (fun j => decide (j ∈ ns)) c := hS
  generalize ({ s1 with heap := g, toks := tk } : Shared) = s2 at I2 hS' ⊢
  refine sorted_of_set hS' (I2.ok.hd hc) fun s' p' out c' us k g o hp hg' hi hs hm' hl' => ?_
  have hlen : (us.map V.int).length ≤ sizeLine := by rw [List.length_map]; exact hl'
  have hn : H1 p' = none := I2.hok.fresh hp
  have J : Inv X pins σ (upd H1 p' (.lst (us.map V.int))) { s2 with heap := s'.heap, gens := s'.gens, drawn := s'.drawn, toks := s'.toks } :=
    I2.call (ch := []) (Un.laid k hp hn) (I2.hok.laid k hp ⟨hlen, out.toList, c', vals_of_ints hi, hg'⟩) (by rw [g]; exact I2.bare) (fun _ z => nomatch z)
  have e : s' = { s2 with heap := s'.heap, gens := s'.gens, drawn := s'.drawn, toks := s'.toks } := by
    cases s'
    cases o
    rfl
  rw [e]
  exact ⟨.ref p', _, J, rfl, q1 us p' hs (fun k => by rw [hm' k]; simp) hn⟩
def tLenSetA (K : PySem.W.Frag) (ta : TE) : TE := fun σ H Q => ta σ H fun x H1 => ∃ (l : Addr) (ns : List Int), x = V.ref l ∧ SqL K H1 l (ns.map V.int) ∧ ns.length ≤ 4000 ∧
  ∀ us : List Int, us.Nodup → (∀ k, k ∈ us ↔ k ∈ ns) → Q (.int (us.length : Nat)) H1
theorem pe_lenSetA {X : Cx} {a : Expr} {ta : TE} {p p2 q pos : Pos} (hg : Gl X "len") (hm : X.mg "len" = none) (hg2 : Gl X "set") (hm2 : X.mg "set" = none) (ha : PE X a ta) (hc : X.calm = true := by rfl)
    (na : starEach [a] X.env = (false, eval a X.env) :: starEach [] X.env := by rfl) : PE X (.Call (.Name "len" p) [.Call (.Name "set" p2) [a] [] q] [] pos) (tLenSetA X.K ta) := by
  refine ⟨fun pins s σ H Q I h => ?_⟩
  refine Call_ (ld_blt I hg hm bt_len ?_)
  refine PyProof.Rows.callWith_builtin1 (PyProof.Rows.args_cons ?_ rfl) rfl rfl
  refine Call_ (ld_blt I hg2 hm2 bt_set ?_)
  refine PyProof.Rows.callWith_type1 (PyProof.Rows.args_cons (thn (ha.run pins s σ H _ I h) fun v s1 ⟨x, H1, I1, r1, q1⟩ => PyProof.Rows.args_nil ?_) na) na rfl
  obtain ⟨l, ns, rfl, hq, hl, q1⟩ := q1
  cases r1
  obtain ⟨its, r, pl, hz⟩ := I1.list hq
  refine set_of_list ns (I1.ok.hd hc) pl.isList (by simpa using r.ints) (by unfold scanBound; omega) fun g tk c hS hk => ?_
  refine PyProof.Rows.args_nil ?_
  have I2 : Inv X pins σ H1 { s1 with heap := g, toks := tk } := I1.kept fun b o e => hk b o e
  obtain ⟨o, es, ep, t, h1, h2, h3, h4, h5, h6, h7, h8, h9, _⟩ := hS
  have hz2 : (es.size : Int) < 2 ^ 63 := by unfold scanBound at h7; omega
  refine call_len_set h1 h2 h3 h8 hz2 ⟨.int (es.size : Nat), H1, I2.tok _, ⟨_, rfl⟩, ?_⟩
  have := q1 (es.toList.map keyOf) h5 (fun k => by rw [← h6 k]; simp)
  rwa [List.length_map, Array.length_toList] at this
/-! ### what it comes to -/
theorem usort_mem {ns : List Int} {k : Int} : k ∈ usort ns ↔ k ∈ ns := by
  unfold usort
  rw [(isort_perm _).mem_iff]
  exact undup_mem
theorem usort_lt (ns : List Int) : (usort ns).Pairwise (· < ·) := by
  unfold usort
  refine lt_of_le_nodup _ (isort_sorted _) ((isort_perm _).nodup_iff.mpr ?_)
  exact undup_nodup _
theorem usort_uniq {us ns : List Int} (h1 : us.Pairwise (· < ·)) (h2 : ∀ k, k ∈ us ↔ k ∈ ns) : us = usort ns := by
  have nd : ∀ l : List Int, l.Pairwise (· < ·) → l.Nodup := fun l h => h.imp fun {a b} z e => by omega
  refine List.Perm.eq_of_pairwise (le := (· < ·)) (fun a b _ _ x y => by omega) h1 (usort_lt ns) ?_
  exact (List.perm_ext_iff_of_nodup (nd _ h1) (nd _ (usort_lt ns))).mpr fun k => by rw [h2, usort_mem]
def fSortSet (a : ME) : MF := fun δ m => (a δ m).bind fun x m => (rdQ m x).bind fun ds => (toInts ds).bind fun ns => if ns.length ≤ 4000 then DL.ret (FT.own ((usort ns).map D.int)) m else none
theorem so_sortSet {K : PySem.W.Frag} {W : WX} {ta : TE} {a : ME} (ha : So K W (RE K) ta a) : So K W (RF K) (tSortSet K ta) (fSortSet a) :=
  So.bind rf_mon ha (k := fun (x : D) δ m => (rdQ m x).bind fun ds => (toInts ds).bind fun ns => if ns.length ≤ 4000 then DL.ret (FT.own ((usort ns).map D.int)) m else none)
    (u := fun (x : V) σ H1 Q => ∃ (l : Addr) (ns : List Int), x = V.ref l ∧ SqL K H1 l (ns.map V.int) ∧ ns.length ≤ 4000 ∧
      ∀ (us : List Int) (p : Addr), us.Pairwise (· < ·) → (∀ k, k ∈ us ↔ k ∈ ns) → H1 p = none → Q (.ref p) (upd H1 p (.lst (us.map V.int)))) fun x δ m res m' e v r F H σ _ hr er rv => by
    cases h0 : rdQ m x with
    | none => rw [h0] at e; cases e
    | some ds =>
      rw [h0] at e
      simp only [Option.bind_some] at e
      cases h1 : toInts ds with
      | none => rw [h1] at e; cases e
      | some ns =>
        rw [h1] at e
        simp only [Option.bind_some] at e
        split at e
        · rename_i hl
          cases e
          cases toInts_eq h1
          obtain ⟨p, vs, rfl, hs, ra⟩ := rdQ_get h0 hr rv
          cases ra.ints
          refine fun Q q => ⟨p, ns, rfl, hs, hl, fun us p' z1 z2 hp' => ?_⟩
          rw [usort_uniq z1 z2]
          obtain ⟨q1, q2, q3⟩ := rf_new hr hp' (repAll_ints (usort ns))
          exact q _ r F _ q1 q2 q3
        · cases e
def pLenSet : D → Store → MX D := fun x m => (rdQ m x).bind fun ds => (toInts ds).bind fun ns => if ns.length ≤ 4000 then DL.ret (D.int ((usort ns).length : Nat)) m else none
theorem so_lenSet {K : PySem.W.Frag} {W : WX} {ta : TE} {a : ME} (ha : So K W (RE K) ta a) : So K W (RE K) (tLenSetA K ta) (eUn pLenSet a) :=
  So.bind re_mon ha (k := fun (x : D) δ m => pLenSet x m)
    (u := fun (x : V) σ H1 Q => ∃ (l : Addr) (ns : List Int), x = V.ref l ∧ SqL K H1 l (ns.map V.int) ∧ ns.length ≤ 4000 ∧
      ∀ us : List Int, us.Nodup → (∀ k, k ∈ us ↔ k ∈ ns) → Q (.int (us.length : Nat)) H1) fun x δ m res m' e v r F H σ _ hr er rv => by
    unfold pLenSet at e
    cases h0 : rdQ m x with
    | none => rw [h0] at e; cases e
    | some ds =>
      rw [h0] at e
      simp only [Option.bind_some] at e
      cases h1 : toInts ds with
      | none => rw [h1] at e; cases e
      | some ns =>
        rw [h1] at e
        simp only [Option.bind_some] at e
        split at e
        · rename_i hl
          cases e
          cases toInts_eq h1
          obtain ⟨p, vs, rfl, hs, ra⟩ := rdQ_get h0 hr rv
          cases ra.ints
          refine fun Q q => ⟨p, ns, rfl, hs, hl, fun us z1 z2 => ?_⟩
          have nd : (usort ns).Nodup := (usort_lt ns).imp fun {a b} z e => by omega
          have : us.length = (usort ns).length := ((List.perm_ext_iff_of_nodup z1 nd).mpr fun k => by rw [z2, usort_mem]).length_eq
          rw [this]
          exact q _ r F H hr (Ext.refl hr) (.int _)
        · cases e
end DL
/-! is True, list(range(..)), range of three -/
namespace DL
open PySem PySem.Spec PyProof.Rows L2
section
variable {K : PySem.W.Frag} {W : WX} {ta tb tc : TE} {tas : TA} {a b c : ME} {as : MA}
abbrev oIsB : R2 := fun x y H Q => ∃ a b, x = .bl a ∧ y = .bl b ∧ Q (.bl (decide (a = b))) H
abbrev oNotB : R2 := fun x y H Q => ∃ a b, x = .bl a ∧ y = .bl b ∧ Q (.bl (!decide (a = b))) H
def pIsB : D → D → Store → MX D := fun x y m => match x, y with
  | .bl a, .bl b => ret (.bl (decide (a = b))) m
  | _, _ => none
def pNotB : D → D → Store → MX D := fun x y m => match x, y with
  | .bl a, .bl b => ret (.bl (!decide (a = b))) m
  | _, _ => none
theorem s2_pIsB : S2 K W oIsB pIsB := fun x y m res m' e r F H σ vx vy hr px py => by
  unfold pIsB at e
  split at e
  · cases e; cases px; cases py
    exact fun Q q => ⟨_, _, rfl, rfl, q _ r F H hr (Ext.refl hr) (.bl _)⟩
  · cases e
theorem s2_pNotB : S2 K W oNotB pNotB := fun x y m res m' e r F H σ vx vy hr px py => by
  unfold pNotB at e
  split at e
  · cases e; cases px; cases py
    exact fun Q q => ⟨_, _, rfl, rfl, q _ r F H hr (Ext.refl hr) (.bl _)⟩
  · cases e
/-- list(range(n)), list(range(i, j)) -/
theorem repAll_rg (i j : Int) {r : List Addr} {F : Hp} : RepAll K r F (rgV i j) (rng i (j - i).toNat) := by
  have h := repAll_ints (K := K) (r := r) (F := F) ((List.range (j - i).toNat).map fun k : Nat => i + (k : Int))
  unfold rgV rng
  rw [List.map_map, List.map_map] at h
  exact h
open Classical in
noncomputable def fRg1 (a : ME) : MF := fun δ m => (a δ m).bind fun x m => match x with
  | .int n => if Rg62 n ∧ n ≤ 100000 then ret (.own (rng 0 n.toNat)) m else none
  | _ => none
open Classical in
theorem so_rg1 (ha : So K W (RE K) ta a) : So K W (RF K) (tLstRg (tRg1 ta)) (fRg1 a) :=
  So.bind rf_mon ha (k := fun (x : D) δ m => match x with
    | .int n => if Rg62 n ∧ n ≤ 100000 then ret (FT.own (rng 0 n.toNat)) m else none
    | _ => none) (u := fun (x : V) σ H1 Q => ∃ n, x = .int n ∧ RgOk 0 n ∧ ∀ q, H1 q = none → Q (.ref q) (upd H1 q (.lst (rgV 0 n)))) fun x δ m res m' e v r F H σ _ hr er rv => by
    split at e
    · rename_i n
      split at e
      · rename_i hn
        cases e
        cases rv
        have hh := hn.1
        unfold Rg62 at hh
        refine fun Q q => ⟨n, rfl, ⟨by omega, by omega, by omega, by omega, by omega⟩, fun p hp => ?_⟩
        obtain ⟨q1, q2, q3⟩ := rf_new (xs := rng 0 n.toNat) hr hp (by have := repAll_rg (K := K) (r := r) (F := F) 0 n; rwa [Int.sub_zero] at this)
        exact q _ r F _ q1 q2 q3
      · cases e
    · cases e
end
end DL
/-! sorted of tuples of ints -/
namespace SrtI
open PySem PyProof.Rows Srt SrtO
theorem lex_asym : ∀ {a b : List Int}, HT.lexLt a b = true → HT.lexLt b a = false
  | [], [], h => by cases h
  | [], _ :: _, _ => rfl
  | _ :: _, [], h => by cases h
  | x :: a, y :: b, h => by
    rw [HT.lexLt_cons] at *
    by_cases e : x = y
    · rw [if_pos e] at h; rw [if_pos e.symm]; exact lex_asym h
    · rw [if_neg e] at h; rw [if_neg (fun z => e z.symm)]
      have := of_decide_eq_true h
      exact decide_eq_false (by omega)
theorem lex_tr : ∀ {x y z : List Int}, x.length = y.length → y.length = z.length → HT.lexLt y x = false → HT.lexLt z y = false → HT.lexLt z x = false
  | [], [], [], _, _, _, _ => rfl
  | x :: a, y :: b, z :: c, l1, l2, h1, h2 => by
    rw [HT.lexLt_cons] at *
    have l1' : a.length = b.length := by simpa using l1
    have l2' : b.length = c.length := by simpa using l2
    by_cases e1 : y = x
    · rw [if_pos e1] at h1
      by_cases e2 : z = y
      · rw [if_pos e2] at h2
        rw [if_pos (e2.trans e1)]
        exact lex_tr l1' l2' h1 h2
      · rw [if_neg e2] at h2
        have := of_decide_eq_false h2
        rw [if_neg (by omega)]
        exact decide_eq_false (by omega)
    · rw [if_neg e1] at h1
      have q1 := of_decide_eq_false h1
      by_cases e2 : z = y
      · rw [if_neg (by omega)]; exact decide_eq_false (by omega)
      · rw [if_neg e2] at h2
        have q2 := of_decide_eq_false h2
        rw [if_neg (by omega)]; exact decide_eq_false (by omega)
def cut (d : Nat) (ns : List Int) : List Int := (ns ++ List.replicate d 0).take d
theorem cut_len {d : Nat} {ns : List Int} : (cut d ns).length = d := by simp [cut]
theorem cut_same {d : Nat} {ns : List Int} (h : ns.length = d) : cut d ns = ns := by subst h; simp [cut]
def ltC (d : Nat) (a b : List Int) : Bool := HT.lexLt (cut d a) (cut d b)
theorem swo_tup {α : Type} (d : Nat) (k : α → List Int) : Swo fun v u => ltC d (k v) (k u) :=
  ⟨fun x y h => lex_asym h, fun x y z h1 h2 => lex_tr (by rw [cut_len, cut_len]) (by rw [cut_len, cut_len]) h1 h2⟩
def IsTup (h : Heap) (v : Value) (ns : List Int) : Prop := ∃ a o xs n, v = .ref a ∧ h.get? a = some o ∧ o.cls = .type "tuple" ∧ o.data = .seq xs n ∧ IntsAre xs.toList ns
theorem IsTup.keeps {h h' : Heap} {v : Value} {ns : List Int} (p : IsTup h v ns) (k : ∀ b o, h.get? b = some o → o.cls = .type "tuple" → h'.get? b = some o) : IsTup h' v ns := by
  obtain ⟨a, o, xs, n, e, ho, hc, hd, hi⟩ := p
  exact ⟨a, o, xs, n, e, k _ _ ho hc, hc, hd, hi⟩
section
variable {prog : Program} {w : World} {A : Around} {E : Value → Shared → Prop} {s : Shared}
theorem lexs {b : Bool} {Q : Bool → Shared → Prop} {xs ys : List Value} {ns ms : List Int} (i : Nat) (hx : IntsAre xs ns) (hy : IntsAre ys ms) (hl : ns.length = ms.length)
    (h : Q (HT.lexLt ns ms) s) : PySem.W.KatLex prog w A b false Q (xs.zip ys) i s := by
  induction hx generalizing ys ms i with
  | nil =>
    cases hy with
    | nil => exact PySem.W.kat_nil h
    | cons q u hy => simp at hl
  | @cons p t xs ns hx ih =>
    cases hy with
    | nil => simp at hl
    | @cons q u ys ms hy =>
      have hl' : ns.length = ms.length := by simpa using hl
      show PySem.W.KatLex prog w A b false Q ((Value.int p t, Value.int q u) :: xs.zip ys) i s
      rw [HT.lexLt_cons] at h
      refine PySem.W.kat_cons (SeqAt.EqAt.int_int p t q u prog w _ _ ?_)
      refine PySem.W.kat_go (fun e1 => ?_) (fun e1 => ?_)
      · have e : p = q := by simpa using e1
        rw [if_pos e] at h
        exact PySem.W.kat_yes (ih (i + 1) hy hl' h)
      · have e : ¬ p = q := by simpa using e1
        rw [if_neg e] at h
        exact PySem.W.kat_no (TS.oneLt_ints _ h)
theorem tup_cmp {d : Nat} {vs : List Value} {k : Value → List Int} (hp : ∀ v ∈ vs, (k v).length = d ∧ IsTup s.heap v (k v)) : Cmp prog w A s (tuples' true) (fun p => p.1 ∈ vs) (lt2 fun v u => ltC d (k v) (k u)) := by
  intro p q hm hm'
  obtain ⟨l1, h1⟩ := hp _ hm
  obtain ⟨l2, h2⟩ := hp _ hm'
  show wpAny (model prog w) A (keyLt' (tuples' true) p.1 q.1) (fun r s' => s' = s ∧ r = ltC d (k p.1) (k q.1)) (fun _ _ => False) s
  unfold ltC
  rw [cut_same l1, cut_same l2]
  generalize k p.1 = ns at h1 l1 ⊢
  generalize k q.1 = ms at h2 l2 ⊢
  obtain ⟨a, o, xs, n, e, ho, hc, hd, hi⟩ := h1
  obtain ⟨a', o', xs', n', e', ho', hc', hd', hi'⟩ := h2
  rw [e, e']
  refine PySem.W.kat_lt ho hd ho' hd' ?_
  have z1 : xs.size = ns.length := by rw [← hi.length]; simp
  have z2 : xs'.size = ms.length := by rw [← hi'.length]; simp
  rw [show decide (xs.size < xs'.size) = false from decide_eq_false (by omega)]
  exact lexs 0 hi hi' (by omega) ⟨rfl, rfl⟩
theorem firsts {h : Heap} {d : Nat} {k : Value → List Int} (hd : 1 ≤ d) : ∀ {vs : List Value}, (∀ v ∈ vs, (k v).length = d ∧ IsTup h v (k v)) → ∃ fs : List Value, PySem.W.KatTups h vs fs ∧ fs.length = vs.length ∧ ∀ f ∈ fs, ∃ x t, f = Value.int x t
  | [], _ => ⟨[], PySem.W.KatTups.nil, rfl, fun _ hm => by simp at hm⟩
  | v :: vs, hp => by
    obtain ⟨fs, h1, h2, h3⟩ := firsts hd (vs := vs) fun v' hm => hp v' (List.mem_cons_of_mem _ hm)
    obtain ⟨l, a, o, xs, n, e, ho, hc, hdt, hi⟩ := hp v (List.mem_cons_self ..)
    generalize k v = ns at l hi
    subst e
    cases q : xs.toList with
    | nil => rw [q] at hi; cases hi; simp at l; omega
    | cons y ys =>
      rw [q] at hi
      cases hi with
      | cons x t hi' =>
        have h0 : xs[0]? = some (Value.int x t) := by
          rw [← Array.getElem?_toList, q]; rfl
        refine ⟨.int x t :: fs, PySem.W.KatTups.cons ho hc hdt h0 h1, by rw [List.length_cons, List.length_cons, h2], fun f hm => ?_⟩
        rcases List.mem_cons.mp hm with rfl | hm
        · exact ⟨x, t, rfl⟩
        · exact h3 f hm
theorem tups_sortable {a : Addr} {d : Nat} {vs : List Value} {k : Value → List Int} (hd : 1 ≤ d) (h0 : 0 < vs.length) (hp : ∀ v ∈ vs, (k v).length = d ∧ IsTup s.heap v (k v)) (ha : ∀ o, s.heap.get? a = some o → o.cls ≠ .type "tuple") : SortableO prog w A s a vs fun v u => ltC d (k v) (k u) := by
  intro h' keep
  have hp' : ∀ v ∈ vs, (k v).length = d ∧ IsTup h' v (k v) := fun v hm => ⟨(hp v hm).1, (hp v hm).2.keeps fun b o e c => keep b o (fun z => by subst z; exact ha o e c) e⟩
  obtain ⟨fs, h1, h2, h3⟩ := firsts hd hp'
  refine ⟨tuples' true, fun Q E hq => ?_, tup_cmp hp'⟩
  refine PySem.W.kat_kind (T := .type "int") h1 (by omega) (fun f hm => ?_) (by rfl) ?_
  · obtain ⟨x, t, rfl⟩ := h3 f hm
    exact PySem.W.Looks.now
  · have e : (Value.type "int" != Value.type "tuple") = true := by first | decide +kernel | rfl | decide
    rw [e]
    exact hq
theorem sorted_tups {l : Addr} {d : Nat} {vs : List Value} {k : Value → List Int} {Q : Value → Shared → Prop} (hd1 : 1 ≤ d) (hl : s.heap.IsList l vs.toArray) (hz : vs.length ≤ sizeLine) (hp : ∀ v ∈ vs, (k v).length = d ∧ IsTup s.heap v (k v))
    (h : ∀ (h' : Heap) (p : Addr) (out : List Value), Srtd (fun v u => ltC d (k v) (k u)) out → Stb (fun v u => ltC d (k v) (k u)) out vs → (∀ b o, s.heap.get? b = some o → h'.get? b = some o) → s.heap.objs.size ≤ p → (∃ n, h'.get? p = some (seqObj "list" out.toArray n)) → Q (.ref p) { s with heap := h' }) :
    wpAny (model prog w) A (call (.builtin "sorted") [.ref l]) Q E s := by
  refine sorted_ord (swo_tup d k) hl hz (fun h2 h₁ a ha kk => ?_) fun out hs hb => ?_
  · refine tups_sortable (s := { s with heap := h₁ }) hd1 (by omega) (fun v hm => ⟨(hp v hm).1, (hp v hm).2.keeps fun b o e _ => (kk b o e).2⟩) fun o e => ?_
    have e' : some o = some (seqObj "list" vs.toArray 0) := e.symm.trans ha
    cases e'
    intro c
    exact absurd (Value.type.inj c) (by decide)
  · exact h _ _ out hs hb (fun b o e => sortedAll_old e) (Nat.le_succ _) (sortedAll_at s.heap vs out.toArray)
end
end SrtI
namespace DL
open PySem PySem.Spec PyProof.Rows L2
def rSortedTI (K : PySem.W.Frag) : List V → Hp → VK → Prop := fun vs H Q => ∃ (a : Addr) (xs : List V) (d : Nat) (k : V → List Int), vs = [V.ref a] ∧ 1 ≤ d ∧ SqL K H a xs ∧ (∀ x ∈ xs, (k x).length = d ∧ ∃ t, x = V.ref t ∧ H t = some (.tup ((k x).map V.int))) ∧
  ∀ ys p, SrtO.Srtd (fun x y => SrtI.ltC d (k x) (k y)) ys → SrtO.Stb (fun x y => SrtI.ltC d (k x) (k y)) ys xs → H p = none → Q (.ref p) (upd H p (.lst ys))
theorem ints_of_vals : ∀ {ns : List Int} {us : List Value}, Vals (ns.map V.int) us → IntsAre us ns
  | [], _, .nil => .nil
  | n :: ns, _ :: us, .cons r t => by
    obtain ⟨tk, rfl⟩ := (show ∃ t, _ = Value.int n t from r)
    exact .cons n tk (ints_of_vals t)
section
variable {X : Cx}
theorem cr_sortedTI : CallR X (.builtin "sorted") (rSortedTI X.K) := by
  intro pins s σ H vs us Q I r h
  obtain ⟨a, xs, d, k, rfl, hd, hs, hx, q⟩ := h
  obtain ⟨its, rv, hl, hz⟩ := I.list hs
  obtain ⟨u, rfl, ru⟩ := vals1 r
  obtain rfl : u = Value.ref a := ru
  obtain ⟨e1, e2⟩ := refs_back rv fun x m => by
    obtain ⟨_, t, e, _⟩ := hx x m
    exact ⟨t, e⟩
  refine SrtI.sorted_tups (d := d) (k := fun u => k (backV u)) hd hl.isList (by rw [← rv.length]; exact hz) (fun v hv => ?_) fun h' p out h1 h2 kp hd' hn => ?_
  · obtain ⟨t, rfl⟩ := e2 v hv
    have hm : V.ref t ∈ xs := by rw [e1]; exact List.mem_map.mpr ⟨_, hv, rfl⟩
    obtain ⟨hlen, t', e, ht⟩ := hx _ hm
    cases e
    obtain ⟨_, its2, r2, o, ho, hc, n, hdt⟩ := I.hok _ _ ht
    exact ⟨hlen, t, o, _, n, rfl, ho, hc, hdt, by rw [List.toList_toArray]; exact ints_of_vals r2⟩
  · have h3 : ∀ u ∈ out, ∃ a, u = Value.ref a := fun u hu => e2 u (h2.perm.mem_iff.mp hu)
    obtain ⟨n, hn⟩ := hn
    have hb : SrtO.Stb (fun x y => SrtI.ltC d (k x) (k y)) (out.map backV) xs := by
      rw [e1]
      exact SrtO.Stb.map (SrtI.swo_tup d k) backV h2
    refine ⟨.ref p, upd H p (.lst (out.map backV)), I.laid (t' := s.toks) kp hd' ⟨?_, out, n, vals_back h3, hn⟩, rfl, q _ p (SrtO.srtd_map (lt := fun x y => SrtI.ltC d (k x) (k y)) h1) hb (I.hok.fresh hd')⟩
    rw [hb.len]
    exact hz
end
def eT (ns : List Int) : D := .tup (ns.map D.int)
def toTups (d : Nat) : List D → Option (List (List Int))
  | [] => some []
  | .tup xs :: ds => (toInts xs).bind fun ns => if ns.length = d then (toTups d ds).map fun ps => ns :: ps else none
  | _ :: _ => none
theorem toTups_eq {d : Nat} : ∀ {ds : List D} {ps : List (List Int)}, toTups d ds = some ps → ds = ps.map eT ∧ ∀ p ∈ ps, p.length = d
  | [], _, h => by cases h; exact ⟨rfl, fun p hp => nomatch hp⟩
  | x :: ds, ps, h => by
    unfold toTups at h
    split at h
    · rename_i e; cases e
    · rename_i xs ds' e
      cases e
      cases q : toInts xs with
      | none => rw [q] at h; cases h
      | some ns =>
        rw [q] at h
        simp only [Option.bind_some] at h
        split at h
        · rename_i hl
          cases q2 : toTups d ds with
          | none => rw [q2] at h; cases h
          | some qs =>
            rw [q2] at h; cases h
            obtain ⟨e1, e2⟩ := toTups_eq q2
            cases toInts_eq q
            refine ⟨by rw [e1]; rfl, fun p hp => ?_⟩
            rcases List.mem_cons.mp hp with rfl | hp
            · exact hl
            · exact e2 p hp
        · cases h
    · cases h
theorem toTups_map {d : Nat} : ∀ {ps : List (List Int)}, (∀ p ∈ ps, p.length = d) → toTups d (ps.map eT) = some ps
  | [], _ => rfl
  | p :: ps, h => by
    show (toInts (p.map D.int)).bind _ = _
    rw [toInts_map]
    simp only [Option.bind_some]
    rw [if_pos (h p List.mem_cons_self)]
    show (toTups d (ps.map eT)).map _ = _
    rw [toTups_map fun q hq => h q (List.mem_cons_of_mem _ hq)]; rfl
def tle (d : Nat) (p q : List Int) : Bool := !SrtI.ltC d q p
theorem tle_trans {d : Nat} (a b c : List Int) (h1 : tle d a b = true) (h2 : tle d b c = true) : tle d a c = true := by
  unfold tle at *
  have := (SrtI.swo_tup d (fun x : List Int => x)).tr a b c (by simpa using h1) (by simpa using h2)
  simp [this]
theorem tle_tot {d : Nat} (a b : List Int) : (tle d a b || tle d b a) = true := by
  unfold tle
  cases h : SrtI.ltC d b a with
  | false => rfl
  | true => rw [(SrtI.swo_tup d (fun x : List Int => x)).asym b a h]; rfl
theorem lex_eq : ∀ {x y : List Int}, x.length = y.length → HT.lexLt x y = false → HT.lexLt y x = false → x = y
  | [], [], _, _, _ => rfl
  | x :: a, y :: b, hl, h1, h2 => by
    rw [HT.lexLt_cons] at h1 h2
    by_cases e : x = y
    · rw [if_pos e] at h1; rw [if_pos e.symm] at h2
      rw [e, lex_eq (by simpa using hl) h1 h2]
    · rw [if_neg e] at h1; rw [if_neg (fun z => e z.symm)] at h2
      have := of_decide_eq_false h1
      have := of_decide_eq_false h2
      omega
def tsort (d : Nat) (ps : List (List Int)) : List (List Int) := ps.mergeSort (tle d)
theorem tsort_perm (d : Nat) (ps : List (List Int)) : (tsort d ps).Perm ps := List.mergeSort_perm _ _
theorem tsort_sorted (d : Nat) (ps : List (List Int)) : (tsort d ps).Pairwise fun p q => tle d p q = true := List.pairwise_mergeSort (le := tle d) tle_trans tle_tot ps
theorem tsort_uniq {d : Nat} {ps ps' : List (List Int)} (hd : ∀ p ∈ ps, p.length = d) (h1 : ps'.Perm ps) (h2 : ps'.Pairwise fun p q => tle d p q = true) : ps' = tsort d ps :=
  List.Perm.eq_of_pairwise (le := fun p q => tle d p q = true) (fun a b ha hb x y => by
    have la := hd a (h1.mem_iff.mp ha)
    have lb := hd b ((tsort_perm d ps).mem_iff.mp hb)
    unfold tle SrtI.ltC at x y
    rw [SrtI.cut_same la, SrtI.cut_same lb] at x y
    exact lex_eq (by omega) (by simpa using y) (by simpa using x)) h2 (tsort_sorted d ps) (h1.trans (tsort_perm d ps).symm)
theorem intsD_of {K : PySem.W.Frag} {r : List Addr} {F : Hp} {vs : List V} {ns : List Int} (h : RepAll K r F vs (ns.map D.int)) : vs = ns.map V.int := h.ints
def keyT (H : Hp) : V → List Int
  | .ref t => match H t with
    | some (.tup vs) => vs.map fun v => match v with
      | .int i => i
      | _ => 0
    | _ => []
  | _ => []
theorem keyT_rep {K : PySem.W.Frag} {r : List Addr} {F H : Hp} (s : Same F H) {v : V} {p : List Int} (h : Rep K r F v (eT p)) : keyT H v = p ∧ ∃ t, v = .ref t ∧ H t = some (.tup (p.map V.int)) := by
  cases h with
  | tup hs ha =>
    cases ha.ints
    have e := s _ _ hs
    refine ⟨?_, _, rfl, e⟩
    show (match H _ with | some (.tup vs) => vs.map _ | _ => []) = p
    rw [e]
    show List.map _ (List.map V.int p) = p
    rw [List.map_map]
    exact (List.map_congr_left (g := id) fun _ _ => rfl).trans (List.map_id p)
theorem keysT_rep {K : PySem.W.Frag} {r : List Addr} {F H : Hp} (s : Same F H) : ∀ {vs : List V} {ps : List (List Int)}, RepAll K r F vs (ps.map eT) → vs.map (keyT H) = ps ∧ ∀ v ∈ vs, Rep K r F v (eT (keyT H v))
  | [], [], _ => ⟨rfl, fun v hv => nomatch hv⟩
  | v :: vs, p :: ps, .cons h t => by
    obtain ⟨e1, e2⟩ := keysT_rep s t
    obtain ⟨e3, _⟩ := keyT_rep s h
    refine ⟨by rw [List.map_cons, e1, e3], fun w hw => ?_⟩
    rcases List.mem_cons.mp hw with rfl | hw
    · rw [e3]; exact h
    · exact e2 w hw
theorem repT_keys {K : PySem.W.Frag} {r : List Addr} {F : Hp} {k : V → List Int} : ∀ {vs : List V}, (∀ v ∈ vs, Rep K r F v (eT (k v))) → RepAll K r F vs ((vs.map k).map eT)
  | [], _ => .nil
  | v :: vs, h => .cons (h v List.mem_cons_self) (repT_keys fun w hw => h w (List.mem_cons_of_mem _ hw))
def pSortT (d : Nat) : List D → Store → MX FT := fun xs m => match xs with
  | [x] => if 1 ≤ d then (rdQ m x).bind fun ds => (toTups d ds).bind fun ps => ret (.own ((tsort d ps).map eT)) m else none
  | _ => none
theorem sc_pSortT {d : Nat} {K : PySem.W.Frag} {W : WX} : SC K W (RF K) (rSortedTI K) (pSortT d) := fun xs m res m' e r F H σ vs hr p => by
  unfold pSortT at e
  split at e
  · rename_i x
    split at e
    · rename_i hd
      cases h0 : rdQ m x with
      | none => rw [h0] at e; cases e
      | some ds =>
        rw [h0] at e
        simp only [Option.bind_some] at e
        cases h1 : toTups d ds with
        | none => rw [h1] at e; cases e
        | some ps =>
          rw [h1] at e; cases e
          obtain ⟨z1, z2⟩ := toTups_eq h1
          cases z1
          obtain ⟨v, rfl, pv⟩ := rep1 p
          obtain ⟨a, ws, rfl, hs, ra⟩ := rdQ_get h0 hr pv
          obtain ⟨e1, e2⟩ := keysT_rep hr.sub ra
          have hlen : ∀ x ∈ ws, (keyT H x).length = d := fun x hx => z2 _ (by rw [← e1]; exact List.mem_map.mpr ⟨x, hx, rfl⟩)
          refine fun Q q => ⟨_, ws, d, keyT H, rfl, hd, hs, fun x hx => ⟨hlen x hx, (keyT_rep hr.sub (e2 x hx)).2⟩, fun ys p' h2 h3 hp' => ?_⟩
          have hp : ys.Perm ws := h3.perm
          have e3 : ys.map (keyT H) = tsort d ps := by
            refine tsort_uniq z2 ?_ ?_
            · rw [← e1]; exact hp.map _
            · rw [List.pairwise_map]
              exact h2.imp fun {x y} z => by
                show (!SrtI.ltC d (keyT H y) (keyT H x)) = true
                rw [show SrtI.ltC d (keyT H y) (keyT H x) = false from z]; rfl
          have ra2 : RepAll K r F ys ((tsort d ps).map eT) := by
            rw [← e3]
            exact repT_keys fun y hy => e2 y (hp.mem_iff.mp hy)
          obtain ⟨q1, q2, q3⟩ := rf_new hr hp' ra2
          exact q _ r F _ q1 q2 q3
    · cases e
  · cases e
end DL
/-! a cell taken as data from here on; a list unpacked -/
namespace DL
open PySem PySem.Spec PyProof.Rows L2
section
variable {K : PySem.W.Frag} {r : List Addr} {F H : Hp} {m : Store}
theorem live_gone {k l : Nat} (h : live (m.set k .gone) l) : live m l ∧ l ≠ k := by
  obtain ⟨c, e, ng⟩ := h
  by_cases hk : k = l
  · subst hk
    have hlt : k < (m.set k .gone).length := (List.getElem?_eq_some_iff.mp e).1
    rw [List.getElem?_set_self (by simpa using hlt)] at e
    cases e
    cases ng
  · rw [List.getElem?_set_ne hk] at e
    exact ⟨⟨c, e, ng⟩, fun z => hk z.symm⟩
theorem HR.drop (h : HR K r F H m) (k : Nat) : HR K r F H (m.set k .gone) := by
  refine ⟨by simp [h.len], h.sub, fun l a c e1 e2 ng => ?_, fun l l' a e1 e2 l1 l2 => h.inj l l' a e1 e2 (live_gone l1).1 (live_gone l2).1, fun l a kvs e1 e2 => ?_, fun i j a x y e1 e2 z1 z2 => ?_⟩
  · obtain ⟨⟨c', e3, ng'⟩, hl⟩ := live_gone ⟨c, e2, ng⟩
    rw [List.getElem?_set_ne (fun z => hl z.symm)] at e2
    exact h.cell l a c e1 e2 ng
  · by_cases hl : k = l
    · subst hl
      have hlt : k < (m.set k .gone).length := (List.getElem?_eq_some_iff.mp e2).1
      rw [List.getElem?_set_self (by simpa using hlt)] at e2
      cases e2
    · rw [List.getElem?_set_ne hl] at e2
      exact h.fz l a kvs e1 e2
  · have old : ∀ (i : Nat) x, (m.set k .gone)[i]? = some (.fz x) → m[i]? = some (.fz x) := fun i x e2 => by
      by_cases hl : k = i
      · subst hl
        have hlt : k < (m.set k .gone).length := (List.getElem?_eq_some_iff.mp e2).1
        rw [List.getElem?_set_self (by simpa using hlt)] at e2
        cases e2
      · rw [List.getElem?_set_ne hl] at e2
        exact e2
    exact h.fzi i j a x y e1 e2 (old i x z1) (old j y z2)
theorem frz_ok (h : HR K r F H m) {k : Nat} {xs : List D} {v : V} (p : Rep K r F v (.cell k)) (hk : m[k]? = some (.lst xs)) : ∃ F', HR K r F' H (m.set k .gone) ∧ Ext r F H m r F' H (m.set k .gone) ∧ Rep K r F' v (.lst xs) := by
  cases p with
  | @cell _ a ha =>
    obtain ⟨fa, vs, hv, ra⟩ := h.cell k a _ ha hk rfl
    have lk : live m k := ⟨_, hk, rfl⟩
    have np : ∀ l : Nat, live (m.set k .gone) l → r[l]? ≠ some a := fun l ll e => (live_gone ll).2 (h.inj l k a e ha (live_gone ll).1 lk)
    have hd := (h.drop k).freeze fa np hv
    have sm : Same F (upd F a (.lst vs)) := fun b u e => by rw [upd_ne (ne_of_none e fa)]; exact e
    refine ⟨_, hd, ⟨Pre.refl r, sm, fun _ _ e _ => e, fun b fb e => ?_, fun l b hl e => ?_, fun l _ ll => (live_gone ll).1, by simp, fun _ o e => ⟨o, e⟩⟩, .lst upd_same (ra.mono (Pre.refl r) sm)⟩
    · by_cases hb : b = a
      · subst hb; exact .inr ⟨k, lk, ha⟩
      · rw [upd_ne hb] at e; exact absurd fb e
    · have := (List.getElem?_eq_some_iff.mp e).1
      rw [h.len] at this
      omega
end
def eFrz (a : ME) : ME := fun δ m => (a δ m).bind fun x m => match x with
  | .cell k => match m[k]? with
    | some (.lst xs) => ret (.lst xs) (m.set k .gone)
    | _ => none
  | d => ret d m
section
variable {K : PySem.W.Frag} {W : WX} {ta : TE} {a : ME}
theorem so_frz (ha : So K W (RE K) ta a) : So K W (RE K) ta (eFrz a) := fun δ m res m' e r F H σ hr er => by
  rcases bind_some e with ⟨x, m1, e1, e2⟩ | ⟨y, e1, rfl⟩
  · have h := ha δ m _ _ e1 r F H σ hr er
    cases x with
    | cell k =>
      dsimp only at e2
      split at e2
      · rename_i xs hk
        cases e2
        exact fun Q q => h Q fun v r' F' H' hr' x' rv => by
          obtain ⟨F2, q1, q2, q3⟩ := frz_ok hr' rv hk
          exact q v r' F2 H' q1 (x'.trans hr'.len hr.len q2) q3
      · cases e2
    | _ => cases e2; exact h
  · exact (ha δ m _ _ e1 r F H σ hr er)
/-- a list unpacked -/
def mLst (gs : MGs) : MG := fun d δ => match d with
  | .lst ds => gs ds δ
  | _ => none
theorem sg_lst {gs : TGs} {mgs : MGs} {n : Nat} (hm : Many mgs n) (hs : SGs K gs mgs) : SG K (gUnl K n gs) (mLst mgs) := fun d δ δ' e => by
  cases d with
  | lst ds =>
    intro r F H m σ v hr er p Q q
    cases p with
    | lst h ha => exact ⟨_, _, rfl, SqL.of (hr.sub _ _ h), ha.len.trans (hm.len e), hs ds δ δ' e r F H m σ _ hr er ha Q q⟩
  | _ => cases e
end
end DL
/-! texts of numbers, texts put together; int(truth); insert, index, count of lists -/
namespace DL
open PySem PySem.Spec PyProof.Rows L2
section
variable {K : PySem.W.Frag} {W : WX} {ta tb tc : TE} {tas : TA} {a b c : ME} {as : MA}
abbrev rStrI : List V → Hp → VK → Prop := fun xs H Q => ∃ i, xs = [.int i] ∧ i.natAbs.log2 < 1920 ∧ Q (.str (toString i)) H
def pStrI : List D → Store → MX D := fun xs m => match xs with
  | [.int i] => if i.natAbs.log2 < 1920 then ret (.str (toString i)) m else none
  | _ => none
theorem sc_pStrI : SC K W (RE K) rStrI pStrI := fun xs m res m' e r F H σ vs hr p => by
  unfold pStrI at e
  split at e
  · rename_i i
    split at e
    · rename_i hi
      cases e
      obtain ⟨v, rfl, pv⟩ := rep1 p
      cases pv
      exact fun Q q => ⟨i, rfl, hi, q _ r F H hr (Ext.refl hr) (.str _)⟩
    · cases e
  · cases e
abbrev rInt1 : List V → Hp → VK → Prop := fun xs H Q => (∃ i, xs = [.int i] ∧ Q (.int i) H) ∨ ∃ k, xs = [.bl k] ∧ Q (.int (if k then 1 else 0)) H
def pInt1 : List D → Store → MX D := fun xs m => match xs with
  | [.int i] => ret (.int i) m
  | [.bl k] => ret (.int (if k then 1 else 0)) m
  | _ => none
theorem sc_pInt1 : SC K W (RE K) rInt1 pInt1 := fun xs m res m' e r F H σ vs hr p => by
  unfold pInt1 at e
  split at e
  · cases e
    obtain ⟨v, rfl, pv⟩ := rep1 p
    cases pv
    exact fun Q q => .inl ⟨_, rfl, q _ r F H hr (Ext.refl hr) (.int _)⟩
  · cases e
    obtain ⟨v, rfl, pv⟩ := rep1 p
    cases pv
    exact fun Q q => .inr ⟨_, rfl, q _ r F H hr (Ext.refl hr) (.int _)⟩
  · cases e
abbrev oAddS : R2 := fun x y H Q => ∃ i j, x = .str i ∧ y = .str j ∧ i.length + j.length ≤ sizeLine ∧ Q (.str (i ++ j)) H
def pAddS : D → D → Store → MX D := fun x y m => match x, y with
  | .str i, .str j => if i.length + j.length ≤ 100000 then ret (.str (i ++ j)) m else none
  | _, _ => none
theorem s2_pAddS : S2 K W oAddS pAddS := fun x y m res m' e r F H σ vx vy hr px py => by
  unfold pAddS at e
  split at e
  · split at e
    · rename_i hl
      cases e; cases px; cases py
      exact fun Q q => ⟨_, _, rfl, rfl, Evl.sz_of hl, q _ r F H hr (Ext.refl hr) (.str _)⟩
    · cases e
  · cases e
/-- insert -/
abbrev rInsert : V → List V → Hp → VK → Prop := fun x vs H Q => ∃ (l : Addr) (xs : List V) (i : Int) (y : V), x = .ref l ∧ vs = [.int i, y] ∧ H l = some (.lst xs) ∧ xs.length < sizeLine ∧ 0 ≤ i ∧ i < 2 ^ 63 ∧ Q .non (upd H l (.lst (xs.take i.toNat ++ [y] ++ xs.drop i.toNat)))
open Classical in
noncomputable def pInsert : D → List D → Store → MX D := fun x as m => match as with
  | [.int i, d] => (cellL m x).bind fun p => if p.2.length < 100000 ∧ Rg62 i ∧ 0 ≤ i then ret .non (m.set p.1 (.lst (p.2.take i.toNat ++ [d] ++ p.2.drop i.toNat))) else none
  | _ => none
theorem RepAll.takeN {r : List Addr} {F : Hp} : ∀ {vs : List V} {xs : List D} (n : Nat), RepAll K r F vs xs → RepAll K r F (vs.take n) (xs.take n)
  | _, _, 0, _ => by rw [List.take_zero, List.take_zero]; exact .nil
  | _, _, n + 1, .nil => by rw [List.take_nil, List.take_nil]; exact .nil
  | _, _, n + 1, .cons h t => by rw [List.take_succ_cons, List.take_succ_cons]; exact .cons h (RepAll.takeN n t)
theorem RepAll.dropN {r : List Addr} {F : Hp} : ∀ {vs : List V} {xs : List D} (n : Nat), RepAll K r F vs xs → RepAll K r F (vs.drop n) (xs.drop n)
  | _, _, 0, h => by rw [List.drop_zero, List.drop_zero]; exact h
  | _, _, n + 1, .nil => by rw [List.drop_nil, List.drop_nil]; exact .nil
  | _, _, n + 1, .cons h t => by rw [List.drop_succ_cons, List.drop_succ_cons]; exact RepAll.dropN n t
open Classical in
theorem sm_pInsert : SM K W rInsert pInsert := fun x xs m res m' e r F H σ v vs hr px ps => by
  unfold pInsert at e
  split at e
  · rename_i i d
    cases h0 : cellL m x with
    | none => rw [h0] at e; cases e
    | some p =>
      obtain ⟨k, ys⟩ := p
      rw [h0] at e
      simp only [Option.bind_some] at e
      split at e
      · rename_i hl
        cases e
        obtain ⟨a, ws, rfl, ea, hk, h1, h2⟩ := cellL_get h0 hr px
        obtain ⟨y1, y, rfl, p1, py⟩ := rep2 ps
        cases p1
        obtain ⟨z1, z2⟩ := putL hr ea hk h1 (((h2.takeN i.toNat).app (.one py)).app (h2.dropN i.toNat))
        exact fun Q q => ⟨_, ws, i, y, rfl, rfl, h1, Evl.sz_lt (by rw [h2.len]; exact hl.1), hl.2.2, hl.2.1.wide.2, q _ r F _ z1 z2 .non⟩
      · cases e
  · cases e
/-- count of whole numbers -/
def pCount : D → List D → Store → MX D := fun x as m => match as with
  | [.int k] => (rdQ m x).bind fun ds => (toInts ds).bind fun ns => ret (.int (ns.count k : Nat)) m
  | _ => none
theorem sm_pCount : SM K W (rCntI K) pCount := fun x xs m res m' e r F H σ v vs hr px ps => by
  unfold pCount at e
  split at e
  · rename_i k
    cases h0 : rdQ m x with
    | none => rw [h0] at e; cases e
    | some ds =>
      rw [h0] at e
      simp only [Option.bind_some] at e
      cases h1 : toInts ds with
      | none => rw [h1] at e; cases e
      | some ns =>
        rw [h1] at e; cases e
        cases toInts_eq h1
        obtain ⟨p, ws, rfl, hs, ra⟩ := rdQ_get h0 hr px
        cases ra.ints
        obtain ⟨y, rfl, py⟩ := rep1 ps
        cases py
        exact fun Q q => ⟨_, _, _, rfl, rfl, hs, q _ r F H hr (Ext.refl hr) (.int _)⟩
  · cases e
end
end DL
/-! remove and count over data at any depth -/
namespace DL
open PySem PySem.Spec PyProof.Rows L2
section
variable {X : Cx}
/-- the first item alike goes -/
def rRemD (K : PySem.W.Frag) : V → List V → Hp → VK → Prop := fun x xs H Q => ∃ (l : Addr) (vs : List V) (v : V) (ds : List PyData) (d : PyData) (j : Nat), x = .ref l ∧ xs = [v] ∧ H l = some (.lst vs) ∧ DpAll K H vs ds ∧ Dp K H v d ∧ PyData.plainAll ds = true ∧ d.plain = true ∧ d.depth ≤ 61 ∧ SeqAt.dataPlace ds d = some j ∧ Q .non (upd H l (.lst (vs.eraseIdx j)))
theorem vals_erase : ∀ {vs : List V} {us : List Value} (j : Nat), Vals vs us → Vals (vs.eraseIdx j) (us.eraseIdx j)
  | _, _, _, .nil => .nil
  | _, _, 0, .cons _ h => h
  | _, _, j + 1, .cons r h => .cons r (vals_erase j h)
theorem mt_removeD (hu : X.A.units + 64 < cLine) : MtM X "list.remove" (rRemD X.K) := by
  intro pins s σ H x xs v us Q I rx rxs h
  obtain ⟨l, vs, w, ds, d, j, rfl, rfl, hH, hds, hd, pl, pd, dp, hj, q⟩ := h
  cases rx
  obtain ⟨u, rfl, ru⟩ := rxs.one
  obtain ⟨z, its, n, r, hl, e⟩ := I.lstM hH
  obtain ⟨as, r1⟩ := Dp.readsAll I ds _ its hds r
  obtain ⟨bs, r2⟩ := Dp.reads I d w u hd ru
  have m1 : min (PyData.depthAll ds) d.depth ≤ 61 := Nat.le_trans (Nat.min_le_right _ _) dp
  refine SeqAt.remove_list_data (vs := its.toArray) (xs := ds) (d := d) (j := j) ⟨_, e, rfl, n, rfl⟩ r1 r2 pl pd (by omega) hj (by rw [List.size_toArray]; omega) ?_
  refine ⟨.non, _, I.lset (its' := its.eraseIdx j) (t' := s.toks) hH e ?_ (vals_erase j r) ?_, rfl, q⟩
  · show its.toArray.eraseIdxIfInBounds j = (its.eraseIdx j).toArray
    rw [List.eraseIdxIfInBounds_toArray]
  · have := List.length_eraseIdx_le vs j
    omega
/-- how many are alike -/
def rCntD (K : PySem.W.Frag) : V → List V → Hp → VK → Prop := fun x xs H Q => ∃ (l : Addr) (vs : List V) (v : V) (ds : List PyData) (d : PyData), x = .ref l ∧ xs = [v] ∧ SqL K H l vs ∧ DpAll K H vs ds ∧ Dp K H v d ∧ PyData.plainAll ds = true ∧ d.plain = true ∧ d.depth ≤ 61 ∧ Q (.int ((ds.countP fun y => PyData.eqv y d : Nat) : Int)) H
theorem mt_countD (hu : X.A.units + 64 < cLine) : MtR X "list.count" (rCntD X.K) := by
  intro pins s σ H x xs v us Q I rx rxs h
  obtain ⟨l, vs, w, ds, d, rfl, rfl, hs, hds, hd, pl, pd, dp, q⟩ := h
  cases rx
  obtain ⟨u, rfl, ru⟩ := rxs.one
  obtain ⟨its, rv, ⟨o, n, ho, hc, hdn, hdd⟩, hlen⟩ := I.list hs
  obtain ⟨as, r1⟩ := Dp.readsAll I ds _ its hds rv
  obtain ⟨bs, r2⟩ := Dp.reads I d w u hd ru
  have m1 : min (PyData.depthAll ds) d.depth ≤ 61 := Nat.le_trans (Nat.min_le_right _ _) dp
  exact SeqAt.count_list_data (vs := its.toArray) (xs := ds) (d := d) ⟨o, ho, hc, n, hdd⟩ r1 r2 pl pd (by omega) ⟨.int _, H, I.tok _, ⟨s.toks, rfl⟩, q⟩
end
mutual
theorem plain_toPy : ∀ d : D, d.toPy.plain = true
  | .non => rfl
  | .bl b => rfl
  | .int i => rfl
  | .str x => rfl
  | .lst xs => plain_toPys xs
  | .tup xs => plain_toPys xs
  | .cell _ => rfl
  | .scr ns => by
    show PyData.plainAll (ns.map PyData.int) = true
    induction ns with
    | nil => rfl
    | cons n ns ih => exact ih
  | .exc _ => rfl
theorem plain_toPys : ∀ ds : List D, PyData.plainAll (D.toPys ds) = true
  | [] => rfl
  | d :: ds => by
    show (d.toPy.plain && PyData.plainAll (D.toPys ds)) = true
    rw [plain_toPy d, plain_toPys ds]; rfl
end
section
variable {K : PySem.W.Frag} {W : WX}
/-- where the first one alike stands -/
def plcD (ds : List D) (d : D) : Option Nat := ds.findIdx? fun y => eqb y d
theorem toPys_map : ∀ ds : List D, D.toPys ds = ds.map D.toPy
  | [] => rfl
  | d :: ds => congrArg (d.toPy :: ·) (toPys_map ds)
theorem plc_py (ds : List D) (d : D) : SeqAt.dataPlace (D.toPys ds) d.toPy = plcD ds d := by
  unfold SeqAt.dataPlace plcD
  rw [toPys_map, List.findIdx?_map]; rfl
theorem rep_erase {r : List Addr} {F : Hp} : ∀ {vs : List V} {ds : List D} (j : Nat), RepAll K r F vs ds → RepAll K r F (vs.eraseIdx j) (ds.eraseIdx j)
  | _, _, _, .nil => .nil
  | _, _, 0, .cons _ h => h
  | _, _, j + 1, .cons p h => .cons p (rep_erase j h)
open Classical in
noncomputable def pRemD : D → List D → Store → MX D := fun x as m => match as with
  | [d] => (cellL m x).bind fun p => if Sh 60 (.lst p.2) ∧ Sh 60 d then (plcD p.2 d).bind fun j => ret .non (m.set p.1 (.lst (p.2.eraseIdx j))) else none
  | _ => none
theorem sm_pRemD : SM K W (rRemD K) pRemD := fun x xs m res m' e r F H σ v vs hr px ps => by
  unfold pRemD at e
  split at e
  · rename_i d
    cases h0 : cellL m x with
    | none => rw [h0] at e; cases e
    | some p =>
      obtain ⟨k, ys⟩ := p
      rw [h0] at e
      simp only [Option.bind_some] at e
      split at e
      · rename_i hs
        cases h1 : plcD ys d with
        | none => rw [h1] at e; cases e
        | some j =>
          rw [h1] at e; cases e
          obtain ⟨a, ws, rfl, ea, hk, h2, h3⟩ := cellL_get h0 hr px
          obtain ⟨y, rfl, py⟩ := rep1 ps
          obtain ⟨z1, z2⟩ := putL hr ea hk h2 (rep_erase j h3)
          have p1 : D.pures ys = true := hs.1.pure
          exact fun Q q => ⟨_, ws, y, D.toPys ys, d.toPy, j, rfl, rfl, h2, h3.dp hr.sub p1, py.dp hr.sub hs.2.pure, plain_toPys ys, plain_toPy d, by have := (Sh.all 60 d hs.2).2.2; omega, by rw [plc_py]; exact h1, q _ r F _ z1 z2 .non⟩
      · cases e
  · cases e
open Classical in
noncomputable def pCntD : D → List D → Store → MX D := fun x as m => match as with
  | [d] => (rdQ m x).bind fun ds => if Sh 60 (.lst ds) ∧ Sh 60 d then ret (.int ((ds.countP fun y => eqb y d : Nat) : Int)) m else none
  | _ => none
theorem sm_pCntD : SM K W (rCntD K) pCntD := fun x xs m res m' e r F H σ v vs hr px ps => by
  unfold pCntD at e
  split at e
  · rename_i d
    cases h0 : rdQ m x with
    | none => rw [h0] at e; cases e
    | some ds =>
      rw [h0] at e
      simp only [Option.bind_some] at e
      split at e
      · rename_i hs
        cases e
        obtain ⟨p, ws, rfl, hq, ra⟩ := rdQ_get h0 hr px
        obtain ⟨y, rfl, py⟩ := rep1 ps
        have p1 : D.pures ds = true := hs.1.pure
        have ec : (D.toPys ds).countP (fun y => PyData.eqv y d.toPy) = ds.countP fun y => eqb y d := by
          rw [toPys_map, List.countP_map]; rfl
        exact fun Q q => ⟨_, ws, y, D.toPys ds, d.toPy, rfl, rfl, hq, ra.dp hr.sub p1, py.dp hr.sub hs.2.pure, plain_toPys ds, plain_toPy d, by have := (Sh.all 60 d hs.2).2.2; omega, by rw [ec]; exact q _ r F H hr (Ext.refl hr) (.int _)⟩
      · cases e
  · cases e
/-- two names at once -/
def par2 (i j : Nat) (xs : List D) (δ : En) (m : Store) : Option OT := match xs with
  | [x, y] => some (.nx ((δ.set i (some x)).set j (some y)) m)
  | _ => none
def sPar (i j : Nat) (as : MA) : MS := fun δ m => (as δ m).run δ fun xs m => par2 i j xs δ m
theorem ss_par {i j : Nat} {tas : WX → TA} {as : MA} (hs : ∀ W, So K W (RA K) (tas W) as) : SS K (fun W => tPar i j (tas W)) (sPar i j as) :=
  SS.run hs (u := fun W vs D σ H => ∃ v w, vs = [v, w] ∧ D.nx ((σ.set i (some v)).set j (some w)) H) (k := fun xs δ m => par2 i j xs δ m) fun W xs δ m o q vs r F H σ H0 D hr er rv h => by
    unfold par2 at q
    split at q
    · rename_i x y
      cases q
      obtain ⟨v, w, rfl, p1, p2⟩ := rep2 rv
      exact ⟨v, w, rfl, sg_name (i := i) x δ _ rfl r F H m σ v hr er p1 (fun σ1 H1 => D.nx (σ1.set j (some w)) H1) fun σ1 er1 => sg_name (i := j) y _ _ rfl r F H m σ1 w hr er1 p2 _ fun σ2 er2 => h σ2 r F H hr er2 (Ext.refl hr)⟩
    · cases q
end
end DL
/-! dicts in cells: made anew, looked up, put into -/
namespace DL
open PySem PySem.Spec PyProof.Rows L2
def cellK (m : Store) (d : D) : Option (Nat × List (Key × D)) := match d with
  | .cell k => match m[k]? with
    | some (.dK kvs) => some (k, kvs)
    | _ => none
  | _ => none
def keyD : D → Option Key
  | .int i => some (.inl i)
  | .str x => some (.inr x)
  | _ => none
def valD (kvs : List (Key × D)) (k : Key) : Option D := (kvs.find? fun kv => decide (kv.1 = k)).map (·.2)
def putD (kvs : List (Key × D)) (k : Key) (v : D) : List (Key × D) :=
  if (kvs.any fun kv => decide (kv.1 = k)) = true then kvs.map (fun kv => if kv.1 = k then (kv.1, v) else kv) else kvs ++ [(k, v)]
section
variable {K : PySem.W.Frag} {W : WX} {r : List Addr} {F H : Hp} {m : Store} {v : V} {d : D} {k : Key}
theorem keyD_get (h : keyD d = some k) (p : Rep K r F v d) : v = kV k := by
  cases d with
  | int i => cases h; cases p; rfl
  | str x => cases h; cases p; rfl
  | _ => cases h
theorem cellK_get {j : Nat} {kvs : List (Key × D)} (h : cellK m d = some (j, kvs)) (hr : HR K r F H m) (p : Rep K r F v d) : ∃ a gs, v = .ref a ∧ r[j]? = some a ∧ m[j]? = some (.dK kvs) ∧ H a = some (.dK gs) ∧ RepK K r F gs kvs := by
  cases d with
  | cell k' =>
    unfold cellK at h
    dsimp only at h
    split at h
    · rename_i ys e
      cases h
      cases p with
      | cell ea =>
        obtain ⟨_, gs, h1, h2⟩ := hr.cell _ _ _ ea e rfl
        exact ⟨_, _, rfl, ea, e, h1, h2⟩
    · cases h
  | _ => cases h
/-- a dict that is read: it may be locked -/
def cellR (m : Store) (d : D) : Option (Nat × List (Key × D)) := match d with
  | .cell k => match m[k]? with
    | some (.dK kvs) => some (k, kvs)
    | some (.fz kvs) => some (k, kvs)
    | _ => none
  | _ => none
theorem cellR_get {j : Nat} {kvs : List (Key × D)} (h : cellR m d = some (j, kvs)) (hr : HR K r F H m) (p : Rep K r F v d) : ∃ a gs, v = .ref a ∧ r[j]? = some a ∧ L2.Rd H a (.dK gs) ∧ RepK K r F gs kvs := by
  cases d with
  | cell k' =>
    unfold cellR at h
    dsimp only at h
    split at h
    · rename_i ys e
      cases h
      cases p with
      | cell ea =>
        obtain ⟨_, gs, h1, h2⟩ := hr.cell _ _ _ ea e rfl
        exact ⟨_, _, rfl, ea, .inl h1, h2⟩
    · rename_i ys e
      cases h
      cases p with
      | cell ea =>
        obtain ⟨od, gs, h1, h2⟩ := hr.fz _ _ _ ea e
        exact ⟨_, _, rfl, ea, .inr ⟨od, hr.sub _ _ h1⟩, h2⟩
    · cases h
  | _ => cases h
theorem rep_len : ∀ {gs : List (Key × V)} {kvs : List (Key × D)}, RepK K r F gs kvs → gs.length = kvs.length
  | [], [], _ => rfl
  | _ :: _, _ :: _, h => congrArg Nat.succ (rep_len h.2.2)
  | [], _ :: _, h => h.elim
  | _ :: _, [], h => h.elim
theorem rep_any : ∀ {gs : List (Key × V)} {kvs : List (Key × D)}, RepK K r F gs kvs → (gs.any fun kv => decide (kv.1 = k)) = kvs.any fun kv => decide (kv.1 = k)
  | [], [], _ => rfl
  | (x, _) :: gs, (y, _) :: fs, h => by
    have e : x = y := h.1
    rw [List.any_cons, List.any_cons, rep_any h.2.2, e]
  | [], _ :: _, h => h.elim
  | _ :: _, [], h => h.elim
theorem rep_val : ∀ {gs : List (Key × V)} {kvs : List (Key × D)}, RepK K r F gs kvs → (∃ v d, valV gs k = some v ∧ valD kvs k = some d ∧ Rep K r F v d) ∨ (valV gs k = none ∧ valD kvs k = none)
  | [], [], _ => .inr ⟨rfl, rfl⟩
  | (x, v) :: gs, (y, d) :: fs, h => by
    obtain ⟨e, p, q⟩ := h
    subst e
    by_cases hx : x = k
    · exact .inl ⟨v, d, by simp [valV, List.find?_cons, hx], by simp [valD, List.find?_cons, hx], p⟩
    · rcases rep_val q with ⟨v', d', e1, e2, p'⟩ | ⟨e1, e2⟩
      · exact .inl ⟨v', d', by rw [valV_neg hx]; exact e1, by unfold valD at e2 ⊢; rw [List.find?_cons, decide_eq_false hx]; exact e2, p'⟩
      · exact .inr ⟨by rw [valV_neg hx]; exact e1, by unfold valD at e2 ⊢; rw [List.find?_cons, decide_eq_false hx]; exact e2⟩
  | [], _ :: _, h => h.elim
  | _ :: _, [], h => h.elim
theorem rep_upd {w : V} {e : D} (p : Rep K r F w e) : ∀ {gs : List (Key × V)} {kvs : List (Key × D)}, RepK K r F gs kvs → RepK K r F (gs.map fun kv => if kv.1 = k then (kv.1, w) else kv) (kvs.map fun kv => if kv.1 = k then (kv.1, e) else kv)
  | [], [], _ => trivial
  | (x, v) :: gs, (y, d) :: fs, h => by
    obtain ⟨ex, q, t⟩ := h
    subst ex
    have ih := rep_upd p t
    rw [List.map_cons, List.map_cons]
    by_cases hx : x = k
    · rw [if_pos hx, if_pos hx]; exact ⟨rfl, p, ih⟩
    · rw [if_neg hx, if_neg hx]; exact ⟨rfl, q, ih⟩
  | [], _ :: _, h => h.elim
  | _ :: _, [], h => h.elim
theorem rep_snoc {w : V} {e : D} (p : Rep K r F w e) : ∀ {gs : List (Key × V)} {kvs : List (Key × D)}, RepK K r F gs kvs → RepK K r F (gs ++ [(k, w)]) (kvs ++ [(k, e)])
  | [], [], _ => ⟨rfl, p, trivial⟩
  | (x, v) :: gs, (y, d) :: fs, h => ⟨h.1, h.2.1, rep_snoc p h.2.2⟩
  | [], _ :: _, h => h.elim
  | _ :: _, [], h => h.elim
theorem rep_put {w : V} {e : D} (p : Rep K r F w e) {gs : List (Key × V)} {kvs : List (Key × D)} (h : RepK K r F gs kvs) : RepK K r F (putK gs k w) (putD kvs k e) := by
  unfold putK putD
  rw [rep_any h]
  split
  · exact rep_upd p h
  · exact rep_snoc p h
/-- {} -/
def eDNew : ME := fun δ m => ret (.cell m.length) (m ++ [.dK []])
theorem so_dnew : So K W (RE K) tDNewK eDNew := fun δ m res m' e r F H σ hr er => by
  cases e
  refine fun Q q p hp => ?_
  have h1 := hr.side (o := .dK []) hp
  have fp : F p = none := hr.sub.free hp
  have np : ∀ (k : Nat), live m k → r[k]? ≠ some p := fun k l e => hr.ne_new hp l e rfl
  have h2 : HR K (r ++ [p]) F (upd H p (.dK [])) (m ++ [.dK []]) := h1.toCell fp np ⟨[], upd_same, trivial⟩
  exact q _ _ _ _ h2 ((Ext.side hr hp).toCell hr.len hp) (.cell (by rw [← hr.len]; simp))
/-- d[y] -/
abbrev rDGet : R2 := fun x y H Q => ∃ a v, x = .ref a ∧ DGet H a y (some v) ∧ Q v H
def pDGet : D → D → Store → MX D := fun x y m => (cellR m x).bind fun p => (keyD y).bind fun k => (valD p.2 k).bind fun d => ret d m
theorem s2_pDGet : S2 K W rDGet pDGet := fun x y m res m' e r F H σ vx vy hr px py => by
  unfold pDGet at e
  cases h0 : cellR m x with
  | none => rw [h0] at e; cases e
  | some p =>
    obtain ⟨j, kvs⟩ := p
    rw [h0] at e
    simp only [Option.bind_some] at e
    cases h1 : keyD y with
    | none => rw [h1] at e; cases e
    | some k =>
      rw [h1] at e
      simp only [Option.bind_some] at e
      cases h2 : valD kvs k with
      | none => rw [h2] at e; cases e
      | some d =>
        rw [h2] at e; cases e
        obtain ⟨a, gs, rfl, ea, h3, h4⟩ := cellR_get h0 hr px
        cases keyD_get h1 py
        rcases rep_val (k := k) h4 with ⟨v, d', e1, e2, pv⟩ | ⟨_, e2⟩
        · rw [h2] at e2; cases e2
          exact fun Q q => ⟨a, v, rfl, by rw [← e1]; exact (Or.inl ⟨gs, k, h3, rfl, rfl⟩ : DGet H a (kV k) (valV gs k)), q _ r F H hr (Ext.refl hr) pv⟩
        · rw [h2] at e2; cases e2
/-- y in d, y not in d -/
abbrev rDIn (neg : Bool) : R2 := fun y x H Q => ∃ a o, x = .ref a ∧ DGet H a y o ∧ Q (.bl (if neg then !o.isSome else o.isSome)) H
def pDIn (neg : Bool) : D → D → Store → MX D := fun y x m => (cellR m x).bind fun p => (keyD y).bind fun k => ret (.bl (if neg then !(valD p.2 k).isSome else (valD p.2 k).isSome)) m
theorem s2_pDIn {neg : Bool} : S2 K W (rDIn neg) (pDIn neg) := fun y x m res m' e r F H σ vy vx hr py px => by
  unfold pDIn at e
  cases h0 : cellR m x with
  | none => rw [h0] at e; cases e
  | some p =>
    obtain ⟨j, kvs⟩ := p
    rw [h0] at e
    simp only [Option.bind_some] at e
    cases h1 : keyD y with
    | none => rw [h1] at e; cases e
    | some k =>
      rw [h1] at e; cases e
      obtain ⟨a, gs, rfl, ea, h3, h4⟩ := cellR_get h0 hr px
      cases keyD_get h1 py
      have hs : (valD kvs k).isSome = (valV gs k).isSome := by
        rcases rep_val (k := k) h4 with ⟨v, d', e1, e2, _⟩ | ⟨e1, e2⟩ <;> rw [e1, e2] <;> rfl
      exact fun Q q => ⟨a, _, rfl, (Or.inl ⟨gs, k, h3, rfl, rfl⟩ : DGet H a (kV k) (valV gs k)), by rw [← hs]; exact q _ r F H hr (Ext.refl hr) (.bl _)⟩
/-- d[y] = v -/
def sDPutI (e o i : ME) : MS := fun δ m => (e δ m).run δ fun v m => (o δ m).run δ fun x m => (i δ m).run δ fun y m => (cellK m x).bind fun p => (keyD y).bind fun k => if p.2.length < 100000 then some (.nx δ (m.set p.1 (.dK (putD p.2 k v)))) else none
theorem ss_dput {te to ti : WX → TE} {e o i : ME} (he : ∀ W, So K W (RE K) (te W) e) (ho : ∀ W, So K W (RE K) (to W) o) (hi : ∀ W, So K W (RE K) (ti W) i) : SS K (fun W => sDPut (to W) (ti W) (te W)) (sDPutI e o i) := fun W δ m out q r F H σ D hr er h => by
  show te W σ H fun v H1 => to W σ H1 fun o H2 => ti W σ H2 fun i H3 => ∃ a H4, o = .ref a ∧ DPut H3 a i v H4 ∧ D.nx σ H4
  rcases run_some q with ⟨d, m1, e1, q⟩ | ⟨y, m1, e1, rfl⟩
  · refine he W δ m _ _ e1 r F H σ hr er _ fun v r1 F1 H1 hr1 x1 rv => ?_
    have er1 := er.ext x1
    rcases run_some q with ⟨x, m2, e2, q⟩ | ⟨y, m2, e2, rfl⟩
    · refine ho W δ m1 _ _ e2 r1 F1 H1 σ hr1 er1 _ fun ov r2 F2 H2 hr2 x2 rx => ?_
      have er2 := er1.ext x2
      have x02 := x1.trans hr1.len hr.len x2
      rcases run_some q with ⟨y, m3, e3, q⟩ | ⟨y, m3, e3, rfl⟩
      · refine hi W δ m2 _ _ e3 r2 F2 H2 σ hr2 er2 _ fun iv r3 F3 H3 hr3 x3 ry => ?_
        have er3 := er2.ext x3
        have x03 := x02.trans hr2.len hr.len x3
        cases h0 : cellK m3 x with
        | none => rw [h0] at q; cases q
        | some p =>
          obtain ⟨kk, kvs⟩ := p
          rw [h0] at q
          simp only [Option.bind_some] at q
          cases h1 : keyD y with
          | none => rw [h1] at q; cases q
          | some k =>
            rw [h1] at q
            simp only [Option.bind_some] at q
            split at q
            · rename_i hlen
              cases q
              obtain ⟨a, gs, rfl, ea, hk, h3, h4⟩ := cellK_get h0 hr3 (rx.mono x3.pre x3.sub)
              cases keyD_get h1 ry
              have lv : live m3 kk := ⟨_, hk, rfl⟩
              have pv := (rv.mono x2.pre x2.sub).mono x3.pre x3.sub
              have z1 : HR K r3 F3 (upd H3 a (.dK (putK gs k v))) (m3.set kk (.dK (putD kvs k d))) := hr3.put lv ea (fun b z => by rw [h3] at z; cases z) ⟨_, upd_same, rep_put pv h4⟩
              exact ⟨a, _, rfl, DPut.k h3 (Evl.sz_lt (by rw [rep_len h4]; exact hlen)), h σ r3 F3 _ z1 er3 (x03.trans hr3.len hr.len (Ext.put hr3 lv ea))⟩
            · cases q
      · exact hi W δ m2 _ _ e3 r2 F2 H2 σ hr2 er2 (fun r' F' H' hr' x' => h σ r' F' H' hr' (er2.ext x') (x02.trans hr2.len hr.len x')) _
    · exact ho W δ m1 _ _ e2 r1 F1 H1 σ hr1 er1 (fun r' F' H' hr' x' => h σ r' F' H' hr' (er1.ext x') (x1.trans hr1.len hr.len x')) _
  · exact he W δ m _ _ e1 r F H σ hr er (fun r' F' H' hr' x' => h σ r' F' H' hr' (er.ext x') x') _
end
end DL
/-! {k: v}; a def that keeps its cells -/
namespace DL
open PySem PySem.Spec PyProof.Rows L2
section
variable {K : PySem.W.Frag} {W : WX}
def eDisp1 (k v : ME) : ME := fun δ m => (k δ m).sure fun x m => (v δ m).sure fun y m => (keyD x).bind fun kk => ret (.cell m.length) (m ++ [.dK [(kk, y)]])
theorem so_disp1 {tk tv : TE} {ek ev : ME} (hk : So K W (RE K) tk ek) (hv : So K W (RE K) tv ev) : So K W (RE K) (tDisp [(tk, tv)]) (eDisp1 ek ev) := fun δ m res m' e r F H σ hr er => by
  obtain ⟨x, m1, e1, e⟩ := sure_some e
  obtain ⟨y, m2, e2, e⟩ := sure_some e
  cases h1 : keyD x with
  | none => rw [h1] at e; cases e
  | some k =>
    rw [h1] at e
    cases e
    intro Q q p hp
    show tk σ (upd H p (.dK [])) fun x H1 => tv σ H1 fun y H2 => H2 p = some (.dK []) ∧ ∃ kvs : List (Key × V), [(x, y)] = kvs.map (fun kv => (kV kv.1, kv.2)) ∧ kvs.length ≤ 15 ∧ Q (.ref p) (upd H2 p (.dK (mergeK [] kvs)))
    have hs : HR K r F (upd H p (.dK [])) m := hr.side hp
    have x0 : Ext r F H m r F (upd H p (.dK [])) m := Ext.side hr hp
    refine hk δ m _ _ e1 r F _ σ hs er _ fun v r1 F1 H1 hr1 x1 rx => ?_
    refine hv δ m1 _ _ e2 r1 F1 H1 σ hr1 (er.ext x1) _ fun w r2 F2 H2 hr2 x2 ry => ?_
    have x12 := x1.trans hr1.len hr.len x2
    obtain ⟨g1, g2, g3⟩ := x12.side_keep hr.len upd_same (hr.sub.free hp) (fun k l e => hr.ne_new hp l e rfl)
    cases keyD_get h1 rx
    refine ⟨g1, [(k, w)], rfl, by show 1 ≤ 15; decide, ?_⟩
    have hh : HR K r2 F2 (upd H2 p (.dK [(k, w)])) m2 := hr2.sideSet g2 g3 (fun b z => by rw [g1] at z; cases z)
    have x02 := x0.trans hs.len hr.len x12
    exact q _ _ _ _ (hh.toCell g2 g3 ⟨[(k, w)], upd_same, rfl, ry, trivial⟩) ((x02.sideSet hp).toCell hr2.len hp) (.cell (by rw [← hr2.len]; simp))
end
theorem hu1 {k : Nat} {A : Around} (r : Room k A) : A.units + 1 < cLine := by have := r.units; omega
noncomputable def endA : Option OT → MX FT
  | some (.rt d m') => ret (.pl d) m'
  | some (.nx _ m') => ret (.pl .non) m'
  | some (.ex x _ m') => some (.ex x, m')
  | _ => none
/-- a def whose cells all go on to the caller -/
noncomputable def fnA (n N : Nat) (b : MS) : FnS := fun ds m => if ds.length = n then endA (b (st N ds) m) else none
theorem fn_okA {CX : CXT} {P : Program} {w : World} {K : PySem.W.Frag} {mg : Str → Option Value} {base : Heap} {x qual : Str} {params : Arguments} {body : List Stmt} {scope : Scope} {f : Addr} {fd : FuncData} {N ps : List Str} {k n kk : Nat} {b : MS} {ff : FnS}
    (F : FunD K x qual params body scope [] [] f fd) (sc : FnScope N ps scope) (t : WX → TS)
    (hP : ∀ (cdv : Value) (A : Around) (outer : List Env) (s : Shared) (H : Hp) (E : XK), Room k (A.deeper (envOfC qual scope s.heap.objs.size f cdv)) → PSs (cxOf CX P w K mg base N qual scope f cdv A outer s H E) body (t fun cls d _ H' => E cls d H'))
    (hS : SS K t b) (hf : ff = fnA n kk b) (hn : ps.length = n) (hk : N.length = kk) : FnOk P w K mg base CX (k + 1) f fd ps (spF K ff) := by
  subst hf hn hk
  refine F.ok sc (fun vs H Q E h => ?_) (fun cdv A outer s H vs Q E hr h => ?_)
  · obtain ⟨r, F, m, ds, res, m', _, p, hs, _⟩ := h
    rw [p.len]
    unfold fnA at hs
    split at hs
    · rename_i hl; exact hl
    · cases hs
  · obtain ⟨r, F, m, ds, res, m', hr0, p, hs, q⟩ := h
    unfold fnA at hs
    split at hs
    · refine ⟨_, hP cdv A outer s H E hr, ?_⟩
      cases ho : b (st N.length ds) m with
      | none => rw [ho] at hs; cases hs
      | some o =>
        rw [ho] at hs
        refine hS (fun cls d _ H' => E cls d H') _ _ _ ho r F H _ _ hr0 (er_start p) ?_
        cases o with
        | rt d m1 =>
            cases hs
            intro v r' F' H' h1 x1 p1
            exact q v r' F' H' h1 x1 ⟨[], ⟨p1, rfl⟩, .nil, fun a ha => nomatch ha⟩
        | nx δ m1 =>
            cases hs
            intro σ' r' F' H' h1 _ x1
            exact q .non r' F' H' h1 x1 ⟨[], ⟨.non, rfl⟩, .nil, fun a ha => nomatch ha⟩
        | ex y δ m1 =>
            cases hs
            intro σ' r' F' H' h1 _ x1
            exact q r' F' H' h1 x1
        | bk δ m1 => cases hs
        | ct δ m1 => cases hs
    · cases hs
theorem wp_fnA {n N : Nat} {b : MS} {ds : List D} {m : Store} {Q : RX FT → Store → Prop} (h : ds.length = n) (k : ws (b (st N ds) m) (fun o => wp (endA (some o)) Q)) : wp (fnA n N b ds m) Q := by
  unfold fnA
  rw [if_pos h]
  revert k
  cases b (st N ds) m with
  | none => exact fun k => k
  | some o => exact fun k => k
theorem endA_rt {m' : Store} {d : D} : endA (some (.rt d m')) = ret (.pl d) m' := rfl
theorem endA_nx {m' : Store} {δ : En} : endA (some (.nx δ m')) = ret (.pl .non) m' := rfl
end DL
/-! == of tuples and lists that hold cells -/
namespace DL
open PySem PySem.Spec PyProof.Rows L2
mutual
def dvw (m : Store) : D → Option D
  | .cell k => match m[k]? with
    | some (.lst xs) => some (.lst xs)
    | _ => none
  | .tup ds => (dvws m ds).map D.tup
  | .lst ds => (dvws m ds).map D.lst
  | d => some d
def dvws (m : Store) : List D → Option (List D)
  | [] => some []
  | d :: ds => (dvw m d).bind fun d' => (dvws m ds).map fun ds' => d' :: ds'
end
section
variable {K : PySem.W.Frag} {W : WX} {r : List Addr} {F H : Hp} {m : Store}
mutual
theorem dvw_dp (hr : HR K r F H m) : ∀ {v : V} {d d' : D} {n : Nat}, Rep K r F v d → dvw m d = some d' → Sh n d' → Dp K H v d'.toPy
  | _, _, _, n, .non, e, _ => by simp only [dvw, Option.some.injEq] at e; subst e; exact .non
  | _, _, _, n, .bl b, e, _ => by simp only [dvw, Option.some.injEq] at e; subst e; exact .bl b
  | _, _, _, n, .int i, e, _ => by simp only [dvw, Option.some.injEq] at e; subst e; exact .int i
  | _, _, _, n, .str x, e, _ => by simp only [dvw, Option.some.injEq] at e; subst e; exact .str x
  | _, _, _, n, .lst h t, e, s => by
    rw [dvw] at e
    cases q : dvws m _ with
    | none => rw [q] at e; cases e
    | some ds =>
      rw [q] at e; cases e
      refine .lst (SqL.of (hr.sub _ _ h)) (dvws_dp hr t q ?_ (n := n - 1))
      cases n with
      | zero => exact absurd s (by simp [Sh])
      | succ n => exact s
  | _, _, _, n, .tup h t, e, s => by
    rw [dvw] at e
    cases q : dvws m _ with
    | none => rw [q] at e; cases e
    | some ds =>
      rw [q] at e; cases e
      refine .tup (SqT.of (hr.sub _ _ h)) (dvws_dp hr t q ?_ (n := n - 1))
      cases n with
      | zero => exact absurd s (by simp [Sh])
      | succ n => exact s
  | _, _, _, n, .cell ea, e, s => by
    rw [dvw] at e
    split at e
    · rename_i xs hk
      cases e
      obtain ⟨_, vs, h1, h2⟩ := hr.cell _ _ _ ea hk rfl
      exact .lst (SqL.of h1) (h2.dp hr.sub s.pure)
    · cases e
  | _, _, _, n, .scr h, e, _ => by simp only [dvw, Option.some.injEq] at e; subst e; exact Rep.dp (r := r) hr.sub rfl (.scr h)
  | _, _, _, n, .exc h, e, s => by
    simp only [dvw, Option.some.injEq] at e
    subst e
    exact absurd s.pure (by simp [D.pure])
theorem dvws_dp (hr : HR K r F H m) : ∀ {vs : List V} {ds ds' : List D} {n : Nat}, RepAll K r F vs ds → dvws m ds = some ds' → (∀ x ∈ ds', Sh n x) → DpAll K H vs (D.toPys ds')
  | _, _, _, n, .nil, e, _ => by rw [dvws] at e; cases e; exact .nil
  | _, _, _, n, .cons p ps, e, s => by
    rw [dvws] at e
    cases q : dvw m _ with
    | none => rw [q] at e; cases e
    | some d' =>
      rw [q] at e
      simp only [Option.bind_some] at e
      cases q2 : dvws m _ with
      | none => rw [q2] at e; cases e
      | some ds' =>
        rw [q2] at e
        cases e
        exact .cons (dvw_dp hr p q (s _ List.mem_cons_self)) (dvws_dp hr ps q2 fun x hx => s x (List.mem_cons_of_mem _ hx))
end
open Classical in
noncomputable def pEqT : D → D → Store → MX D := fun x y m => (dvw m x).bind fun x => (dvw m y).bind fun y => if Sh 60 x ∧ Sh 60 y then ret (.bl (eqb x y)) m else none
theorem s2_pEqT : S2 K W (rEqD K) pEqT := fun x y m res m' e r F H σ vx vy hr px py => by
  unfold pEqT at e
  cases h1 : dvw m x with
  | none => rw [h1] at e; cases e
  | some x' =>
    rw [h1] at e
    cases h2 : dvw m y with
    | none => rw [h2] at e; cases e
    | some y' =>
      rw [h2] at e
      simp only [Option.bind_some] at e
      split at e
      · rename_i hs
        cases e
        exact fun Q q => ⟨_, _, dvw_dp hr px h1 hs.1, dvw_dp hr py h2 hs.2, hs.1.shaped (by omega), hs.2.shaped (by omega), q _ r F H hr (Ext.refl hr) (.bl _)⟩
      · cases e
open Classical in
noncomputable def pNeT : D → D → Store → MX D := fun x y m => (dvw m x).bind fun x => (dvw m y).bind fun y => if Sh 60 x ∧ Sh 60 y then ret (.bl (!eqb x y)) m else none
theorem s2_pNeT : S2 K W (rNeD K) pNeT := fun x y m res m' e r F H σ vx vy hr px py => by
  unfold pNeT at e
  cases h1 : dvw m x with
  | none => rw [h1] at e; cases e
  | some x' =>
    rw [h1] at e
    cases h2 : dvw m y with
    | none => rw [h2] at e; cases e
    | some y' =>
      rw [h2] at e
      simp only [Option.bind_some] at e
      split at e
      · rename_i hs
        cases e
        exact fun Q q => ⟨_, _, dvw_dp hr px h1 hs.1, dvw_dp hr py h2 hs.2, hs.1.shaped (by omega), hs.2.shaped (by omega), q _ r F H hr (Ext.refl hr) (.bl _)⟩
      · cases e
mutual
theorem dvw_sh {m : Store} : ∀ {n : Nat} (d : D), Sh n d → dvw m d = some d
  | n, .non, _ => by simp only [dvw]
  | n, .bl _, _ => by simp only [dvw]
  | n, .int _, _ => by simp only [dvw]
  | n, .str _, _ => by simp only [dvw]
  | n, .lst ds, s => by
    rw [dvw, dvws_sh (n := n - 1) ds (by
      cases n with
      | zero => exact absurd s (by simp [Sh])
      | succ n => exact s)]; rfl
  | n, .tup ds, s => by
    rw [dvw, dvws_sh (n := n - 1) ds (by
      cases n with
      | zero => exact absurd s (by simp [Sh])
      | succ n => exact s)]; rfl
  | n, .cell k, s => absurd s.pure (by simp [D.pure])
  | n, .scr _, _ => by simp only [dvw]
  | n, .exc _, _ => by simp only [dvw]
theorem dvws_sh {m : Store} : ∀ {n : Nat} (ds : List D), (∀ x ∈ ds, Sh n x) → dvws m ds = some ds
  | n, [], _ => by rw [dvws]
  | n, d :: ds, s => by
    rw [dvws, dvw_sh d (s _ List.mem_cons_self), dvws_sh ds fun x hx => s x (List.mem_cons_of_mem _ hx)]; rfl
end
end
end DL
/-! three comparisons in a row; a def that calls itself -/
namespace DL
open PySem PySem.Spec PyProof.Rows L2
def tChain3 (r r' r'' : R2) (ta tb tc td : TE) : TE := fun σ H Q => ta σ H fun x H1 => tb σ H1 fun y H2 => r x y H2 fun z H3 => ∃ k, z = .bl k ∧
  (if k = true then tc σ H3 (fun w H4 => r' y w H4 fun z2 H5 => ∃ k2, z2 = .bl k2 ∧ if k2 = true then td σ H5 (fun u H6 => r'' w u H6 Q) else Q (.bl false) H5) else Q (.bl false) H3)
theorem pt_chain3 {X : Cx} {a b c d : Expr} {ta tb tc td : TE} {pos : Pos} {op op' op'' : CmpOp} {r r' r'' : R2} (ho : OpR X (compareOp op) r) (ho' : OpR X (compareOp op') r') (ho'' : OpR X (compareOp op'') r'') (ha : PE X a ta) (hb : PE X b tb) (hc : PE X c tc) (hd : PE X d td)
    (hm : lastMarks [op, op', op''] [b, c, d] = false := by with_unfolding_all rfl) : PT X (.Compare a [op, op', op''] [b, c, d] pos) (tTest (tChain3 r r' r'' ta tb tc td)) := by
  refine ⟨fun pins s σ H Q I h => ?_⟩
  refine isTrue_chain (thn (ha.run pins s σ H _ I h) fun v s1 ⟨x, H1, I1, r1, q1⟩ => test_link (thn (hb.run pins s1 σ H1 _ I1 q1) fun u s2 ⟨y, H2, I2, r2, q2⟩ =>
    thn (ho pins s2 σ H2 x y v u _ I2 r1 r2 q2) fun d' s3 ⟨z, H3, I3, r3, k, e, q3⟩ => ?_)) hm
  subst e
  cases r3
  refine wpAny_truthy_bool ?_
  cases k with
  | false =>
    obtain ⟨k', e', q'⟩ := q3
    cases e'
    exact ite_ff ⟨H3, I3, q'⟩
  | true =>
    refine ite_tt (test_link (thn (hc.run pins s3 σ H3 _ I3 q3) fun w' s4 ⟨z', H4, I4, r4, q4⟩ => thn (ho' pins s4 σ H4 y z' u w' _ I4 r2 r4 q4) fun d' s5 ⟨z2, H5, I5, r5, k2, e2, q5⟩ => ?_))
    subst e2
    cases r5
    refine wpAny_truthy_bool ?_
    cases k2 with
    | false =>
      obtain ⟨k', e', q'⟩ := q5
      cases e'
      exact ite_ff ⟨H5, I5, q'⟩
    | true =>
      refine ite_tt (test_last (thn (hd.run pins s5 σ H5 _ I5 q5) fun w2 s6 ⟨z3, H6, I6, r6, q6⟩ => thn (ho'' pins s6 σ H6 z' z3 w' w2 _ I6 r4 r6 q6) fun d' s7 ⟨z4, H7, I7, r7, k3, e3, q7⟩ => ?_))
      subst e3
      cases r7
      exact wpAny_truthy_bool ⟨H7, I7, q7⟩
def eChain3 (o1 o2 o3 : D → D → Store → MX D) (a b c d : ME) : ME := fun δ m => (a δ m).bind fun x m => (b δ m).bind fun y m => (o1 x y m).bind fun z m => match z with
  | .bl k => cond k ((c δ m).bind fun w m => (o2 y w m).bind fun z2 m => match z2 with
    | .bl k2 => cond k2 ((d δ m).bind fun u m => o3 w u m) (ret (.bl false) m)
    | _ => none) (ret (.bl false) m)
  | _ => none
section
variable {K : PySem.W.Frag} {W : WX} {ta tb tc td : TE} {a b c d : ME}
theorem so_chain3 {q1 q2 q3 : R2} {o1 o2 o3 : D → D → Store → MX D} (h1 : S2 K W q1 o1) (h2 : S2 K W q2 o2) (h3 : S2 K W q3 o3) (ha : So K W (RE K) ta a) (hb : So K W (RE K) tb b) (hc : So K W (RE K) tc c) (hd : So K W (RE K) td d) : So K W (RE K) (tChain3 q1 q2 q3 ta tb tc td) (eChain3 o1 o2 o3 a b c d) := fun δ m res m' e r F H σ hr er => by
  show JAt K W (RE K) r F H σ m (fun H Q => ta σ H fun x H1 => tb σ H1 fun y H2 => q1 x y H2 fun z H3 => ∃ k, z = .bl k ∧ if k = true then tc σ H3 (fun w H4 => q2 y w H4 fun z2 H5 => ∃ k2, z2 = .bl k2 ∧ if k2 = true then td σ H5 (fun u H6 => q3 w u H6 Q) else Q (.bl false) H5) else Q (.bl false) H3) res m'
  rcases bind_some e with ⟨x, m1, e1, e2⟩ | ⟨y, e1, rfl⟩
  · refine (ha δ m _ _ e1 r F H σ hr er).bind re_mon hr fun v r1 F1 H1 hr1 x1 rv => ?_
    rcases bind_some e2 with ⟨y, m2, e3, e4⟩ | ⟨y, e3, rfl⟩
    · refine (hb δ m1 _ _ e3 r1 F1 H1 σ hr1 (er.ext x1)).bind re_mon hr1 fun w r2 F2 H2 hr2 x2 rw => ?_
      rcases bind_some e4 with ⟨z, m3, e5, e6⟩ | ⟨z, e5, rfl⟩
      · refine (h1 x y m2 _ m3 e5 r2 F2 H2 σ v w hr2 (rv.mono x2.pre x2.sub) rw).bind re_mon hr2 fun z' r3 F3 H3 hr3 x3 rz => ?_
        cases z with
        | bl k =>
          cases rz
          cases k with
          | false => cases e6; exact fun Q q => ⟨false, rfl, q _ r3 F3 H3 hr3 (Ext.refl hr3) (.bl false)⟩
          | true =>
            have er3 := ((er.ext x1).ext x2).ext x3
            have key : JAt K W (RE K) r3 F3 H3 σ m3 (fun H Q => tc σ H fun w' H4 => q2 w w' H4 fun z2 H5 => ∃ k2, z2 = .bl k2 ∧ if k2 = true then td σ H5 (fun u H6 => q3 w' u H6 Q) else Q (.bl false) H5) res m' := by
              rcases bind_some e6 with ⟨u, m4, e7, e8⟩ | ⟨u, e7, rfl⟩
              · refine (hc δ m3 _ _ e7 r3 F3 H3 σ hr3 er3).bind re_mon hr3 fun w' r4 F4 H4 hr4 x4 rw' => ?_
                rcases bind_some e8 with ⟨z2, m5, e9, e10⟩ | ⟨z2, e9, rfl⟩
                · refine (h2 y u m4 _ m5 e9 r4 F4 H4 σ w w' hr4 (rw.mono (x3.pre.trans x4.pre) (x3.sub.trans x4.sub)) rw').bind re_mon hr4 fun z2' r5 F5 H5 hr5 x5 rz2 => ?_
                  cases z2 with
                  | bl k2 =>
                    cases rz2
                    cases k2 with
                    | false => cases e10; exact fun Q q => ⟨false, rfl, q _ r5 F5 H5 hr5 (Ext.refl hr5) (.bl false)⟩
                    | true =>
                      have er5 := (er3.ext x4).ext x5
                      have key2 : JAt K W (RE K) r5 F5 H5 σ m5 (fun H Q => td σ H fun w2 H6 => q3 w' w2 H6 Q) res m' := by
                        rcases bind_some e10 with ⟨u2, m6, e11, e12⟩ | ⟨u2, e11, rfl⟩
                        · exact (hd δ m5 _ _ e11 r5 F5 H5 σ hr5 er5).bind re_mon hr5 fun w2 r6 F6 H6 hr6 x6 rw2 => h3 u u2 m6 res m' e12 r6 F6 H6 σ w' w2 hr6 (rw'.mono (x5.pre.trans x6.pre) (x5.sub.trans x6.sub)) rw2
                        · exact (hd δ m5 _ _ e11 r5 F5 H5 σ hr5 er5).thrown
                      cases res with
                      | ok z => exact fun Q q => ⟨true, rfl, key2 Q q⟩
                      | ex z => exact fun q Q => ⟨true, rfl, key2 q Q⟩
                  | _ => cases e10
                · exact (h2 y u m4 _ _ e9 r4 F4 H4 σ w w' hr4 (rw.mono (x3.pre.trans x4.pre) (x3.sub.trans x4.sub)) rw').thrown
              · exact (hc δ m3 _ _ e7 r3 F3 H3 σ hr3 er3).thrown
            cases res with
            | ok z => exact fun Q q => ⟨true, rfl, key Q q⟩
            | ex z => exact fun q Q => ⟨true, rfl, key q Q⟩
        | _ => cases e6
      · exact (h1 x y m2 _ _ e5 r2 F2 H2 σ v w hr2 (rv.mono x2.pre x2.sub) rw).thrown
    · exact (hb δ m1 _ _ e3 r1 F1 H1 σ hr1 (er.ext x1)).thrown
  · exact (ha δ m _ _ e1 r F H σ hr er).thrown
end
/-- of a def whose evaluator says nothing nothing is asked -/
def f_none : FnS := fun _ _ => none
theorem fn_none {CX : CXT} {P : Program} {w : World} {K : PySem.W.Frag} {mg : Str → Option Value} {base : Heap} {f : Addr} {fd : FuncData} {ps : List Str} {k : Nat} : FnOk P w K mg base CX k f fd ps (spF K f_none) := by
  refine ⟨fun vs H Q E h => ?_, fun A outer s H args us vs Q E hr hv hI hs h => ?_⟩
  · obtain ⟨r, F, m, ds, res, m', _, p, hs, _⟩ := h
    cases hs
  · obtain ⟨r, F, m, ds, res, m', _, p, hs, _⟩ := h
    cases hs
end DL
/-! instances of a class in cells: a field read and put, a method called, one made anew; x[i] += e -/
namespace DL
open PySem PySem.Spec PyProof.Rows L2
def putFD (f : Str) (v : D) : List (Str × D) → List (Str × D)
  | [] => [(f, v)]
  | (g, x) :: r => if g = f then (g, v) :: r else (g, x) :: putFD f v r
def lkF (f : Str) : List (Str × D) → Option D
  | [] => none
  | (g, x) :: r => if g = f then some x else lkF f r
section
variable {K : PySem.W.Frag} {W : WX} {r : List Addr} {F H : Hp} {m : Store}
theorem look_cons {α : Type} {f g : Str} {x : α} {l : List (Str × α)} : List.lookup f ((g, x) :: l) = if g = f then some x else List.lookup f l := by
  rw [List.lookup_cons]
  by_cases h : g = f
  · subst h; rw [if_pos rfl]; simp
  · rw [if_neg h]
    have : (f == g) = false := by simpa using fun e => h e.symm
    rw [this]
theorem repF_some {f : Str} {d : D} : ∀ {gs : List (Str × V)} {fs : List (Str × D)}, RepF K r F gs fs → lkF f fs = some d → ∃ v, gs.lookup f = some v ∧ Rep K r F v d
  | [], [], _, h => nomatch h
  | [], _ :: _, h, _ => h.elim
  | _ :: _, [], h, _ => h.elim
  | (x, v) :: gs, (y, e) :: fs, h, hl => by
    obtain ⟨rfl, h2, h3⟩ := h
    unfold lkF at hl
    rw [look_cons]
    by_cases hx : x = f
    · rw [if_pos hx] at hl ⊢; cases hl; exact ⟨v, rfl, h2⟩
    · rw [if_neg hx] at hl ⊢; exact repF_some h3 hl
theorem repF_none {f : Str} : ∀ {gs : List (Str × V)} {fs : List (Str × D)}, RepF K r F gs fs → lkF f fs = none → gs.lookup f = none
  | [], [], _, _ => rfl
  | [], _ :: _, h, _ => h.elim
  | _ :: _, [], h, _ => h.elim
  | (x, v) :: gs, (y, e) :: fs, h, hl => by
    obtain ⟨rfl, h2, h3⟩ := h
    unfold lkF at hl
    rw [look_cons]
    by_cases hx : x = f
    · rw [if_pos hx] at hl; cases hl
    · rw [if_neg hx] at hl ⊢; exact repF_none h3 hl
theorem repF_put {f : Str} {v : V} {d : D} (p : Rep K r F v d) : ∀ {gs : List (Str × V)} {fs : List (Str × D)}, RepF K r F gs fs → RepF K r F (putF f v gs) (putFD f d fs)
  | [], [], _ => ⟨rfl, p, trivial⟩
  | [], _ :: _, h => h.elim
  | _ :: _, [], h => h.elim
  | (x, v') :: gs, (y, e) :: fs, h => by
    obtain ⟨rfl, h2, h3⟩ := h
    unfold putF putFD
    by_cases hx : x = f
    · rw [if_pos hx, if_pos hx]; exact ⟨rfl, p, h3⟩
    · rw [if_neg hx, if_neg hx]; exact ⟨rfl, h2, repF_put p h3⟩
theorem repF_len : ∀ {gs : List (Str × V)} {fs : List (Str × D)}, RepF K r F gs fs → gs.length = fs.length
  | [], [], _ => rfl
  | [], _ :: _, h => h.elim
  | _ :: _, [], h => h.elim
  | (x, v') :: gs, (y, e) :: fs, h => congrArg Nat.succ (repF_len h.2.2)
/-- the instance in a cell -/
def cellI (m : Store) (x : Str) (d : D) : Option (Nat × List (Str × D)) := match d with
  | .cell k => match m[k]? with
    | some (.ins C fs) => if C = x then some (k, fs) else none
    | _ => none
  | _ => none
theorem cellI_get {x : Str} {d : D} {v : V} {j : Nat} {fs : List (Str × D)} (h : cellI m x d = some (j, fs)) (hr : HR K r F H m) (p : Rep K r F v d) : ∃ a dx gs, v = .ref a ∧ d = .cell j ∧ r[j]? = some a ∧ m[j]? = some (.ins x fs) ∧ H a = some (.ins (He.ga K x) dx gs) ∧ H dx = some (.own a) ∧ RepF K r F gs fs := by
  cases d with
  | cell k' =>
    unfold cellI at h
    dsimp only at h
    split at h
    · rename_i C ys e
      split at h
      · rename_i hC
        cases h
        subst hC
        cases p with
        | cell ea =>
          obtain ⟨_, dx, gs, h1, h2, h3⟩ := hr.cell _ _ _ ea e rfl
          exact ⟨_, dx, gs, rfl, rfl, ea, e, h1, h2, h3⟩
      · cases h
    · cases h
  | _ => cases h
/-- e.f -/
def eFld (x f : Str) (a : ME) : ME := fun δ m => (a δ m).bind fun v m => (cellI m x v).bind fun p => (lkF f p.2).bind fun d => ret d m
theorem so_fld {x f : Str} {ta : TE} {a : ME} (c : Cls K (He.ga K x)) (n : NoAttr K (He.ga K x) f) (ha : So K W (RE K) ta a) : So K W (RE K) (tFld K ta f) (eFld x f a) :=
  So.bind re_mon ha (k := fun v δ m => (cellI m x v).bind fun p => (lkF f p.2).bind fun d => ret d m) (u := fun v σ H1 Q => ∃ a C dx fs w, v = .ref a ∧ H1 a = some (.ins C dx fs) ∧ Cls K C ∧ NoAttr K C f ∧ fs.lookup f = some w ∧ Q w H1) fun d δ m res m' e v r F H σ H0 hr er rv => by
    cases h0 : cellI m x d with
    | none => rw [h0] at e; cases e
    | some p =>
      obtain ⟨j, fs⟩ := p
      rw [h0] at e
      simp only [Option.bind_some] at e
      cases h1 : lkF f fs with
      | none => rw [h1] at e; cases e
      | some w =>
        rw [h1] at e
        cases e
        obtain ⟨a, dx, gs, rfl, _, ea, hk, h2, h3, h4⟩ := cellI_get h0 hr rv
        obtain ⟨u, l, p⟩ := repF_some h4 h1
        exact fun Q q => ⟨a, _, dx, gs, u, rfl, h2, c, n, l, q _ r F H hr (Ext.refl hr) p⟩
/-- e.f = v -/
def sFldI (x f : Str) (e o : ME) : MS := fun δ m => (e δ m).run δ fun v m => (o δ m).run δ fun w m => (cellI m x w).bind fun p => if p.2.length < 1000 then some (.nx δ (m.set p.1 (.ins x (putFD f v p.2)))) else none
theorem ss_fld {x f : Str} {te to : WX → TE} {e o : ME} (c : Cls K (He.ga K x)) (n : NoAttr K (He.ga K x) f) (he : ∀ W, So K W (RE K) (te W) e) (ho : ∀ W, So K W (RE K) (to W) o) : SS K (fun W => sFld K (to W) (te W) f) (sFldI x f e o) := fun W δ m out q r F H σ D hr er h => by
  show te W σ H fun y H1 => to W σ H1 fun w H2 => ∃ a C dx fs, w = .ref a ∧ H2 a = some (.ins C dx fs) ∧ Cls K C ∧ NoAttr K C f ∧ fs.length < 1000 ∧ D.nx σ (upd H2 a (.ins C dx (putF f y fs)))
  rcases run_some q with ⟨d, m1, e1, q⟩ | ⟨y, m1, e1, rfl⟩
  · refine he W δ m _ _ e1 r F H σ hr er _ fun v r1 F1 H1 hr1 x1 rv => ?_
    have er1 := er.ext x1
    rcases run_some q with ⟨w, m2, e2, q⟩ | ⟨y, m2, e2, rfl⟩
    · refine ho W δ m1 _ _ e2 r1 F1 H1 σ hr1 er1 _ fun ov r2 F2 H2 hr2 x2 rx => ?_
      have er2 := er1.ext x2
      have x02 := x1.trans hr1.len hr.len x2
      cases h0 : cellI m2 x w with
      | none => rw [h0] at q; cases q
      | some p =>
        obtain ⟨j, fs⟩ := p
        rw [h0] at q
        simp only [Option.bind_some] at q
        split at q
        · rename_i hlen
          cases q
          obtain ⟨a, dx, gs, rfl, _, ea, hk, h2, h3, h4⟩ := cellI_get h0 hr2 rx
          have lv : live m2 j := ⟨_, hk, rfl⟩
          have na : dx ≠ a := fun z => by rw [z, h2] at h3; cases h3
          have z1 : HR K r2 F2 (upd H2 a (.ins (He.ga K x) dx (putF f v gs))) (m2.set j (.ins x (putFD f d fs))) := hr2.put lv ea (fun b z => by rw [h2] at z; cases z) ⟨dx, _, upd_same, by rw [upd_ne na]; exact h3, repF_put (rv.mono x2.pre x2.sub) h4⟩
          exact ⟨a, _, dx, gs, rfl, h2, c, n, by rw [repF_len h4]; exact hlen, h σ r2 F2 _ z1 er2 (x02.trans hr2.len hr.len (Ext.put hr2 lv ea))⟩
        · cases q
    · exact ho W δ m1 _ _ e2 r1 F1 H1 σ hr1 er1 (fun r' F' H' hr' x' => h σ r' F' H' hr' (er1.ext x') (x1.trans hr1.len hr.len x')) _
  · exact he W δ m _ _ e1 r F H σ hr er (fun r' F' H' hr' x' => h σ r' F' H' hr' (er.ext x') x') _
/-- o.m(..) -/
def fMeth (x mm : Str) (f : FnS) (o : ME) (as : MA) : MF := fun δ m => (o δ m).bind fun w m => (cellI m x w).bind fun p => match lkF mm p.2 with
  | some _ => none
  | none => (as δ m).bind fun ds m => (f (w :: ds) m).sure ret
theorem so_meth {x mm : Str} {f : FnS} {to : TE} {o : ME} {tas : TA} {as : MA} (ho : So K W (RE K) to o) (hs : So K W (RA K) tas as) : So K W (RF K) (tMeth (He.ga K x) mm (spF K f) [] E0 to tas) (fMeth x mm f o as) := fun δ m res m' e r F H σ hr er => by
  show JAt K W (RF K) r F H σ m (fun H Q => to σ H fun v H1 => ∃ a dx fs, v = .ref a ∧ H1 a = some (.ins (He.ga K x) dx fs) ∧ fs.lookup mm = none ∧ tas σ H1 fun vs H2 => spF K f (v :: (vs ++ [])) H2 Q E0) res m'
  rcases bind_some e with ⟨w, m1, e1, e2⟩ | ⟨y, e1, rfl⟩
  · refine (ho δ m _ _ e1 r F H σ hr er).bind rf_mon hr fun v r1 F1 H1 hr1 x1 rv => ?_
    cases h0 : cellI m1 x w with
    | none => rw [h0] at e2; cases e2
    | some p =>
      obtain ⟨j, fs⟩ := p
      rw [h0] at e2
      simp only [Option.bind_some] at e2
      cases h1 : lkF mm fs with
      | some _ => rw [h1] at e2; cases e2
      | none =>
        rw [h1] at e2
        obtain ⟨a, dx, gs, rfl, rfl, ea, hk, h2, h3, h4⟩ := cellI_get h0 hr1 rv
        have l := repF_none h4 h1
        have key : JAt K W (RF K) r1 F1 H1 σ m1 (fun H Q => tas σ H fun vs H2 => spF K f (.ref a :: (vs ++ [])) H2 Q E0) res m' := by
          rcases bind_some e2 with ⟨ds, m2, e3, e4⟩ | ⟨y, e3, rfl⟩
          · refine (hs δ m1 _ _ e3 r1 F1 H1 σ hr1 (er.ext x1)).bind rf_mon hr1 fun vs r2 F2 H2 hr2 x2 rs => ?_
            obtain ⟨ft, m3, e5, e6⟩ := sure_some e4
            cases e6
            intro Q q
            rw [List.append_nil]
            exact ⟨r2, F2, m2, _, .ok ft, m', hr2, .cons (rv.mono x2.pre x2.sub) rs, e5, fun v r' F' H' h1 h2 h3 => q v r' F' H' h1 h2 h3⟩
          · exact (hs δ m1 _ _ e3 r1 F1 H1 σ hr1 (er.ext x1)).thrown
        cases res with
        | ok z => exact fun Q q => ⟨a, dx, gs, rfl, h2, l, key Q q⟩
        | ex z => exact fun q Q => ⟨a, dx, gs, rfl, h2, l, key q Q⟩
  · exact (ho δ m _ _ e1 r F H σ hr er).thrown
/-- C(..) -/
def eMake (x : Str) (f : FnS) (as : MA) : ME := fun δ m => (as δ m).bind fun ds m => (f (.cell m.length :: ds) (m ++ [.ins x []])).sure fun ft m2 => match ft with
  | .pl .non => ret (.cell m.length) m2
  | _ => none
theorem so_make {x : Str} {f : FnS} {tas : TA} {as : MA} (hs : So K W (RA K) tas as) : So K W (RE K) (tMake (He.ga K x) (spF K f) [] E0 tas) (eMake x f as) := fun δ m res m' e r F H σ hr er => by
  show JAt K W (RE K) r F H σ m (fun H Q => tas σ H fun vs H1 => ∀ y dx, H1 y = none → H1 dx = none → dx ≠ y → spF K f (.ref y :: (vs ++ [])) (upd (upd H1 dx (.own y)) y (.ins (He.ga K x) dx [])) (fun v H2 => v = .non ∧ Q (.ref y) H2) E0) res m'
  rcases bind_some e with ⟨ds, m1, e1, e2⟩ | ⟨y, e1, rfl⟩
  · refine (hs δ m _ _ e1 r F H σ hr er).bind re_mon hr fun vs r1 F1 H1 hr1 x1 rs => ?_
    obtain ⟨ft, m2, e3, e4⟩ := sure_some e2
    split at e4
    · cases e4
      intro Q q y dx hy hd ne
      have hs1 : HR K r1 F1 (upd H1 dx (.own y)) m1 := hr1.side hd
      have y1 : Ext r1 F1 H1 m1 r1 F1 (upd H1 dx (.own y)) m1 := Ext.side hr1 hd
      have hy' : upd H1 dx (.own y) y = none := by rw [upd_ne (Ne.symm ne)]; exact hy
      have hs2 : HR K r1 F1 (upd (upd H1 dx (.own y)) y (.ins (He.ga K x) dx [])) m1 := hs1.side hy'
      have y2 := y1.trans hs1.len hr1.len (Ext.side (o := .ins (He.ga K x) dx []) hs1 hy')
      have fy : F1 y = none := hr1.sub.free hy
      have np : ∀ (k : Nat), live m1 k → r1[k]? ≠ some y := fun k l e => hr1.ne_new hy l e rfl
      have hs3 : HR K (r1 ++ [y]) F1 (upd (upd H1 dx (.own y)) y (.ins (He.ga K x) dx [])) (m1 ++ [.ins x []]) := hs2.toCell fy np ⟨dx, [], upd_same, by rw [upd_ne ne, upd_same], trivial⟩
      have y3 := y2.toCell (c := .ins x []) hs2.len hy
      rw [List.append_nil]
      refine ⟨r1 ++ [y], F1, _, _, .ok (.pl .non), m', hs3, .cons (.cell (by rw [← hr1.len]; simp)) (rs.mono (Pre.app _ _) (Same.refl _)), e3, fun v r' F' H' h1 h2 h3 => ?_⟩
      obtain ⟨as', ho, _⟩ := h3
      have ev : v = .non := by
        obtain ⟨p, _⟩ := ho
        cases p; rfl
      refine ⟨ev, q _ r' F' H' h1 (y3.trans hs3.len hr1.len h2) (.cell (h2.pre _ _ (by rw [← hr1.len]; simp)))⟩
    · cases e4
  · exact (hs δ m _ _ e1 r F H σ hr er).thrown
end
/-- x[i] op= e, i from 0 on -/
def rIxP (K : PySem.W.Frag) : V → V → Hp → VK → Prop := fun x y H Q => ∃ p xs i v, x = .ref p ∧ y = .int i ∧ 0 ≤ i ∧ SqL K H p xs ∧ atI xs i = some v ∧ Q v H
theorem pget_list {X : Cx} : PGet X (rIxP X.K) := by
  intro pins s σ H o i ov iv Q I ro ri h
  obtain ⟨p, xs, k, z, rfl, rfl, h0, hq, he, q⟩ := h
  cases ro
  obtain ⟨t, rfl⟩ := ri
  obtain ⟨its, r, pl, hz⟩ := I.list hq
  obtain ⟨j, h1, h2, h3, h4, h5⟩ := atI_get he
  obtain ⟨w, ew, rw'⟩ := r.get h2
  have hl := r.length
  have hn := line63
  have hj : k.toNat = j := by
    rw [seqIndex_of h0 h5] at h1
    exact Option.some.inj h1
  exact wpAny_getItem_list pl.isList h0 (by omega) (by rw [hj]; simpa using ew) ⟨z, H, I, rw', q⟩
def sAugI (f : Int → Int → Int) (o i e : ME) : MS := fun δ m => (o δ m).run δ fun x m => (i δ m).run δ fun y m => match y with
  | .int k => (cellL m x).bind fun p => if 0 ≤ k then match L2.atI p.2 k with
    | some (.int a) => (e δ m).run δ fun z m2 => match z with
      | .int b => (cellL m2 x).bind fun p2 => (ixN p2.2.length k).bind fun j => some (.nx δ (m2.set p2.1 (.lst (p2.2.set j (.int (f a b))))))
      | _ => none
    | _ => none else none
  | _ => none
theorem ss_augI {K : PySem.W.Frag} {to ti te : WX → TE} {o i e : ME} {f : Int → Int → Int} (ho : ∀ W, So K W (RE K) (to W) o) (hi : ∀ W, So K W (RE K) (ti W) i) (he : ∀ W, So K W (RE K) (te W) e) : SS K (fun W => tAugS (to W) (ti W) (te W) (rIxP K) (ipI f) rSetL) (sAugI f o i e) := fun W δ m out q r F H σ D hr er h => by
  show to W σ H fun o H1 => ti W σ H1 fun i H2 => rIxP K o i H2 fun x H3 => te W σ H3 fun y H4 => ipI f x y H4 fun z H5 => rSetL o i z H5 fun H6 => D.nx σ H6
  rcases run_some q with ⟨x, m1, e1, q⟩ | ⟨y, m1, e1, rfl⟩
  · refine ho W δ m _ _ e1 r F H σ hr er _ fun ov r1 F1 H1 hr1 x1 rx => ?_
    have er1 := er.ext x1
    rcases run_some q with ⟨y, m2, e2, q⟩ | ⟨y, m2, e2, rfl⟩
    · refine hi W δ m1 _ _ e2 r1 F1 H1 σ hr1 er1 _ fun iv r2 F2 H2 hr2 x2 ry => ?_
      have er2 := er1.ext x2
      have x02 := x1.trans hr1.len hr.len x2
      cases y with
      | int k =>
        dsimp only at q
        cases h0 : cellL m2 x with
        | none => rw [h0] at q; cases q
        | some p =>
          obtain ⟨kk, ys⟩ := p
          rw [h0] at q
          simp only [Option.bind_some] at q
          split at q
          · rename_i hk0
            cases hat : L2.atI ys k with
            | none => rw [hat] at q; cases q
            | some d =>
              rw [hat] at q
              cases d with
              | int a =>
                cases ry
                dsimp only at q
                obtain ⟨pa, ws, rfl, ea, hk, h1, h2⟩ := cellL_get h0 hr2 (rx.mono x2.pre x2.sub)
                obtain ⟨v, ev, pv⟩ := h2.atI hat
                cases pv
                refine ⟨pa, ws, k, _, rfl, rfl, hk0, .inl (.inl h1), ev, ?_⟩
                rcases run_some q with ⟨z, m3, e3, q⟩ | ⟨y, m3, e3, rfl⟩
                · refine he W δ m2 _ _ e3 r2 F2 H2 σ hr2 er2 _ fun w r3 F3 H3 hr3 x3 rz => ?_
                  have er3 := er2.ext x3
                  have x03 := x02.trans hr2.len hr.len x3
                  cases z with
                  | int b =>
                    cases rz
                    dsimp only at q
                    cases h5 : cellL m3 x with
                    | none => rw [h5] at q; cases q
                    | some p2 =>
                      obtain ⟨kk2, ys2⟩ := p2
                      rw [h5] at q
                      simp only [Option.bind_some] at q
                      cases hj : ixN ys2.length k with
                      | none => rw [hj] at q; cases q
                      | some j =>
                        rw [hj] at q
                        cases q
                        obtain ⟨pa2, ws2, ee, ea2, hk2, h12, h22⟩ := cellL_get h5 hr3 ((rx.mono x2.pre x2.sub).mono x3.pre x3.sub)
                        cases ee
                        obtain ⟨z1, z2⟩ := putL hr3 ea2 hk2 h12 (h22.set (.int (f a b)) j)
                        exact ⟨a, b, rfl, rfl, pa, ws2, k, j, rfl, rfl, h12, by rw [h22.len]; exact hj, h σ r3 F3 _ z1 er3 (x03.trans hr3.len hr.len z2)⟩
                  | _ => cases q
                · exact he W δ m2 _ _ e3 r2 F2 H2 σ hr2 er2 (fun r' F' H' hr' x' => h σ r' F' H' hr' (er2.ext x') (x02.trans hr2.len hr.len x')) _
              | _ => cases q
          · cases q
      | _ => cases q
    · exact hi W δ m1 _ _ e2 r1 F1 H1 σ hr1 er1 (fun r' F' H' hr' x' => h σ r' F' H' hr' (er1.ext x') (x1.trans hr1.len hr.len x')) _
  · exact ho W δ m _ _ e1 r F H σ hr er (fun r' F' H' hr' x' => h σ r' F' H' hr' (er.ext x') x') _
/-- xs.index(k) of whole numbers, k there -/
def pIndex : D → List D → Store → MX D := fun x as m => match as with
  | [.int k] => (rdQ m x).bind fun ds => (toInts ds).bind fun ns => if ns.idxOf k < ns.length then ret (.int (ns.idxOf k : Nat)) m else none
  | _ => none
theorem sm_pIndex {K : PySem.W.Frag} {W : WX} : SM K W (rIndex K) pIndex := fun x xs m res m' e r F H σ v vs hr px ps => by
  unfold pIndex at e
  split at e
  · rename_i k
    cases h0 : rdQ m x with
    | none => rw [h0] at e; cases e
    | some ds =>
      rw [h0] at e
      simp only [Option.bind_some] at e
      cases h1 : toInts ds with
      | none => rw [h1] at e; cases e
      | some ns =>
        rw [h1] at e
        simp only [Option.bind_some] at e
        split at e
        · rename_i hlt
          cases e
          cases toInts_eq h1
          obtain ⟨p, ws, rfl, hs, ra⟩ := rdQ_get h0 hr px
          cases ra.ints
          obtain ⟨y, rfl, py⟩ := rep1 ps
          cases py
          refine fun Q q => ⟨p, ns.map V.int, .int k, ns.idxOf k, .int k, rfl, rfl, hs, rfl, by simp [flatV], ?_, by simp [eqV], fun j z hj hz => ?_, q _ r F H hr (Ext.refl hr) (.int _)⟩
          · rw [List.getElem?_map, List.getElem?_eq_getElem hlt]
            simp
          · rw [List.getElem?_map] at hz
            cases hn : ns[j]? with
            | none => rw [hn] at hz; cases hz
            | some a =>
              rw [hn] at hz
              cases hz
              have hjl : j < ns.length := (List.getElem?_eq_some_iff.mp hn).1
              have : ns[j] = a := (List.getElem?_eq_some_iff.mp hn).2
              have ne : a ≠ k := fun e => by
                have := List.not_of_lt_findIdx (p := (· == k)) (xs := ns) (i := j) hj
                simp_all
              simp [eqV, ne]
        · cases e
  · cases e
/-- a method that can be called, a class that can be made -/
def CalM (P : Program) (w : World) (K : PySem.W.Frag) (mg : Str → Option Value) (base : Heap) (x mm : Str) (k : Nat) (ps : List Str) (f : FnS) : Prop :=
  ∃ fd, FnOk P w K mg base (L2.CX P w) k (He.ma K (He.ga K x) mm) fd ps (spF K f) ∧ Binds K fd ps [] ∧ Meth K (He.ga K x) mm (He.ma K (He.ga K x) mm)
def CalI (P : Program) (w : World) (K : PySem.W.Frag) (mg : Str → Option Value) (base : Heap) (x : Str) (k : Nat) (ps : List Str) (f : FnS) : Prop :=
  ∃ fd, FnOk P w K mg base (L2.CX P w) k (He.ma K (He.ga K x) "__init__") fd ps (spF K f) ∧ Binds K fd ps [] ∧ Mk K (He.ga K x) (He.ma K (He.ga K x) "__init__") ∧ mg x = some (.ref (He.ga K x))
section
variable {X : Cx} {k : Nat} {ps : List Str} {f : FnS} {x mm : Str} {p pos apos : Pos} {o e : Expr} {es : List Expr} {t : TA} {ta : TE}
theorem pc_meth {j : Nat} {pl : Sem Bool} (C : CalM X.prog X.w X.K X.mg X.base x mm j ps f) (c : Cls X.K (He.ga X.K x)) (hr : Room j X.A) (ho : PE X o ta) (ha : PA X (e :: es) t)
    (hst : starEach (e :: es) X.env = (false, eval e X.env) :: starEach es X.env := by rfl) (hpl : (backTo pos (starEach es X.env)).any (·.1) = false := by rfl)
    (ht : eval (.Call (.Attribute o mm apos) (e :: es) [] pos) X.env = (do
      let ov ← eval o X.env
      standAt apos.atName
      let (f, first) ← holding [ov] (getMethod ov mm pl)
      callWith pos f first (backTo pos (starEach (e :: es) X.env)) (backToKw pos (keywordEach [] X.env))) := by rfl) : PE X (.Call (.Attribute o mm apos) (e :: es) [] pos) (tMeth (He.ga X.K x) mm (spF X.K f) [] E0 ta t) := by
  obtain ⟨fd, F, b, m⟩ := C
  exact pe_meth (pl := pl) ho c m F hr b .nil passL ha hst hpl ht
theorem pc_meth0 {j : Nat} {pl : Sem Bool} (C : CalM X.prog X.w X.K X.mg X.base x mm j ps f) (c : Cls X.K (He.ga X.K x)) (hr : Room j X.A) (ho : PE X o ta)
    (ht : eval (.Call (.Attribute o mm apos) [] [] pos) X.env = (do
      let ov ← eval o X.env
      standAt apos.atName
      let (f, first) ← holding [ov] (getMethod ov mm pl)
      callWith pos f first (backTo pos (starEach [] X.env)) (backToKw pos (keywordEach [] X.env))) := by rfl) : PE X (.Call (.Attribute o mm apos) [] [] pos) (tMeth (He.ga X.K x) mm (spF X.K f) [] E0 ta tNil) := by
  obtain ⟨fd, F, b, m⟩ := C
  exact pe_meth0 (pl := pl) ho c m F hr b .nil passL ht
theorem pc_make {j : Nat} (C : CalI X.prog X.w X.K X.mg X.base x j ps f) (hr : Room (j + 1) X.A) (hg : Gl X x) (ha : PA X (e :: es) t) (hdb : (x == ("__debug__" : Str)) = false := by decide)
    (he : starEach (e :: es) X.env = (false, eval e X.env) :: starEach es X.env := by rfl) (hpl : (backTo pos (starEach es X.env)).any (·.1) = false := by rfl) : PE X (.Call (.Name x p) (e :: es) [] pos) (tMake (He.ga X.K x) (spF X.K f) [] E0 t) := by
  obtain ⟨fd, F, b, mk, m⟩ := C
  exact pe_make mk F hr hg m b .nil passL ha hdb he hpl
theorem pc_make0 {j : Nat} (C : CalI X.prog X.w X.K X.mg X.base x j ps f) (hr : Room (j + 1) X.A) (hg : Gl X x) (hdb : (x == ("__debug__" : Str)) = false := by decide) : PE X (.Call (.Name x p) [] [] pos) (tMake (He.ga X.K x) (spF X.K f) [] E0 tNil) := by
  obtain ⟨fd, F, b, mk, m⟩ := C
  exact pe_make0 mk F hr hg m b .nil passL hdb
end
end DL
/-! texts: signs, parts, length, joined; dicts copied, sorted, counted; methods that raise -/
namespace DL
open PySem PySem.Spec PyProof.Rows L2
section
variable {K : PySem.W.Frag} {W : WX} {ta tb tc to : TE} {tas : TA} {a b c o : ME} {as : MA}
def chS (c : Nat) : D := .str ⟨#[c]⟩
def pIxS : D → D → Store → MX D := fun x y m => match x, y with
  | .str z, .int i => if z.length ≤ 100000 then (L2.atI z.cps.toList i).bind fun c => ret (chS c) m else none
  | _, _ => none
theorem s2_pIxS : S2 K W rIxS pIxS := fun x y m res m' e r F H σ vx vy hr px py => by
  unfold pIxS at e
  split at e
  · split at e
    · rename_i z i hl
      cases h0 : L2.atI z.cps.toList i with
      | none => rw [h0] at e; cases e
      | some c =>
        rw [h0] at e
        cases e; cases px; cases py
        exact fun Q q => ⟨z, i, c, rfl, rfl, Evl.sz_of hl, h0, q _ r F H hr (Ext.refl hr) (.str _)⟩
    · cases e
  · cases e
/-- a part of a text -/
def eSlS (a : ME) (l h : MO) : ME := fun δ m => (a δ m).bind fun x m => (l δ m).bind fun lo m => (h δ m).bind fun hi m => match x with
  | .str z => if z.length ≤ 100000 then ret (.str (L2.cutS z lo hi)) m else none
  | _ => none
theorem so_slS {tl th : TO} {l h : MO} (ha : So K W (RE K) ta a) (hl : So K W RO tl l) (hh : So K W RO th h) : So K W (RE K) (tSl rSlS ta tl th) (eSlS a l h) := fun δ m res m' e r F H σ hr er => by
  show JAt K W (RE K) r F H σ m (fun H Q => ta σ H fun x H1 => tl σ H1 fun lo H2 => th σ H2 fun hi H3 => rSlS x lo hi H3 Q) res m'
  rcases bind_some e with ⟨x, m1, e1, e2⟩ | ⟨y, e1, rfl⟩
  · refine (ha δ m _ _ e1 r F H σ hr er).bind re_mon hr fun v r1 F1 H1 hr1 x1 rv => ?_
    rcases bind_some e2 with ⟨lo, m2, e3, e4⟩ | ⟨y, e3, rfl⟩
    · refine (hl δ m1 _ _ e3 r1 F1 H1 σ hr1 (er.ext x1)).bind re_mon hr1 fun lo' r2 F2 H2 hr2 x2 rlo => ?_
      cases rlo
      rcases bind_some e4 with ⟨hi, m3, e5, e6⟩ | ⟨y, e5, rfl⟩
      · refine (hh δ m2 _ _ e5 r2 F2 H2 σ hr2 ((er.ext x1).ext x2)).bind re_mon hr2 fun hi' r3 F3 H3 hr3 x3 rhi => ?_
        cases rhi
        cases x with
        | str z =>
          dsimp only at e6
          split at e6
          · rename_i hz
            cases e6; cases rv
            exact fun Q q => ⟨z, rfl, Evl.sz_of hz, q _ r3 F3 _ hr3 (Ext.refl hr3) (.str _)⟩
          · cases e6
        | _ => cases e6
      · exact (hh δ m2 _ _ e5 r2 F2 H2 σ hr2 ((er.ext x1).ext x2)).thrown
    · exact (hl δ m1 _ _ e3 r1 F1 H1 σ hr1 (er.ext x1)).thrown
  · exact (ha δ m _ _ e1 r F H σ hr er).thrown
abbrev rLenTx : List V → Hp → VK → Prop := fun xs H Q => ∃ z, xs = [.str z] ∧ z.length ≤ sizeLine ∧ Q (.int z.length) H
def pLenS : List D → Store → MX D := fun xs m => match xs with
  | [.str z] => if z.length ≤ 100000 then ret (.int z.length) m else none
  | _ => none
theorem sc_pLenS : SC K W (RE K) rLenTx pLenS := fun xs m res m' e r F H σ vs hr p => by
  unfold pLenS at e
  split at e
  · rename_i z
    split at e
    · rename_i hz
      cases e
      obtain ⟨v, rfl, pv⟩ := rep1 p
      cases pv
      exact fun Q q => ⟨z, rfl, Evl.sz_of hz, q _ r F H hr (Ext.refl hr) (.int _)⟩
    · cases e
  · cases e
/-- a sign among the signs of a text -/
abbrev rInSg (neg : Bool) : R2 := fun x y H Q => ∃ (c : Nat) (z : Str), x = .str ⟨#[c]⟩ ∧ y = .str z ∧ Q (.bl (if neg then !decide (c ∈ z.cps.toList) else decide (c ∈ z.cps.toList))) H
def pInSg (neg : Bool) : D → D → Store → MX D := fun x y m => match x, y with
  | .str ⟨⟨[c]⟩⟩, .str z => ret (.bl (if neg then !decide (c ∈ z.cps.toList) else decide (c ∈ z.cps.toList))) m
  | _, _ => none
theorem s2_pInSg {neg : Bool} : S2 K W (rInSg neg) (pInSg neg) := fun x y m res m' e r F H σ vx vy hr px py => by
  unfold pInSg at e
  split at e
  · rename_i c z
    cases e; cases px; cases py
    exact fun Q q => ⟨c, z, rfl, rfl, q _ r F H hr (Ext.refl hr) (.bl _)⟩
  · cases e
/-- over the signs of a text -/
def wStr (a : ME) : MI := fun δ m => (a δ m).bind fun x m => match x with
  | .str z => ret ⟨z.cps.toList.map chS, []⟩ m
  | _ => none
theorem its_ok {C : Store → Prop} {r : List Addr} {F : Hp} {z : Str} : ItOk K C (Its z) r F (z.cps.toList.map chS) := fun r' F' H' m' h1 h2 h3 _ i => by
  constructor
  · intro d hd
    rw [List.getElem?_map] at hd
    cases h0 : z.cps.toList[i]? with
    | none => rw [h0] at hd; cases hd
    | some c =>
      rw [h0] at hd
      cases hd
      have hi : i < z.cps.toList.length := (List.getElem?_eq_some_iff.mp h0).1
      refine ⟨by show i < z.cps.size; simpa using hi, fun x H'' hy => ?_⟩
      obtain ⟨rfl, c', hc, rfl⟩ := hy
      have : c' = c := by
        rw [← Array.getElem?_toList, h0] at hc
        cases hc; rfl
      subst this
      exact ⟨F', h3, Ext.refl h3, .str _⟩
  · intro hl
    show z.cps.size ≤ i
    simpa using hl
theorem so_wStr (ha : So K W (RE K) ta a) : So K W (RI K) (iStr ta) (wStr a) :=
  So.bind ri_mon ha (k := fun (x : D) δ m => match x with
    | .str z => ret (Wk.mk (z.cps.toList.map chS) []) m
    | _ => none) (u := fun (v : V) σ H R => ∃ x, v = .str x ∧ R (Its x) H) fun x δ m res m' e v r F H σ _ hr er rv => by
    cases x with
    | str z => cases e; cases rv; exact fun Q q => ⟨z, rfl, q _ r F H hr (Ext.refl hr) its_ok⟩
    | _ => cases e
/-- texts joined -/
def toStrs : List D → Option (List Str)
  | [] => some []
  | .str z :: ds => (toStrs ds).map (z :: ·)
  | _ :: _ => none
theorem toStrs_map (zs : List Str) : toStrs (zs.map D.str) = some zs := by
  induction zs with
  | nil => rfl
  | cons z zs ih => rw [List.map_cons, toStrs, ih]; rfl
theorem toStrs_eq : ∀ {ds : List D} {zs : List Str}, toStrs ds = some zs → ds = zs.map D.str
  | [], zs, h => by cases h; rfl
  | d :: ds, zs, h => by
    cases d with
    | str z =>
      unfold toStrs at h
      cases h0 : toStrs ds with
      | none => rw [h0] at h; cases h
      | some ys => rw [h0] at h; cases h; rw [toStrs_eq h0]; rfl
    | _ => cases h
theorem repStrs {r : List Addr} {F : Hp} : ∀ {zs : List Str} {vs : List V}, RepAll K r F vs (zs.map D.str) → vs = zs.map V.str
  | [], _, .nil => rfl
  | z :: zs, _, .cons p q => by cases p; rw [repStrs q]; rfl
abbrev rJoin (K : PySem.W.Frag) : V → List V → Hp → VK → Prop := fun x xs H Q => ∃ a p, ∃ ys : List Str, x = .str a ∧ xs = [.ref p] ∧ (SqL K H p (ys.map V.str) ∨ SqT K H p (ys.map V.str)) ∧ (ys.map (·.length)).sum + ys.length * a.length ≤ 16777216 ∧ Q (.str (Txt.join a ys)) H
def eJoin (o a : ME) : ME := fun δ m => (o δ m).bind fun x m => match x with
  | .str z => (a δ m).bind fun y m => (rdQ m y).bind fun ds => (toStrs ds).bind fun ys => if (ys.map (·.length)).sum + ys.length * z.length ≤ 16777216 then ret (.str (Txt.join z ys)) m else none
  | _ => none
theorem so_join (ho : So K W (RE K) to o) (ha : So K W (RE K) ta a) : So K W (RE K) (tM1 (rJoin K) to ta) (eJoin o a) := fun δ m res m' e r F H σ hr er => by
  show JAt K W (RE K) r F H σ m (fun H Q => to σ H fun x H1 => (∃ a, x = .str a) ∧ ta σ H1 fun y H2 => rJoin K x [y] H2 Q) res m'
  rcases bind_some e with ⟨x, m1, e1, e2⟩ | ⟨y, e1, rfl⟩
  · refine (ho δ m _ _ e1 r F H σ hr er).bind re_mon hr fun v r1 F1 H1 hr1 x1 rv => ?_
    cases x with
    | str z =>
      cases rv
      dsimp only at e2
      have key : JAt K W (RE K) r1 F1 H1 σ m1 (fun H Q => ta σ H fun y H2 => rJoin K (.str z) [y] H2 Q) res m' := by
        rcases bind_some e2 with ⟨y, m2, e3, e4⟩ | ⟨y, e3, rfl⟩
        · refine (ha δ m1 _ _ e3 r1 F1 H1 σ hr1 (er.ext x1)).bind re_mon hr1 fun vy r2 F2 H2 hr2 x2 ry => ?_
          cases h0 : rdQ m2 y with
          | none => rw [h0] at e4; cases e4
          | some ds =>
            rw [h0] at e4
            simp only [Option.bind_some] at e4
            cases h1 : toStrs ds with
            | none => rw [h1] at e4; cases e4
            | some ys =>
              rw [h1] at e4
              simp only [Option.bind_some] at e4
              split at e4
              · rename_i hb
                cases e4
                cases toStrs_eq h1
                obtain ⟨p, ws, rfl, hs, ra⟩ := rdQ_get h0 hr2 ry
                cases repStrs ra
                exact fun Q q => ⟨z, p, ys, rfl, rfl, .inl hs, hb, q _ r2 F2 H2 hr2 (Ext.refl hr2) (.str _)⟩
              · cases e4
        · exact (ha δ m1 _ _ e3 r1 F1 H1 σ hr1 (er.ext x1)).thrown
      cases res with
      | ok w => exact fun Q q => ⟨⟨z, rfl⟩, key Q q⟩
      | ex w => exact fun q Q => ⟨⟨z, rfl⟩, key q Q⟩
    | _ => cases e2
  · exact (ho δ m _ _ e1 r F H σ hr er).thrown
end
theorem bt_dict : bootBuiltins ("dict" : Str) = some (.type "dict") := rfl
/-! the order of texts -/
def leS (a b : Str) : Prop := ltCps b.cps.toList a.cps.toList = false
theorem lt_no : ∀ {a b c : List Nat}, ltCps b a = false → ltCps c b = false → ltCps c a = false
  | [], b, [], _, _ => rfl
  | [], b, _ :: _, _, _ => rfl
  | z :: a, [], c, h1, _ => by simp [ltCps] at h1
  | z :: a, y :: b, [], _, h2 => by simp [ltCps] at h2
  | z :: a, y :: b, x :: c, h1, h2 => by
    simp only [ltCps, Bool.or_eq_false_iff, Bool.and_eq_false_iff, decide_eq_false_iff_not, beq_eq_false_iff_ne] at h1 h2 ⊢
    refine ⟨by omega, ?_⟩
    by_cases hx : x = z
    · have e1 : y = z := by omega
      have e2 : x = y := by omega
      refine .inr (lt_no (h1.2.resolve_left fun n => n e1) (h2.2.resolve_left fun n => n e2))
    · exact .inl hx
theorem lt_anti : ∀ {a b : List Nat}, ltCps b a = false → ltCps a b = false → a = b
  | [], [], _, _ => rfl
  | [], _ :: _, _, h => by simp [ltCps] at h
  | _ :: _, [], h, _ => by simp [ltCps] at h
  | x :: a, y :: b, h1, h2 => by
    simp only [ltCps, Bool.or_eq_false_iff, Bool.and_eq_false_iff, decide_eq_false_iff_not, beq_eq_false_iff_ne] at h1 h2
    have e : x = y := by omega
    subst e
    rw [lt_anti (h1.2.resolve_left fun n => n rfl) (h2.2.resolve_left fun n => n rfl)]
theorem lt_tot : ∀ (a b : List Nat), ltCps b a = false ∨ ltCps a b = false
  | [], [] => .inl rfl
  | [], _ :: _ => .inl rfl
  | _ :: _, [] => .inr rfl
  | x :: a, y :: b => by
    simp only [ltCps, Bool.or_eq_false_iff, Bool.and_eq_false_iff, decide_eq_false_iff_not, beq_eq_false_iff_ne]
    rcases Nat.lt_trichotomy x y with h | h | h
    · exact .inl ⟨by omega, .inl (by omega)⟩
    · subst h
      rcases lt_tot a b with h | h
      · exact .inl ⟨by omega, .inr h⟩
      · exact .inr ⟨by omega, .inr h⟩
    · exact .inr ⟨by omega, .inl (by omega)⟩
theorem leS_anti {a b : Str} (h1 : leS a b) (h2 : leS b a) : a = b := by
  have := lt_anti h1 h2
  cases a; cases b
  congr
  exact Array.toList_inj.mp this
def insS (x : Str) : List Str → List Str
  | [] => [x]
  | y :: r => if ltCps y.cps.toList x.cps.toList = true then y :: insS x r else x :: y :: r
def ssort : List Str → List Str
  | [] => []
  | x :: r => insS x (ssort r)
theorem insS_perm (x : Str) : ∀ l, (insS x l).Perm (x :: l)
  | [] => List.Perm.refl _
  | y :: r => by
    unfold insS
    split
    · exact ((insS_perm x r).cons y).trans (List.Perm.swap _ _ _)
    · exact List.Perm.refl _
theorem ssort_perm : ∀ l, (ssort l).Perm l
  | [] => List.Perm.refl _
  | x :: r => (insS_perm x (ssort r)).trans ((ssort_perm r).cons x)
theorem insS_le (x : Str) : ∀ {l : List Str}, l.Pairwise leS → (insS x l).Pairwise leS
  | [], _ => List.pairwise_singleton _ _
  | y :: r, h => by
    obtain ⟨h1, h2⟩ := List.pairwise_cons.mp h
    unfold insS
    split
    · rename_i hl
      refine List.pairwise_cons.mpr ⟨fun z hz => ?_, insS_le x h2⟩
      rcases List.mem_cons.mp ((insS_perm x r).mem_iff.mp hz) with rfl | hz
      · rcases lt_tot y.cps.toList z.cps.toList with q | q
        · exact q
        · rw [q] at hl; cases hl
      · exact h1 z hz
    · rename_i hl
      have hxy : leS x y := Bool.eq_false_iff.mpr hl
      refine List.pairwise_cons.mpr ⟨fun z hz => ?_, h⟩
      rcases List.mem_cons.mp hz with rfl | hz
      · exact hxy
      · exact lt_no hxy (h1 z hz)
theorem ssort_le : ∀ l : List Str, (ssort l).Pairwise leS
  | [] => .nil
  | x :: r => insS_le x (ssort_le r)
theorem rising_le : ∀ {l : List Str} {p : Str}, risingS p l = true → (p :: l).Pairwise leS
  | [], p, _ => List.pairwise_singleton _ _
  | x :: r, p, h => by
    unfold risingS at h
    rw [Bool.and_eq_true] at h
    have ih := rising_le h.2
    have hx : leS p x := by simpa [leS] using h.1
    refine List.pairwise_cons.mpr ⟨fun z hz => ?_, ih⟩
    rcases List.mem_cons.mp hz with rfl | hz
    · exact hx
    · exact lt_no hx ((List.pairwise_cons.mp ih).1 z hz)
theorem sorted_le : ∀ {l : List Str}, sortedS l = true → l.Pairwise leS
  | [], _ => .nil
  | _ :: _, h => rising_le h
theorem leS_uniq : ∀ {a b : List Str}, a.Perm b → a.Pairwise leS → b.Pairwise leS → a = b
  | [], b, p, _, _ => (List.nil_perm.mp p).symm
  | x :: a, [], p, _, _ => by have := p.length_eq; simp at this
  | x :: a, y :: b, p, h1, h2 => by
    obtain ⟨p1, p2⟩ := List.pairwise_cons.mp h1
    obtain ⟨q1, q2⟩ := List.pairwise_cons.mp h2
    have e : x = y := by
      rcases List.mem_cons.mp (p.mem_iff.mp List.mem_cons_self) with e | hx
      · exact e
      · rcases List.mem_cons.mp (p.mem_iff.mpr List.mem_cons_self) with e | hy
        · exact e.symm
        · exact leS_anti (p1 y hy) (q1 x hx)
    subst e
    rw [leS_uniq ((List.perm_cons x).mp p) p2 q2]
theorem ssort_uniq {ys ks : List Str} (p : ys.Perm ks) (h : sortedS ys = true) : ys = ssort ks := leS_uniq (p.trans (ssort_perm ks).symm) (sorted_le h) (ssort_le ks)
section
variable {K : PySem.W.Frag} {W : WX} {ta tb tc to : TE} {tas : TA} {a b c o : ME} {as : MA}
/-- a dict copied -/
abbrev rDictD : List V → Hp → VK → Prop := fun xs H Q => ∃ (a : Addr) (kvs : List (Key × V)), xs = [.ref a] ∧ L2.Rd H a (.dK kvs) ∧ ∀ p, H p = none → Q (.ref p) (upd H p (.dK kvs))
def pDictD : List D → Store → MX D := fun xs m => match xs with
  | [x] => (cellR m x).bind fun p => ret (.cell m.length) (m ++ [.dK p.2])
  | _ => none
theorem sc_pDictD : SC K W (RE K) rDictD pDictD := fun xs m res m' e r F H σ vs hr p => by
  unfold pDictD at e
  split at e
  · rename_i x
    cases h0 : cellR m x with
    | none => rw [h0] at e; cases e
    | some q =>
      obtain ⟨j, kvs⟩ := q
      rw [h0] at e
      cases e
      obtain ⟨v, rfl, pv⟩ := rep1 p
      obtain ⟨a, gs, rfl, ea, h3, h4⟩ := cellR_get h0 hr pv
      refine fun Q q => ⟨a, gs, rfl, h3, fun p hp => ?_⟩
      have h1 := hr.side (o := .dK gs) hp
      have fp : F p = none := hr.sub.free hp
      have np : ∀ (k : Nat), live m k → r[k]? ≠ some p := fun k l e => hr.ne_new hp l e rfl
      have h2 : HR K (r ++ [p]) F (upd H p (.dK gs)) (m ++ [.dK kvs]) := h1.toCell fp np ⟨gs, upd_same, h4⟩
      exact q _ _ _ _ h2 ((Ext.side hr hp).toCell hr.len hp) (.cell (by rw [← hr.len]; simp))
  · cases e
abbrev rLenDK : List V → Hp → VK → Prop := fun xs H Q => ∃ a kvs, xs = [V.ref a] ∧ L2.Rd H a (.dK kvs) ∧ Q (.int kvs.length) H
def pLenD : List D → Store → MX D := fun xs m => match xs with
  | [x] => (cellR m x).bind fun p => ret (.int p.2.length) m
  | _ => none
theorem sc_pLenD : SC K W (RE K) rLenDK pLenD := fun xs m res m' e r F H σ vs hr p => by
  unfold pLenD at e
  split at e
  · rename_i x
    cases h0 : cellR m x with
    | none => rw [h0] at e; cases e
    | some q =>
      obtain ⟨j, kvs⟩ := q
      rw [h0] at e
      cases e
      obtain ⟨v, rfl, pv⟩ := rep1 p
      obtain ⟨a, gs, rfl, ea, h3, h4⟩ := cellR_get h0 hr pv
      refine fun Q q => ⟨a, gs, rfl, h3, ?_⟩
      rw [rep_len h4]
      exact q _ r F H hr (Ext.refl hr) (.int _)
  · cases e
/-- the keys of a dict, sorted -/
def keysS : List (Key × D) → Option (List Str)
  | [] => some []
  | (.inr x, _) :: r => (keysS r).map (x :: ·)
  | _ :: _ => none
theorem keysS_rep {r : List Addr} {F : Hp} : ∀ {kvs : List (Key × D)} {gs : List (Key × V)} {ks : List Str}, keysS kvs = some ks → RepK K r F gs kvs → gs.map (·.1) = ks.map Sum.inr
  | [], [], ks, h, _ => by cases h; rfl
  | [], _ :: _, _, _, h => h.elim
  | _ :: _, [], _, _, h => h.elim
  | (.inr x, d) :: kvs, (y, v) :: gs, ks, h, hr => by
    obtain ⟨e, _, t⟩ := hr
    unfold keysS at h
    cases h0 : keysS kvs with
    | none => rw [h0] at h; cases h
    | some l =>
      rw [h0] at h
      cases h
      have e' : y = .inr x := e
      subst e'
      rw [List.map_cons, List.map_cons, keysS_rep h0 t]
  | (.inl _, _) :: _, _, _, h, _ => by cases h
abbrev rSortDK : List V → Hp → VK → Prop := fun xs H Q => ∃ (a : Addr) (kvs : List (Key × V)) (ks : List Str), xs = [.ref a] ∧ L2.Rd H a (.dK kvs) ∧ kvs.map (·.1) = ks.map Sum.inr ∧ ks.length < 64 ∧ ∀ ys p, ys.Perm ks → sortedS ys = true → H p = none → Q (.ref p) (upd H p (.lst (ys.map V.str)))
def pSortD : List D → Store → MX FT := fun xs m => match xs with
  | [x] => (cellR m x).bind fun p => (keysS p.2).bind fun ks => if ks.length < 64 then ret (.own ((ssort ks).map D.str)) m else none
  | _ => none
theorem repAllStr {r : List Addr} {F : Hp} : ∀ zs : List Str, RepAll K r F (zs.map V.str) (zs.map D.str)
  | [] => .nil
  | z :: zs => .cons (.str z) (repAllStr zs)
theorem sc_pSortD : SC K W (RF K) rSortDK pSortD := fun xs m res m' e r F H σ vs hr p => by
  unfold pSortD at e
  split at e
  · rename_i x
    cases h0 : cellR m x with
    | none => rw [h0] at e; cases e
    | some q =>
      obtain ⟨j, kvs⟩ := q
      rw [h0] at e
      simp only [Option.bind_some] at e
      cases h1 : keysS kvs with
      | none => rw [h1] at e; cases e
      | some ks =>
        rw [h1] at e
        simp only [Option.bind_some] at e
        split at e
        · rename_i hl
          cases e
          obtain ⟨v, rfl, pv⟩ := rep1 p
          obtain ⟨a, gs, rfl, ea, h3, h4⟩ := cellR_get h0 hr pv
          refine fun Q q => ⟨a, gs, ks, rfl, h3, keysS_rep h1 h4, hl, fun ys p' py sy hp' => ?_⟩
          rw [ssort_uniq py sy]
          obtain ⟨q1, q2, q3⟩ := rf_new hr hp' (repAllStr (ssort ks))
          exact q _ r F _ q1 q2 q3
        · cases e
  · cases e
/-- o.m(..), raising -/
def tMethX (C : Addr) (mm : Str) (sp : Sp) (E : L2.St → XK) (to : TE) (t : TA) : TE := fun σ H Q => to σ H fun x H1 => ∃ a dx fs, x = .ref a ∧ H1 a = some (.ins C dx fs) ∧ fs.lookup mm = none ∧ t σ H1 fun vs H2 => sp (x :: vs) H2 Q (E σ)
def fMethS (x mm : Str) (f : FnS) (o : ME) (as : MA) : MF := fun δ m => (o δ m).bind fun w m => (cellI m x w).bind fun p => match lkF mm p.2 with
  | some _ => none
  | none => (as δ m).bind fun ds m => f (w :: ds) m
theorem so_methS {x mm : Str} {f : FnS} (ho : So K W (RE K) to o) (hs : So K W (RA K) tas as) : So K W (RF K) (tMethX (He.ga K x) mm (spF K f) (WE W) to tas) (fMethS x mm f o as) := fun δ m res m' e r F H σ hr er => by
  show JAt K W (RF K) r F H σ m (fun H Q => to σ H fun v H1 => ∃ a dx fs, v = .ref a ∧ H1 a = some (.ins (He.ga K x) dx fs) ∧ fs.lookup mm = none ∧ tas σ H1 fun vs H2 => spF K f (v :: vs) H2 Q (WE W σ)) res m'
  rcases bind_some e with ⟨w, m1, e1, e2⟩ | ⟨y, e1, rfl⟩
  · refine (ho δ m _ _ e1 r F H σ hr er).bind rf_mon hr fun v r1 F1 H1 hr1 x1 rv => ?_
    cases h0 : cellI m1 x w with
    | none => rw [h0] at e2; cases e2
    | some p =>
      obtain ⟨j, fs⟩ := p
      rw [h0] at e2
      simp only [Option.bind_some] at e2
      cases h1 : lkF mm fs with
      | some _ => rw [h1] at e2; cases e2
      | none =>
        rw [h1] at e2
        obtain ⟨a, dx, gs, rfl, rfl, ea, hk, h2, h3, h4⟩ := cellI_get h0 hr1 rv
        have l := repF_none h4 h1
        have key : JAt K W (RF K) r1 F1 H1 σ m1 (fun H Q => tas σ H fun vs H2 => spF K f (.ref a :: vs) H2 Q (WE W σ)) res m' := by
          rcases bind_some e2 with ⟨ds, m2, e3, e4⟩ | ⟨y, e3, rfl⟩
          · refine (hs δ m1 _ _ e3 r1 F1 H1 σ hr1 (er.ext x1)).bind rf_mon hr1 fun vs r2 F2 H2 hr2 x2 rs => ?_
            cases res with
            | ok ft => exact fun Q q => ⟨r2, F2, m2, _, .ok ft, m', hr2, .cons (rv.mono x2.pre x2.sub) rs, e4, fun v r' F' H' h1 h2 h3 => q v r' F' H' h1 h2 h3⟩
            | ex z => exact fun q Q => ⟨r2, F2, m2, _, .ex z, m', hr2, .cons (rv.mono x2.pre x2.sub) rs, e4, fun r' F' H' h1 h2 => q r' F' H' h1 h2⟩
          · exact (hs δ m1 _ _ e3 r1 F1 H1 σ hr1 (er.ext x1)).thrown
        cases res with
        | ok z => exact fun Q q => ⟨a, dx, gs, rfl, h2, l, key Q q⟩
        | ex z => exact fun q Q => ⟨a, dx, gs, rfl, h2, l, key q Q⟩
  · exact (ho δ m _ _ e1 r F H σ hr er).thrown
end
theorem call_lenR {X : Cx} : CallR X (.builtin "len") rLenDK := fun pins s σ H xs us Q I r h => by
  obtain ⟨a, kvs, rfl, ha, q⟩ := h
  obtain ⟨u, rfl, ru⟩ := vals1 r
  cases ru
  exact d_len I ha fun t s' I' => ⟨.int kvs.length, H, I', ⟨t, rfl⟩, q⟩
section
variable {X : Cx} {ps : List Str} {f : FnS} {x mm : Str} {p pos apos : Pos} {o e : Expr} {es : List Expr} {t : TA} {ta : TE} {W : WX} {j : Nat}
theorem pc_methS {pl : Sem Bool} (C : CalM X.prog X.w X.K X.mg X.base x mm j ps f) (c : Cls X.K (He.ga X.K x)) (tk : Takes X W) (hr : Room j X.A) (ho : PE X o ta) (ha : PA X (e :: es) t)
    (hst : starEach (e :: es) X.env = (false, eval e X.env) :: starEach es X.env := by rfl) (hpl : (backTo pos (starEach es X.env)).any (·.1) = false := by rfl)
    (ht : eval (.Call (.Attribute o mm apos) (e :: es) [] pos) X.env = (do
      let ov ← eval o X.env
      standAt apos.atName
      let (f, first) ← holding [ov] (getMethod ov mm pl)
      callWith pos f first (backTo pos (starEach (e :: es) X.env)) (backToKw pos (keywordEach [] X.env))) := by rfl) : PE X (.Call (.Attribute o mm apos) (e :: es) [] pos) (tMethX (He.ga X.K x) mm (spF X.K f) (WE W) ta t) := by
  obtain ⟨fd, F, b, m⟩ := C
  exact ⟨fun pins s σ H Q I h => PySem.W.methodCall_KW (pl := pl) (thn (ho.run pins s σ H _ I h) fun u s1 ⟨v, H1, I1, rx, a, dx, fs, ex, ea, l, q⟩ => by
    cases ex; cases rx
    exact getmeth_ok I1 ea c m l (PySem.W.callWith_K (first := [.ref a]) (h₀ := X.base) I.ok.mod.kin m.kp (thn (ha.run pos pins s1 σ H1 _ I1 q) fun us s2 ⟨vs, H2, I2, r, q2⟩ => ⟨I2.kIn, run_fnS (us := .ref a :: us) (vs := .ref a :: vs) (E := WE W) F hr b (passAt tk σ) I2 (.cons rfl r) q2⟩) hst hpl)) ht⟩
theorem pc_methS0 {pl : Sem Bool} (C : CalM X.prog X.w X.K X.mg X.base x mm j ps f) (c : Cls X.K (He.ga X.K x)) (tk : Takes X W) (hr : Room j X.A) (ho : PE X o ta)
    (ht : eval (.Call (.Attribute o mm apos) [] [] pos) X.env = (do
      let ov ← eval o X.env
      standAt apos.atName
      let (f, first) ← holding [ov] (getMethod ov mm pl)
      callWith pos f first (backTo pos (starEach [] X.env)) (backToKw pos (keywordEach [] X.env))) := by rfl) : PE X (.Call (.Attribute o mm apos) [] [] pos) (tMethX (He.ga X.K x) mm (spF X.K f) (WE W) ta tNil) := by
  obtain ⟨fd, F, b, m⟩ := C
  exact ⟨fun pins s σ H Q I h => PySem.W.methodCall_KW (pl := pl) (thn (ho.run pins s σ H _ I h) fun u s1 ⟨v, H1, I1, rx, a, dx, fs, ex, ea, l, q⟩ => by
    cases ex; cases rx
    exact getmeth_ok I1 ea c m l (PySem.W.callWith_K0 (first := [.ref a]) I1.kIn m.kp (run_fnS (us := [.ref a]) (vs := [.ref a]) (E := WE W) F hr b (passAt tk σ) I1 (.cons rfl .nil) q))) ht⟩
end
end DL
/-! a dict that is walked: locked while one walks -/
namespace DL
open PySem PySem.Spec PyProof.Rows L2
def delF (F : Hp) (a : Addr) : Hp := fun b => if b = a then none else F b
theorem delF_ne {F : Hp} {a b : Addr} (h : b ≠ a) : delF F a b = F b := if_neg h
theorem delF_same {F : Hp} {a : Addr} : delF F a a = none := if_pos rfl
section
variable {K : PySem.W.Frag} {r : List Addr} {F : Hp} {a : Addr} {od : Obj} {us : List (Key × V)}
theorem del_some (hf : F a = some (.frz od (.dK us))) {b : Addr} {o : HO} (h : F b = some o) (n : ∀ o' x, o ≠ .frz o' (.dK x)) : delF F a b = some o := by
  rw [delF_ne]
  · exact h
  · rintro rfl
    rw [hf] at h
    cases h
    exact n _ _ rfl
mutual
theorem Rep.del (hf : F a = some (.frz od (.dK us))) : ∀ {v : V} {d : D}, Rep K r F v d → Rep K r (delF F a) v d
  | _, _, .non => .non
  | _, _, .bl b => .bl b
  | _, _, .int i => .int i
  | _, _, .str x => .str x
  | _, _, .lst s h => .lst (del_some hf s fun _ _ z => nomatch z) (RepAll.del hf h)
  | _, _, .tup s h => .tup (del_some hf s fun _ _ z => nomatch z) (RepAll.del hf h)
  | _, _, .cell h => .cell h
  | _, _, .scr h => .scr (by
      rcases h with (h | ⟨o, h⟩) | h
      · exact .inl (.inl (del_some hf h fun _ _ z => nomatch z))
      · exact .inl (.inr ⟨o, del_some hf h fun _ _ z => nomatch z⟩)
      · exact .inr h)
  | _, _, .exc h => .exc (h.imp (fun h => del_some hf h fun _ _ z => nomatch z) (fun h => del_some hf h fun _ _ z => nomatch z))
theorem RepAll.del (hf : F a = some (.frz od (.dK us))) : ∀ {vs : List V} {ds : List D}, RepAll K r F vs ds → RepAll K r (delF F a) vs ds
  | _, _, .nil => .nil
  | _, _, .cons h t => .cons (Rep.del hf h) (RepAll.del hf t)
end
theorem RepF.del (hf : F a = some (.frz od (.dK us))) : ∀ {gs : List (Str × V)} {fs : List (Str × D)}, RepF K r F gs fs → RepF K r (delF F a) gs fs
  | [], [], _ => trivial
  | (_, _) :: _, (_, _) :: _, h => ⟨h.1, h.2.1.del hf, RepF.del hf h.2.2⟩
  | [], _ :: _, h => h.elim
  | _ :: _, [], h => h.elim
theorem RepK.del (hf : F a = some (.frz od (.dK us))) : ∀ {gs : List (Key × V)} {fs : List (Key × D)}, RepK K r F gs fs → RepK K r (delF F a) gs fs
  | [], [], _ => trivial
  | (_, _) :: _, (_, _) :: _, h => ⟨h.1, h.2.1.del hf, RepK.del hf h.2.2⟩
  | [], _ :: _, h => h.elim
  | _ :: _, [], h => h.elim
theorem CellOk.del {H : Hp} {b : Addr} (hf : F a = some (.frz od (.dK us))) : ∀ {c : Cell}, CellOk K r F H b c → CellOk K r (delF F a) H b c
  | .lst xs, ⟨vs, h, q⟩ => ⟨vs, h, q.del hf⟩
  | .ins C fs, ⟨dx, gs, h, h2, q⟩ => ⟨dx, gs, h, h2, q.del hf⟩
  | .dK kvs, ⟨gs, h, q⟩ => ⟨gs, h, q.del hf⟩
  | .gone, _ => trivial
  | .fz _, h => h.elim
theorem ER.del {σ : L2.St} {δ : En} (hf : F a = some (.frz od (.dK us))) (h : ER K r F σ δ) : ER K r (delF F a) σ δ := ⟨h.1, fun i d q => let ⟨v, x, y⟩ := h.2 i d q; ⟨v, x, y.del hf⟩⟩
end
section
variable {K : PySem.W.Frag} {r r' : List Addr} {F H F' H' : Hp} {m m' : Store} {k : Nat} {a : Addr} {kvs kvs' : List (Key × D)} {gs : List (Key × V)} {od : Obj}
theorem live_fz {l : Nat} (h : live (m.set k (.fz kvs)) l) : live m l ∧ l ≠ k := by
  obtain ⟨c, e, ng⟩ := h
  by_cases hk : k = l
  · subst hk
    have hlt : k < (m.set k (.fz kvs)).length := (List.getElem?_eq_some_iff.mp e).1
    rw [List.getElem?_set_self (by simpa using hlt)] at e
    cases e
    cases ng
  · rw [List.getElem?_set_ne hk] at e
    exact ⟨⟨c, e, ng⟩, fun z => hk z.symm⟩
theorem lock_in (hr : HR K r F H m) (ea : r[k]? = some a) (hk : m[k]? = some (.dK kvs)) (hg : H a = some (.dK gs)) (hq : RepK K r F gs kvs) (fa : F a = none) :
    HR K r (upd F a (.frz od (.dK gs))) (upd H a (.frz od (.dK gs))) (m.set k (.fz kvs)) ∧ Same F (upd F a (.frz od (.dK gs))) := by
  have s1 : Same F (upd F a (.frz od (.dK gs))) := fun b u e => by rw [upd_ne (ne_of_none e fa)]; exact e
  have lk : live m k := ⟨_, hk, rfl⟩
  have hkl : k < m.length := live_lt lk
  refine ⟨⟨by simp [hr.len], fun b u e => ?_, fun l b c e1 e2 ng => ?_, fun l l' b e1 e2 l1 l2 => hr.inj l l' b e1 e2 (live_fz l1).1 (live_fz l2).1, fun l b xs e1 e2 => ?_, fun i j b x y e1 e2 z1 z2 => ?_⟩, s1⟩
  · by_cases hb : b = a
    · subst hb; rw [upd_same] at e ⊢; exact e
    · rw [upd_ne hb] at e ⊢; exact hr.sub b u e
  · obtain ⟨ll, hl⟩ := live_fz ⟨c, e2, ng⟩
    rw [List.getElem?_set_ne (fun z => hl z.symm)] at e2
    have nb : b ≠ a := fun z => hl (hr.inj l k a (by rw [e1, z]) ea ll lk)
    obtain ⟨q1, q2⟩ := hr.cell l b c e1 e2 ng
    refine ⟨by rw [upd_ne nb]; exact q1, (q2.mono (Pre.refl r) s1).heap fun x o hx w => ?_⟩
    have : x ≠ a := by
      rintro rfl
      rcases w with w | w
      · exact nb w.symm
      · subst w; rw [hg] at hx; cases hx
    rw [upd_ne this]; exact hx
  · by_cases hl : k = l
    · subst hl
      rw [List.getElem?_set_self hkl] at e2
      cases e2
      rw [ea] at e1
      cases e1
      exact ⟨od, gs, upd_same, hq.mono (Pre.refl r) s1⟩
    · rw [List.getElem?_set_ne hl] at e2
      obtain ⟨od', gs', q1, q2⟩ := hr.fz l b xs e1 e2
      exact ⟨od', gs', s1 _ _ q1, q2.mono (Pre.refl r) s1⟩
  · have old : ∀ (i : Nat) x, r[i]? = some b → (m.set k (.fz kvs))[i]? = some (.fz x) → i = k ∧ b = a ∨ m[i]? = some (.fz x) ∧ b ≠ a := fun i x e1 e2 => by
      by_cases hl : k = i
      · subst hl
        rw [ea] at e1
        cases e1
        exact .inl ⟨rfl, rfl⟩
      · rw [List.getElem?_set_ne hl] at e2
        obtain ⟨_, _, q, _⟩ := hr.fz i b x e1 e2
        exact .inr ⟨e2, ne_of_none q fa⟩
    rcases old i x e1 z1 with ⟨w1, w2⟩ | ⟨w1, w2⟩ <;> rcases old j y e2 z2 with ⟨w3, w4⟩ | ⟨w3, w4⟩
    · rw [w1, w3]
    · exact absurd w2 w4
    · exact absurd w4 w2
    · exact hr.fzi i j b x y e1 e2 w1 w3
theorem lock_out (hr : HR K r F H m) (ea : r[k]? = some a) (hk : m[k]? = some (.dK kvs)) (hg : H a = some (.dK gs)) (fa : F a = none)
    (hr' : HR K r' F' H' m') (x : Ext r (upd F a (.frz od (.dK gs))) (upd H a (.frz od (.dK gs))) (m.set k (.fz kvs)) r' F' H' m') (hk' : m'[k]? = some (.fz kvs')) :
    F' a = some (.frz od (.dK gs)) ∧ H' a = some (.frz od (.dK gs)) ∧ HR K r' (delF F' a) (upd H' a (.dK gs)) (m'.set k (.dK kvs')) ∧ Ext r F H m r' (delF F' a) (upd H' a (.dK gs)) (m'.set k (.dK kvs')) := by
  have f1 : F' a = some (.frz od (.dK gs)) := x.sub _ _ upd_same
  have h1 : H' a = some (.frz od (.dK gs)) := hr'.sub _ _ f1
  have ea' : r'[k]? = some a := x.pre _ _ ea
  have hkl : k < m'.length := (List.getElem?_eq_some_iff.mp hk').1
  have lk : live m k := ⟨_, hk, rfl⟩
  have liv : ∀ l, live (m'.set k (.dK kvs')) l → l = k ∨ live m' l := fun l ⟨c, e, ng⟩ => by
    by_cases hl : k = l
    · exact .inl hl.symm
    · rw [List.getElem?_set_ne hl] at e; exact .inr ⟨c, e, ng⟩
  have nla : ∀ l : Nat, live m' l → r'[l]? ≠ some a := fun l ⟨c, e, ng⟩ e1 => by
    have := (hr'.cell l a c e1 e ng).1
    rw [f1] at this; cases this
  obtain ⟨od', gs', q1, q2⟩ := hr'.fz k a kvs' ea' hk'
  rw [f1] at q1
  cases q1
  refine ⟨f1, h1, ⟨by simp [hr'.len], fun b u e => ?_, fun l b c e1 e2 ng => ?_, fun l l' b e1 e2 l1 l2 => ?_, fun l b xs e1 e2 => ?_, fun i j b u w e1 e2 z1 z2 => ?_⟩, ⟨x.pre, fun b u e => ?_, fun b u e n => ?_, fun b n e => ?_, fun l b hl e => ?_, fun l hl ll => ?_, by simpa using x.mlen, fun b u e => ?_⟩⟩
  · by_cases hb : b = a
    · subst hb; rw [delF_same] at e; cases e
    · rw [delF_ne hb] at e; rw [upd_ne hb]; exact hr'.sub b u e
  · by_cases hl : k = l
    · subst hl
      rw [List.getElem?_set_self hkl] at e2
      cases e2
      rw [ea'] at e1
      cases e1
      exact ⟨delF_same, gs, upd_same, q2.del f1⟩
    · rw [List.getElem?_set_ne hl] at e2
      have nb : b ≠ a := fun z => nla l ⟨c, e2, ng⟩ (by rw [e1, z])
      obtain ⟨p1, p2⟩ := hr'.cell l b c e1 e2 ng
      refine ⟨by rw [delF_ne nb]; exact p1, (p2.del f1).heap fun y o hy w => ?_⟩
      have : y ≠ a := by
        rintro rfl
        rcases w with w | w
        · exact nb w.symm
        · subst w; rw [h1] at hy; cases hy
      rw [upd_ne this]; exact hy
  · rcases liv l l1 with rfl | z1
    · rcases liv l' l2 with rfl | z2
      · rfl
      · rw [ea'] at e1; cases e1; exact absurd e2 (nla l' z2)
    · rcases liv l' l2 with rfl | z2
      · rw [ea'] at e2; cases e2; exact absurd e1 (nla l z1)
      · exact hr'.inj l l' b e1 e2 z1 z2
  · by_cases hl : k = l
    · subst hl
      rw [List.getElem?_set_self hkl] at e2
      cases e2
    · rw [List.getElem?_set_ne hl] at e2
      obtain ⟨od2, gs2, p1, p2⟩ := hr'.fz l b xs e1 e2
      have nb : b ≠ a := fun z => hl (hr'.fzi k l a _ _ ea' (by rw [e1, z]) hk' e2)
      exact ⟨od2, gs2, by rw [delF_ne nb]; exact p1, p2.del f1⟩
  · have old : ∀ (i : Nat) x, (m'.set k (.dK kvs'))[i]? = some (.fz x) → m'[i]? = some (.fz x) := fun i x e2 => by
      by_cases hl : k = i
      · subst hl
        rw [List.getElem?_set_self hkl] at e2
        cases e2
      · rw [List.getElem?_set_ne hl] at e2
        exact e2
    exact hr'.fzi i j b u w e1 e2 (old i u z1) (old j w z2)
  · have nb : b ≠ a := ne_of_none e fa
    rw [delF_ne nb]
    exact x.sub b u (by rw [upd_ne nb]; exact e)
  · have nb : b ≠ a := fun z => n k lk (by rw [ea, z])
    rw [upd_ne nb]
    exact x.keep b u (by rw [upd_ne nb]; exact e) fun l ll => n l (live_fz ll).1
  · by_cases hb : b = a
    · subst hb; exact absurd delF_same e
    · rw [delF_ne hb] at e
      rcases x.new b (by rw [upd_ne hb]; exact n) e with z | ⟨l, ll, z⟩
      · rw [upd_ne hb] at z; exact .inl z
      · exact .inr ⟨l, (live_fz ll).1, z⟩
  · have := x.fresh l b (by simpa using hl) e
    by_cases hb : b = a
    · subst hb; rw [upd_same] at this; cases this
    · rw [upd_ne hb] at this; exact this
  · rcases liv l ll with rfl | z
    · exact lk
    · exact (live_fz (x.dead l (by simpa using hl) z)).1
  · by_cases hb : b = a
    · subst hb; exact ⟨_, upd_same⟩
    · obtain ⟨o', e'⟩ := x.trk b u (by rw [upd_ne hb]; exact e)
      exact ⟨o', by rw [upd_ne hb]; exact e'⟩
end
/-! ### the lock -/
def keyOf : Key → D
  | .inl i => .int i
  | .inr x => .str x
section
variable {K : PySem.W.Frag} {W : WX} {r r' : List Addr} {F H F' H' : Hp} {m m' : Store} {k : Nat} {a : Addr} {kvs kvs' : List (Key × D)} {gs : List (Key × V)} {od : Obj}
theorem rep_key (x : Key) : Rep K r F (kV x) (keyOf x) := by
  cases x with
  | inl i => exact .int i
  | inr x => exact .str x
theorem repK_at : ∀ {gs : List (Key × V)} {kvs : List (Key × D)} {i : Nat} {x : Key} {v : V}, RepK K r F gs kvs → gs[i]? = some (x, v) → ∃ d, kvs[i]? = some (x, d)
  | [], [], _, _, _, _, e => by simp at e
  | (x, v) :: gs, (y, d) :: fs, 0, _, _, h, e => by
    have := h.1
    subst this
    simp at e
    obtain ⟨rfl, rfl⟩ := e
    exact ⟨d, rfl⟩
  | (x, v) :: gs, (y, d) :: fs, i + 1, _, _, h, e => by
    obtain ⟨d', h'⟩ := repK_at (i := i) h.2.2 (by simpa using e)
    exact ⟨d', by simpa using h'⟩
  | [], _ :: _, _, _, _, h, _ => h.elim
  | _ :: _, [], _, _, _, h, _ => h.elim
/-- over the keys of a dict that is locked -/
def wKeys (a : ME) : MI := fun δ m => (a δ m).bind fun x m => match x with
  | .cell k => match m[k]? with
    | some (.fz kvs) => ret ⟨kvs.map fun kv => keyOf kv.1, []⟩ m
    | _ => none
  | _ => none
theorem itk_ok {C : Store → Prop} (hf : F a = some (.frz od (.dK gs))) (hq : RepK K r F gs kvs) : ItOk K C (Itk a od gs) r F (kvs.map fun kv => keyOf kv.1) := fun r' F' H' m' h1 h2 h3 _ i => by
  have hH : H' a = some (.frz od (.dK gs)) := h3.sub _ _ (h2 _ _ hf)
  have hl := rep_len hq
  constructor
  · intro d hd
    rw [List.getElem?_map] at hd
    cases h0 : kvs[i]? with
    | none => rw [h0] at hd; cases hd
    | some c =>
      rw [h0] at hd
      cases hd
      have hi : i < kvs.length := (List.getElem?_eq_some_iff.mp h0).1
      refine ⟨⟨hH, by omega⟩, fun x H'' hy => ?_⟩
      obtain ⟨rfl, y, v, e, rfl⟩ := hy
      obtain ⟨d', e'⟩ := repK_at hq e
      rw [h0] at e'
      cases e'
      exact ⟨F', h3, Ext.refl h3, rep_key y⟩
  · intro hl'
    rw [List.length_map] at hl'
    exact ⟨hH, by omega⟩
theorem so_wKeys {ta : TE} {a : ME} (ha : So K W (RE K) ta a) : So K W (RI K) (iKeys ta) (wKeys a) :=
  So.bind ri_mon ha (k := fun (x : D) δ m => match x with
    | .cell k => match m[k]? with
      | some (.fz kvs) => ret (Wk.mk (kvs.map fun kv => keyOf kv.1) []) m
      | _ => none
    | _ => none) (u := fun (x : V) σ H1 R => ∃ d o, x = .ref d ∧ ((∃ kvs, H1 d = some (.frz o (.dK kvs)) ∧ R (Itk d o kvs) H1) ∨ ∃ kvs, H1 d = some (.frz o (.dT kvs)) ∧ R (Itkt d o kvs) H1)) fun x δ m res m' e v r F H σ _ hr er rv => by
    cases x with
    | cell k =>
      dsimp only at e
      split at e
      · rename_i kvs hk
        cases e
        cases rv with
        | cell ea =>
          obtain ⟨od, gs, h1, h2⟩ := hr.fz _ _ _ ea hk
          exact fun Q q => ⟨_, od, rfl, .inl ⟨gs, hr.sub _ _ h1, q _ r F H hr (Ext.refl hr) (itk_ok h1 h2)⟩⟩
      · cases e
    | _ => cases e
theorem lock_ext (hr : HR K r F H m) (ea : r[k]? = some a) (hk : m[k]? = some (.dK kvs)) (fa : F a = none) : Ext r F H m r (upd F a (.frz od (.dK gs))) (upd H a (.frz od (.dK gs))) (m.set k (.fz kvs)) := by
  have lk : live m k := ⟨_, hk, rfl⟩
  refine ⟨Pre.refl r, fun b u e => by rw [upd_ne (ne_of_none e fa)]; exact e, fun b u e n => by rw [upd_ne (fun z => n k lk (by rw [ea, z]))]; exact e, fun b n e => ?_, fun l b hl e => ?_, fun l _ ll => (live_fz ll).1, by simp, fun b u e => ?_⟩
  · by_cases hb : b = a
    · subst hb; exact .inr ⟨k, lk, ea⟩
    · rw [upd_ne hb] at e; exact absurd n e
  · have := (List.getElem?_eq_some_iff.mp e).1
    rw [hr.len] at this
    omega
  · by_cases hb : b = a
    · subst hb; exact ⟨_, upd_same⟩
    · exact ⟨u, by rw [upd_ne hb]; exact e⟩
/-- which dict -/
def lockAt (e : ME) (δ : En) (m : Store) : Option (Nat × List (Key × D)) := match e δ m with
  | some (.ok d, _) => cellK m d
  | _ => none
def unlock (k : Nat) (m : Store) : Option Store := match m[k]? with
  | some (.fz kvs) => some (m.set k (.dK kvs))
  | _ => none
def OT.unlock (k : Nat) : OT → Option OT
  | .nx δ m => (DL.unlock k m).map fun m => .nx δ m
  | .rt d m => (DL.unlock k m).map fun m => .rt d m
  | .bk δ m => (DL.unlock k m).map fun m => .bk δ m
  | .ct δ m => (DL.unlock k m).map fun m => .ct δ m
  | .ex x δ m => (DL.unlock k m).map fun m => .ex x δ m
def sLock (e : ME) (s : MS) : MS := fun δ m => match lockAt e δ m with
  | some (k, kvs) => (s δ (m.set k (.fz kvs))).bind fun o => o.unlock k
  | none => none
def RX.unlock {α : Type} (k : Nat) : RX α × Store → MX α
  | (.ok a, m) => (DL.unlock k m).map fun m => (.ok a, m)
  | (.ex x, m) => some (.ex x, m)
def eLock (e : ME) (s : ME) : ME := fun δ m => match lockAt e δ m with
  | some (k, kvs) => Option.bind (s δ (m.set k (.fz kvs))) (RX.unlock k)
  | none => none
def fLock (e : ME) (s : MF) : MF := fun δ m => match lockAt e δ m with
  | some (k, kvs) => Option.bind (s δ (m.set k (.fz kvs))) (RX.unlock k)
  | none => none
theorem lockAt_get {e : ME} {δ : En} (h : lockAt e δ m = some (k, kvs)) (hr : HR K r F H m) : ∃ a gs, r[k]? = some a ∧ m[k]? = some (.dK kvs) ∧ F a = none ∧ H a = some (.dK gs) ∧ RepK K r F gs kvs := by
  unfold lockAt at h
  split at h
  · rename_i d m1 _
    cases d with
    | cell k' =>
      unfold cellK at h
      dsimp only at h
      split at h
      · rename_i ys e'
        cases h
        have hk : k < r.length := by rw [hr.len]; exact (List.getElem?_eq_some_iff.mp e').1
        obtain ⟨q0, gs, q1, q2⟩ := hr.cell k r[k] _ (List.getElem?_eq_getElem hk) e' rfl
        exact ⟨_, gs, List.getElem?_eq_getElem hk, e', q0, q1, q2⟩
      · cases h
    | _ => cases h
  · cases h
theorem unlock_get {m1 : Store} (h : unlock k m = some m1) : ∃ kvs, m[k]? = some (.fz kvs) ∧ m1 = m.set k (.dK kvs) := by
  unfold unlock at h
  split at h
  · rename_i kvs e
    cases h
    exact ⟨kvs, e, rfl⟩
  · cases h
/-- the lock, opened by an exception, too -/
def tLockX (t : WX → TS) (W : WX) : TS := fun D σ H => ∃ d u, H d = some u ∧ Mut (some u) ∧ ∀ od, t (fun C e σ' H' => H' d = some (.frz od u) ∧ W C e σ' (upd H' d u)) ⟨fun σ' H' => H' d = some (.frz od u) ∧ D.nx σ' (upd H' d u), fun v H' => H' d = some (.frz od u) ∧ D.rt v (upd H' d u), fun σ' H' => H' d = some (.frz od u) ∧ D.bk σ' (upd H' d u), fun σ' H' => H' d = some (.frz od u) ∧ D.ct σ' (upd H' d u)⟩ σ (upd H d (.frz od u))
theorem takes_lock {X : Cx} {W : WX} {d : Addr} {od : Obj} {u : HO} (tk : Takes X W) (hn : ∀ o' u', X.H_0 d ≠ some (.frz o' u')) : Takes X (fun C e σ H => H d = some (.frz od u) ∧ W C e σ (upd H d u)) := fun v s' ⟨a, B, sI, pins, σ, H, cls, e, e1, I, nb, up, sky, na, os, ag, hd, w⟩ =>
  tk v s' ⟨a, B, sI, pins, σ, upd H d u, cls, e, e1, I.unlock hd hn, nb, up, sky, by rw [upd_ne (fun z => by rw [z, hd] at na; cases na)]; exact na, os, ag, w⟩
theorem ps_lockX {X : Cx} {W : WX} {st : Stmt} {t : WX → TS} (tk : Takes X W) (h : ∀ W', Takes X W' → PS X st (t W')) : PS X st (tLockX t W) := by
  refine ⟨fun pins s σ H D I hw => ?_⟩
  obtain ⟨d, u, hd, mu, hw⟩ := hw
  obtain ⟨od, I1⟩ := I.lock hd mu
  have hn := I.nofrz hd mu
  refine thn ((h _ (takes_lock (od := od) (u := u) tk hn)).run pins s σ _ _ I1 (hw od)) fun f s1 q => ?_
  cases f with
  | next => obtain ⟨σ', H', I2, e, q⟩ := q; exact ⟨σ', _, I2.unlock e hn, q⟩
  | brk => obtain ⟨σ', H', I2, e, q⟩ := q; exact ⟨σ', _, I2.unlock e hn, q⟩
  | cont => obtain ⟨σ', H', I2, e, q⟩ := q; exact ⟨σ', _, I2.unlock e hn, q⟩
  | ret v => obtain ⟨x, σ', H', I2, r, e, q⟩ := q; exact ⟨x, σ', _, I2.unlock e hn, r, q⟩
theorem ss_lockX {t : WX → TS} {e : ME} {s : MS} (hs : SS K t s) : SS K (fun W => tLockX t W) (sLock e s) := fun W δ m o q r F H σ D hr er h => by
  unfold sLock at q
  split at q
  · rename_i k kvs hl
    obtain ⟨a, gs, ea, hk, fa, hg, hq⟩ := lockAt_get hl hr
    cases ho : s δ (m.set k (.fz kvs)) with
    | none => rw [ho] at q; cases q
    | some o1 =>
      rw [ho] at q
      refine ⟨a, .dK gs, hg, trivial, fun od => ?_⟩
      obtain ⟨hr1, sm⟩ := lock_in (od := od) hr ea hk hg hq fa
      have er1 := er.mono (Pre.refl r) sm
      refine hs _ δ _ o1 ho r _ _ σ _ hr1 er1 ?_
      cases o1 with
      | nx δ1 m1 =>
        cases hu : unlock k m1 with
        | none => simp [OT.unlock, hu] at q
        | some m2 =>
          simp [OT.unlock, hu] at q
          subst q
          obtain ⟨kvs', hk', rfl⟩ := unlock_get hu
          intro σ' r' F' H' hr' er' x
          obtain ⟨f1, h1, hr2, x2⟩ := lock_out hr ea hk hg fa hr' x hk'
          exact ⟨h1, h σ' r' _ _ hr2 (er'.del f1) x2⟩
      | rt d m1 =>
        cases hu : unlock k m1 with
        | none => simp [OT.unlock, hu] at q
        | some m2 =>
          simp [OT.unlock, hu] at q
          subst q
          obtain ⟨kvs', hk', rfl⟩ := unlock_get hu
          intro v r' F' H' hr' x p
          obtain ⟨f1, h1, hr2, x2⟩ := lock_out hr ea hk hg fa hr' x hk'
          exact ⟨h1, h v r' _ _ hr2 x2 (p.del f1)⟩
      | bk δ1 m1 =>
        cases hu : unlock k m1 with
        | none => simp [OT.unlock, hu] at q
        | some m2 =>
          simp [OT.unlock, hu] at q
          subst q
          obtain ⟨kvs', hk', rfl⟩ := unlock_get hu
          intro σ' r' F' H' hr' er' x
          obtain ⟨f1, h1, hr2, x2⟩ := lock_out hr ea hk hg fa hr' x hk'
          exact ⟨h1, h σ' r' _ _ hr2 (er'.del f1) x2⟩
      | ct δ1 m1 =>
        cases hu : unlock k m1 with
        | none => simp [OT.unlock, hu] at q
        | some m2 =>
          simp [OT.unlock, hu] at q
          subst q
          obtain ⟨kvs', hk', rfl⟩ := unlock_get hu
          intro σ' r' F' H' hr' er' x
          obtain ⟨f1, h1, hr2, x2⟩ := lock_out hr ea hk hg fa hr' x hk'
          exact ⟨h1, h σ' r' _ _ hr2 (er'.del f1) x2⟩
      | ex x δ1 m1 =>
        cases hu : unlock k m1 with
        | none => simp [OT.unlock, hu] at q
        | some m2 =>
          simp [OT.unlock, hu] at q
          subst q
          obtain ⟨kvs', hk', rfl⟩ := unlock_get hu
          intro σ' r' F' H' hr' er' x'
          obtain ⟨f1, h1, hr2, x2⟩ := lock_out hr ea hk hg fa hr' x' hk'
          exact ⟨h1, h σ' r' _ _ hr2 (er'.del f1) x2⟩
  · cases q
theorem OwnL.del {us : List (Key × V)} {u : HO} (hf : F a = some (.frz od (.dK us))) (hg : H a = some (.frz od (.dK us))) : ∀ {vs : List V} {fs : List F1} {as : List Addr}, OwnL K r F H vs fs as → OwnL K r (delF F a) (upd H a u) vs fs as
  | _, _, _, .nil => .nil
  | _, _, _, .pl h t => .pl (h.del hf) (t.del hf hg)
  | _, _, _, .own h q t => .own (by
      rw [upd_ne]
      · exact h
      · rintro rfl
        rw [hg] at h; cases h) (q.del hf) (t.del hf hg)
theorem OwnT.del {us : List (Key × V)} {u : HO} {v : V} {as : List Addr} (hf : F a = some (.frz od (.dK us))) (hg : H a = some (.frz od (.dK us))) : ∀ {ft : FT}, OwnT K r F H v ft as → OwnT K r (delF F a) (upd H a u) v ft as
  | .pl d, ⟨h, e⟩ => ⟨h.del hf, e⟩
  | .own xs, h => OwnL.del hf hg h
  | .tup fs, ⟨p, vs, e, h, q⟩ => ⟨p, vs, e, (del_some hf h fun _ _ z => nomatch z), OwnL.del hf hg q⟩
theorem so_eLock {t : TE} {e s : ME} (hs : So K W (RE K) t s) : So K W (RE K) (tLockE t) (eLock e s) := fun δ m res m' q r F H σ hr er => by
  unfold eLock at q
  split at q
  · rename_i k kvs hl
    obtain ⟨a, gs, ea, hk, fa, hg, hq⟩ := lockAt_get hl hr
    cases ho : s δ (m.set k (.fz kvs)) with
    | none => rw [ho] at q; cases q
    | some o1 =>
      rw [ho] at q
      obtain ⟨o1, m1⟩ := o1
      have key : ∀ od, HR K r (upd F a (.frz od (.dK gs))) (upd H a (.frz od (.dK gs))) (m.set k (.fz kvs)) ∧ Same F (upd F a (.frz od (.dK gs))) := fun od => lock_in hr ea hk hg hq fa
      cases o1 with
      | ok d =>
        cases hu : unlock k m1 with
        | none => simp [RX.unlock, hu] at q
        | some m2 =>
          simp [RX.unlock, hu] at q
          obtain ⟨rfl, rfl⟩ := q
          obtain ⟨kvs', hk', rfl⟩ := unlock_get hu
          intro Q h
          refine ⟨a, .dK gs, hg, trivial, fun od => ?_⟩
          obtain ⟨hr1, sm⟩ := key od
          refine hs δ _ _ _ ho r _ _ σ hr1 (er.mono (Pre.refl r) sm) _ fun v r' F' H' hr' x p => ?_
          obtain ⟨f1, h1, hr2, x2⟩ := lock_out hr ea hk hg fa hr' x hk'
          exact ⟨h1, h v r' _ _ hr2 x2 (Rep.del f1 p)⟩
      | ex x =>
        cases q
        intro h Q
        refine ⟨a, .dK gs, hg, trivial, fun od => ?_⟩
        obtain ⟨hr1, sm⟩ := key od
        exact hs δ _ _ _ ho r _ _ σ hr1 (er.mono (Pre.refl r) sm) (fun r' F' H' hr' x' => h r' F' H' hr' ((lock_ext hr ea hk fa).trans hr1.len hr.len x')) _
  · cases q
theorem so_fLock {t : TE} {e : ME} {s : MF} (hs : So K W (RF K) t s) : So K W (RF K) (tLockE t) (fLock e s) := fun δ m res m' q r F H σ hr er => by
  unfold fLock at q
  split at q
  · rename_i k kvs hl
    obtain ⟨a, gs, ea, hk, fa, hg, hq⟩ := lockAt_get hl hr
    cases ho : s δ (m.set k (.fz kvs)) with
    | none => rw [ho] at q; cases q
    | some o1 =>
      rw [ho] at q
      obtain ⟨o1, m1⟩ := o1
      have key : ∀ od, HR K r (upd F a (.frz od (.dK gs))) (upd H a (.frz od (.dK gs))) (m.set k (.fz kvs)) ∧ Same F (upd F a (.frz od (.dK gs))) := fun od => lock_in hr ea hk hg hq fa
      cases o1 with
      | ok d =>
        cases hu : unlock k m1 with
        | none => simp [RX.unlock, hu] at q
        | some m2 =>
          simp [RX.unlock, hu] at q
          obtain ⟨rfl, rfl⟩ := q
          obtain ⟨kvs', hk', rfl⟩ := unlock_get hu
          intro Q h
          refine ⟨a, .dK gs, hg, trivial, fun od => ?_⟩
          obtain ⟨hr1, sm⟩ := key od
          refine hs δ _ _ _ ho r _ _ σ hr1 (er.mono (Pre.refl r) sm) _ fun v r' F' H' hr' x ⟨as, p1, p2, p3⟩ => ?_
          obtain ⟨f1, h1, hr2, x2⟩ := lock_out hr ea hk hg fa hr' x hk'
          refine ⟨h1, h v r' _ _ hr2 x2 ⟨as, OwnT.del f1 h1 p1, p2, fun p hp => ?_⟩⟩
          obtain ⟨n1, n2, n3⟩ := p3 p hp
          have np : p ≠ a := by
            rintro rfl
            rw [upd_same] at n1; cases n1
          refine ⟨by rw [upd_ne np] at n1; exact n1, by rw [delF_ne np]; exact n2, fun l ll e => ?_⟩
          obtain ⟨c, e1, ng⟩ := ll
          by_cases hlk : k = l
          · subst hlk
            rw [x.pre _ _ ea] at e
            cases e
            exact np rfl
          · rw [List.getElem?_set_ne hlk] at e1
            exact n3 l ⟨c, e1, ng⟩ e
      | ex x =>
        cases q
        intro h Q
        refine ⟨a, .dK gs, hg, trivial, fun od => ?_⟩
        obtain ⟨hr1, sm⟩ := key od
        exact hs δ _ _ _ ho r _ _ σ hr1 (er.mono (Pre.refl r) sm) (fun r' F' H' hr' x' => h r' F' H' hr' ((lock_ext hr ea hk fa).trans hr1.len hr.len x')) _
  · cases q
end
end DL
/-! a dict's item taken out; a list of cells compared with [] -/
namespace PySem.SeqAt
open AutoSeq1 (wpAny_loadPart')
open MeetsSeq MeetsSeq2 MeetsSeq3 SeqRoads2
section
variable {prog : Program} {w : World}
theorem dl_list_neIn (l b : Addr) (items items2 : Array Value) (n n2 : Nat) (dd dd2 : Option Addr) (sl sl2 : Array (Option Value)) (hsz : items.size ≠ items2.size) :
    MeetsIn prog w (Builtin.«list.__eq__» ⟨[.ref l, .ref b], []⟩)
      (fun A R s => s.heap.get? l = some { cls := .type "list", dict := dd, data := .seq items n, slots := sl } ∧ s.heap.get? b = some { cls := .type "list", dict := dd2, data := .seq items2 n2, slots := sl2 } ∧
        R (.ok (.ret (.bool false))) s) := by
  intro A R s h
  obtain ⟨hp, g, d, tk, os⟩ := s; obtain ⟨hl, hb, h⟩ := h
  have f3 := AutoSeq1.sub_list_list
  have hne : (items.size != items2.size) = true := by simp [hsz]
  wp_walk using wpAny_loadPart' hl, wpAny_loadPart' hb
  exact h
theorem dl_rc_ne {A : Around} {s : Shared} {l b : Addr} {items items2 : Array Value} (hl : s.heap.IsList l items) (hb : s.heap.IsList b items2) (hsz : items.size ≠ items2.size) (hu : A.units < cLine)
    (E Q : Value → Shared → Prop) (h : Q (.bool false) s) : wpAny (model prog w) A (richCompare .Eq (.ref l) (.ref b)) Q E s := by
  obtain ⟨⟨cls, dd, data, sl⟩, ho, hc, n, hd⟩ := id hl
  obtain ⟨⟨cls2, dd2, data2, sl2⟩, ho2, hc2, n2, hd2⟩ := id hb
  simp only at hc hd hc2 hd2
  subst hc hd hc2 hd2
  have ta : s.TypeIs (.ref l) "list" := ⟨_, ho, rfl⟩
  have tb : s.TypeIs (.ref b) "list" := ⟨_, ho2, rfl⟩
  exact wpAny_richCompare_same_room (op := .Eq) ta tb F.slot_list_eq (call_meetsIn F.slot_list_eq ta F.entry_list_eq (F.args_list_eq_2 _ _) (dl_list_neIn l b items items2 n n2 dd dd2 sl sl2 hsz)
    ⟨ho, ho2, show Value.bool false ≠ Value.notImplemented ∧ Q (.bool false) s from ⟨(fun x => nomatch x), h⟩⟩) hu
end
end PySem.SeqAt
namespace DL
open PySem PySem.Spec PyProof.Rows L2
/-- a list, whatever stands in it, and [] -/
def rEqNl : R2 := fun x y H Q => ∃ a b xs, x = .ref a ∧ y = .ref b ∧ H a = some (.lst xs) ∧ H b = some (.lst []) ∧ Q (.bl xs.isEmpty) H
theorem op_eqNl {X : Cx} (hu : X.A.units + 64 < cLine) : OpR X (compareOp .Eq) rEqNl := by
  intro pins s σ H x y v u Q I rx ry h
  obtain ⟨a, b, xs, rfl, rfl, ha, hb, q⟩ := h
  cases (show v = Value.ref a from rx)
  cases (show u = Value.ref b from ry)
  obtain ⟨us, r1, p1, _⟩ := I.list (.inl (.inl ha))
  obtain ⟨ws, r2, p2, _⟩ := I.list (.inl (.inl hb))
  have l1 := r1.length
  have l2 := r2.length
  have l2' : ws.length = 0 := by rw [← l2]; rfl
  cases xs with
  | nil =>
    have l1' : us.length = 0 := by rw [← l1]; rfl
    refine SeqAt.rcP_lists (e := fun _ => true) p1.isList p2.isList (by simp [l1', l2']) (by omega) (fun j h1 h2 => ?_) _ _ ?_
    · simp [l1'] at h1
    · rw [show ((List.range us.toArray.size).all fun _ => true) = true from List.all_eq_true.mpr fun _ _ => rfl]
      exact ⟨.bl true, H, I, rfl, q⟩
  | cons x xs =>
    have l1' : us.length = xs.length + 1 := by rw [← l1]; rfl
    exact SeqAt.dl_rc_ne p1.isList p2.isList (by simp [l1', l2']) (by omega) _ _ ⟨.bl false, H, I, rfl, q⟩
def pEqNl : D → D → Store → MX D := fun x y m => match x, y with
  | .cell k, .lst [] => match m[k]? with
    | some (.lst xs) => ret (.bl xs.isEmpty) m
    | _ => none
  | _, _ => none
section
variable {K : PySem.W.Frag} {W : WX}
theorem s2_pEqNl : S2 K W rEqNl pEqNl := fun x y m res m' e r F H σ vx vy hr px py => by
  unfold pEqNl at e
  split at e
  · rename_i k
    split at e
    · rename_i xs hk
      cases e
      cases px with
      | cell ea =>
        cases py with
        | lst hs ra =>
          cases ra
          obtain ⟨_, vs, h1, h2⟩ := hr.cell _ _ _ ea hk rfl
          have : xs.isEmpty = vs.isEmpty := by cases h2 <;> rfl
          exact fun Q q => ⟨_, _, vs, rfl, rfl, h1, hr.sub _ _ hs, by rw [← this]; exact q _ r F H hr (Ext.refl hr) (.bl _)⟩
    · cases e
  · cases e
def dropD (kvs : List (Key × D)) (k : Key) : List (Key × D) := kvs.filter fun kv => decide (kv.1 ≠ k)
theorem rep_drop {r : List Addr} {F : Hp} {k : Key} : ∀ {gs : List (Key × V)} {kvs : List (Key × D)}, RepK K r F gs kvs → RepK K r F (dropK gs k) (dropD kvs k)
  | [], [], _ => trivial
  | (x, v) :: gs, (y, d) :: fs, h => by
    obtain ⟨e, p, q⟩ := h
    subst e
    have ih := rep_drop (k := k) q
    unfold dropK dropD at ih ⊢
    rw [List.filter_cons, List.filter_cons]
    by_cases hx : x = k
    · rw [if_neg (by simp [hx]), if_neg (by simp [hx])]; exact ih
    · rw [if_pos (by simp [hx]), if_pos (by simp [hx])]; exact ⟨rfl, p, ih⟩
  | [], _ :: _, h => h.elim
  | _ :: _, [], h => h.elim
/-- d.pop(y) of a key that is there -/
def eDPop (a b : ME) : ME := fun δ m => (a δ m).bind fun x m => match cellK m x with
  | some _ => (b δ m).bind fun y m => match cellK m x, keyD y with
    | some p, some k => match valD p.2 k with
      | some v => ret v (m.set p.1 (.dK (dropD p.2 k)))
      | none => none
    | _, _ => none
  | none => none
theorem so_dpop {ta tb : TE} {a b : ME} (ha : So K W (RE K) ta a) (hb : So K W (RE K) tb b) : So K W (RE K) (tDPop1 ta tb) (eDPop a b) := fun δ m res m' e r F H σ hr er => by
  show JAt K W (RE K) r F H σ m (fun H Q => ta σ H fun x H1 => ∃ a, x = .ref a ∧ IsD H1 a ∧ tb σ H1 fun y H2 => ∃ kvs k v, H2 a = some (.dK kvs) ∧ y = kV k ∧ valV kvs k = some v ∧ Q v (upd H2 a (.dK (dropK kvs k)))) res m'
  rcases bind_some e with ⟨x, m1, e1, e2⟩ | ⟨y, e1, rfl⟩
  · refine (ha δ m _ _ e1 r F H σ hr er).bind (u := fun x H1 Q => ∃ a, x = .ref a ∧ IsD H1 a ∧ tb σ H1 fun y H2 => ∃ kvs k v, H2 a = some (.dK kvs) ∧ y = kV k ∧ valV kvs k = some v ∧ Q v (upd H2 a (.dK (dropK kvs k)))) re_mon hr fun v r1 F1 H1 hr1 x1 rv => ?_
    split at e2
    · rename_i p1 h0
      obtain ⟨k1, kvs1⟩ := p1
      obtain ⟨ad, gs, rfl, ea, hk, h3, h4⟩ := cellK_get h0 hr1 rv
      have isd : IsD H1 ad := .inl ⟨gs, .inl h3⟩
      rcases bind_some e2 with ⟨y, m2, e3, e4⟩ | ⟨y, e3, rfl⟩
      · split at e4
        · rename_i p2 k h5 h6
          obtain ⟨k2, kvs2⟩ := p2
          split at e4
          · rename_i v h7
            cases e4
            intro Q q
            refine ⟨ad, rfl, isd, hb δ m1 _ _ e3 r1 F1 H1 σ hr1 (er.ext x1) _ fun yv r2 F2 H2 hr2 x2 ry => ?_⟩
            obtain ⟨ad2, gs2, e5, ea2, hk2, h8, h9⟩ := cellK_get h5 hr2 (rv.mono x2.pre x2.sub)
            cases e5
            cases keyD_get h6 ry
            rcases rep_val (k := k) h9 with ⟨v', d', e6, e7, p'⟩ | ⟨e6, e7⟩
            · rw [h7] at e7
              cases e7
              have lv : live m2 k2 := ⟨_, hk2, rfl⟩
              have z1 : HR K r2 F2 (upd H2 ad (.dK (dropK gs2 k))) (m2.set k2 (.dK (dropD kvs2 k))) := hr2.put lv ea2 (fun b z => by rw [h8] at z; cases z) ⟨_, upd_same, rep_drop h9⟩
              exact ⟨gs2, k, v', h8, rfl, e6, q v' r2 F2 _ z1 (x2.trans hr2.len hr1.len (Ext.put hr2 lv ea2)) p'⟩
            · rw [h7] at e7; cases e7
          · cases e4
        · cases e4
      · exact fun q Q => ⟨ad, rfl, isd, hb δ m1 _ _ e3 r1 F1 H1 σ hr1 (er.ext x1) q _⟩
    · cases e2
  · exact (ha δ m _ _ e1 r F H σ hr er).thrown (u := fun x H1 Q => ∃ a, x = .ref a ∧ IsD H1 a ∧ tb σ H1 fun y H2 => ∃ kvs k v, H2 a = some (.dK kvs) ∧ y = kV k ∧ valV kvs k = some v ∧ Q v (upd H2 a (.dK (dropK kvs k))))
end
end DL
/-! xs.clear(), d.copy(), tuple + tuple -/
namespace DL
open PySem PySem.Spec PyProof.Rows L2
section
variable {K : PySem.W.Frag} {W : WX}
def pClear : D → List D → Store → MX D := fun x as m => match as with
  | [] => (cellL m x).bind fun p => ret .non (m.set p.1 (.lst []))
  | _ => none
theorem sm_pClear : SM K W rClear pClear := fun x xs m res m' e r F H σ v vs hr px ps => by
  unfold pClear at e
  split at e
  · cases h0 : cellL m x with
    | none => rw [h0] at e; cases e
    | some p =>
      obtain ⟨k, ys⟩ := p
      rw [h0] at e
      cases e
      cases ps
      obtain ⟨a, ws, rfl, ea, hk, h3, h4⟩ := cellL_get h0 hr px
      have lv : live m k := ⟨_, hk, rfl⟩
      exact fun Q q => ⟨a, ws, rfl, rfl, h3, q _ r F _ (hr.put lv ea (fun b z => by rw [h3] at z; cases z) ⟨[], upd_same, .nil⟩) (Ext.put hr lv ea) .non⟩
  · cases e
/-- d.copy() -/
def rCopyD : V → List V → Hp → VK → Prop := fun x xs H Q => ∃ (a : Addr) (kvs : List (Key × V)), x = .ref a ∧ xs = [] ∧ H a = some (.dK kvs) ∧ ∀ p, H p = none → Q (.ref p) (upd H p (.dK kvs))
theorem mt_copyD {X : Cx} : MtM X "dict.copy" rCopyD := by
  intro pins s σ H x xs v us Q I rx rv h
  obtain ⟨a, kvs, rfl, rfl, hH, q⟩ := h
  cases rx
  have hus := rv.zero
  subst hus
  obtain ⟨z, lo, vs, rel, dd⟩ := dk_rd I.hok (.inl hH)
  have hm : (s.heap.objs.size == sysModules) = false := beq_eq_false_iff_ne.mpr (Nat.ne_of_gt I.big)
  refine call_meetsIn PySem.F.slot_dict_copy dd.typeIs PySem.F.entry_dict_copy (PySem.F.args_dict_copy_1 _) (meets_dict_copy (mixKind X.prog X.w) a lo) ⟨vs, dd, by rw [← rel.length]; exact z, fun h' d1 d2 hk => ?_⟩
  exact ⟨.ref s.heap.objs.size, upd H s.heap.objs.size (.dK kvs), I.laid (t' := s.toks) hk (Nat.le_refl _)
    (show ObjOk X.prog X.w _ _ _ (.dK kvs) from ⟨z, hm, vs, rel, d1⟩), rfl, q _ (I.hok.fresh (Nat.le_refl _))⟩
def eCopy (a : ME) : ME := fun δ m => (a δ m).bind fun x m => (cellK m x).bind fun p => ret (.cell m.length) (m ++ [.dK p.2])
theorem so_copy {ta : TE} {a : ME} (ha : So K W (RE K) ta a) : So K W (RE K) (tBM0 K "dict" rCopyD ta) (eCopy a) :=
  So.bind re_mon ha (k := fun (x : D) δ m => (cellK m x).bind fun p => ret (.cell m.length) (m ++ [.dK p.2])) (u := fun (x : V) σ H Q => tyV K "dict" x H ∧ rCopyD x [] H Q) fun x δ m res m' e v r F H σ _ hr er rv => by
    cases h0 : cellK m x with
    | none => rw [h0] at e; cases e
    | some q =>
      obtain ⟨j, kvs⟩ := q
      rw [h0] at e
      cases e
      obtain ⟨a, gs, rfl, ea, hk, h3, h4⟩ := cellK_get h0 hr rv
      refine fun Q q => ⟨.inr (.inr (.inl ⟨rfl, .inl ⟨gs, h3⟩⟩)), a, gs, rfl, rfl, h3, fun p hp => ?_⟩
      have h1 := hr.side (o := .dK gs) hp
      have fp : F p = none := hr.sub.free hp
      have np : ∀ (k : Nat), live m k → r[k]? ≠ some p := fun k l e => hr.ne_new hp l e rfl
      have h2 : HR K (r ++ [p]) F (upd H p (.dK gs)) (m ++ [.dK kvs]) := h1.toCell fp np ⟨gs, upd_same, h4⟩
      exact q _ _ _ _ h2 ((Ext.side hr hp).toCell hr.len hp) (.cell (by rw [← hr.len]; simp))
/-- t + u of tuples, the first not empty -/
def pCatT : D → D → Store → MX D := fun x y m => match x, y with
  | .tup xs, .tup ys => if xs ≠ [] ∧ xs.length + ys.length ≤ 100000 then ret (.tup (xs ++ ys)) m else none
  | _, _ => none
theorem s2_pCatT : S2 K W (rCatT K) pCatT := fun x y m res m' e r F H σ vx vy hr px py => by
  unfold pCatT at e
  split at e
  · rename_i xs ys
    split at e
    · rename_i hc
      cases e
      cases px with
      | tup h1 r1 =>
        cases py with
        | tup h2 r2 =>
          rename_i a1 vs1 a2 vs2
          refine fun Q q => ⟨_, _, vs1, vs2, rfl, rfl, SqT.of (hr.sub _ _ h1), SqT.of (hr.sub _ _ h2), ?_, Evl.sz_of (by rw [r1.len, r2.len]; exact hc.2), fun hn => ?_, fun _ p hp => ?_⟩
          · intro z
            rw [z] at r1
            cases r1
            exact hc.1 rfl
          · subst hn
            cases r2
            rw [List.append_nil] at q
            exact q _ r F H hr (Ext.refl hr) (.tup h1 r1)
          · have fp : F p = none := hr.sub.free hp
            have s1 : Same F (upd F p (.tup (vs1 ++ vs2))) := fun b u e => by rw [upd_ne (ne_of_none e fp)]; exact e
            exact q _ r _ _ (hr.laid hp) (Ext.laid hr hp) (.tup upd_same ((r1.app r2).mono (Pre.refl r) s1))
    · cases e
  · cases e
end
end DL
/-! text.index(sign), bools.index(b), d.update(e), xs == [] of data -/
namespace DL
open PySem PySem.Spec PyProof.Rows L2
/-- a < b < c < d as a value -/
theorem pe_chain3 {X : Cx} {a b c d : Expr} {ta tb tc td : TE} {pos : Pos} {op op' op'' : CmpOp} {r r' r'' : R2} (ho : OpR X (compareOp op) r) (ho' : OpR X (compareOp op') r') (ho'' : OpR X (compareOp op'') r'') (ha : PE X a ta) (hb : PE X b tb) (hc : PE X c tc) (hd : PE X d td)
    (hm : lastMarks [op, op', op''] [b, c, d] = false := by with_unfolding_all rfl) : PE X (.Compare a [op, op', op''] [b, c, d] pos) (tChain3 r r' r'' ta tb tc td) := by
  refine ⟨fun pins s σ H Q I h => ?_⟩
  refine Compare_chain (thn (ha.run pins s σ H _ I h) fun v s1 ⟨x, H1, I1, r1, q1⟩ => chain_link (thn (hb.run pins s1 σ H1 _ I1 q1) fun u s2 ⟨y, H2, I2, r2, q2⟩ =>
    thn (ho pins s2 σ H2 x y v u _ I2 r1 r2 q2) fun d' s3 ⟨z, H3, I3, r3, k, e, q3⟩ => ?_)) hm
  subst e
  cases r3
  refine wpAny_truthy_bool ?_
  cases k with
  | false => exact ite_ff ⟨.bl false, H3, I3, rfl, q3⟩
  | true =>
    refine ite_tt (chain_link (thn (hc.run pins s3 σ H3 _ I3 q3) fun w' s4 ⟨z', H4, I4, r4, q4⟩ => thn (ho' pins s4 σ H4 y z' u w' _ I4 r2 r4 q4) fun d' s5 ⟨z2, H5, I5, r5, k2, e2, q5⟩ => ?_))
    subst e2
    cases r5
    refine wpAny_truthy_bool ?_
    cases k2 with
    | false => exact ite_ff ⟨.bl false, H5, I5, rfl, q5⟩
    | true => exact ite_tt (chain_last (thn (hd.run pins s5 σ H5 _ I5 q5) fun w2 s6 ⟨z3, H6, I6, r6, q6⟩ => ho'' pins s6 σ H6 z' z3 w' w2 Q I6 r4 r6 q6))
abbrev rSIdx : V → List V → Hp → VK → Prop := fun x xs H Q => ∃ a b i rest, x = .str a ∧ xs = [.str b] ∧ Builtin.Str.occurrences a b 0 a.length 1 = i :: rest ∧ Q (.int (i : Nat)) H
theorem mt_sidx {X : Cx} : MtR X "str.index" rSIdx := mt_sindex
section
variable {K : PySem.W.Frag} {W : WX} {ta : TE} {tas : TA} {a : ME} {as : MA}
def eSIdx (o : ME) (as : MA) : ME := fun δ m => (o δ m).bind fun x m => match x with
  | .str z => (as δ m).bind fun xs m => match xs with
    | [.str y] => match Builtin.Str.occurrences z y 0 z.length 1 with
      | i :: _ => ret (.int (i : Nat)) m
      | [] => none
    | _ => none
  | _ => none
theorem so_sidx (ho : So K W (RE K) ta a) (hs : So K W (RA K) tas as) : So K W (RE K) (tBM K "str" rSIdx ta tas) (eSIdx a as) :=
  So.bind re_mon ho (k := fun (x : D) δ m => match x with
  | .str z => (as δ m).bind fun xs m => match xs with
    | [.str y] => match Builtin.Str.occurrences z y 0 z.length 1 with
      | i :: _ => ret (.int (i : Nat)) m
      | [] => none
    | _ => none
  | _ => none) (u := fun (x : V) σ H Q => tyV K "str" x H ∧ tas σ H fun xs H2 => rSIdx x xs H2 Q) fun x δ m res m' e v r F H σ _ hr er rv => by
    split at e
    · rename_i z
      cases rv
      refine jat_and (P := fun H => tyV K "str" (.str z) H) rfl ?_
      rcases bind_some e with ⟨xs, m1, e1, e2⟩ | ⟨y, e1, rfl⟩
      · refine (hs δ m _ _ e1 r F H σ hr er).bind re_mon hr fun vs r1 F1 H1 hr1 x1 rvs => ?_
        split at e2
        · rename_i y
          split at e2
          · rename_i i rest ho
            cases e2
            obtain ⟨w, rfl, pw⟩ := rep1 rvs
            cases pw
            exact fun Q q => ⟨z, y, i, rest, rfl, rfl, ho, q _ r1 F1 H1 hr1 (Ext.refl hr1) (.int _)⟩
          · cases e2
        · cases e2
      · exact (hs δ m _ _ e1 r F H σ hr er).thrown
    · cases e
def toBools : List D → Option (List Bool)
  | [] => some []
  | .bl b :: ds => (toBools ds).map (b :: ·)
  | _ :: _ => none
theorem toBools_map : ∀ bs : List Bool, toBools (bs.map D.bl) = some bs
  | [] => rfl
  | b :: bs => by
    show (toBools (bs.map D.bl)).map _ = _
    rw [toBools_map bs]; rfl
theorem toBools_eq : ∀ {ds : List D} {bs : List Bool}, toBools ds = some bs → ds = bs.map D.bl
  | [], _, h => by cases h; rfl
  | d :: ds, bs, h => by
    unfold toBools at h
    split at h
    · rename_i e; cases e
    · rename_i b ds' e
      cases e
      cases h1 : toBools ds with
      | none => rw [h1] at h; cases h
      | some cs =>
        rw [h1] at h
        cases h
        rw [toBools_eq h1]; rfl
    · cases h
theorem repAll_bools {r : List Addr} {F : Hp} : ∀ {bs : List Bool} {vs : List V}, RepAll K r F vs (bs.map D.bl) → vs = bs.map V.bl
  | [], _, h => by cases h; rfl
  | b :: bs, _, h => by
    cases h with
    | cons p q =>
      cases p
      rw [repAll_bools q]; rfl
def pIndexB : D → List D → Store → MX D := fun x as m => match as with
  | [.bl k] => (rdQ m x).bind fun ds => (toBools ds).bind fun ns => if ns.idxOf k < ns.length then ret (.int (ns.idxOf k : Nat)) m else none
  | _ => none
theorem sm_pIndexB : SM K W (rIndex K) pIndexB := fun x xs m res m' e r F H σ v vs hr px ps => by
  unfold pIndexB at e
  split at e
  · rename_i k
    cases h0 : rdQ m x with
    | none => rw [h0] at e; cases e
    | some ds =>
      rw [h0] at e
      simp only [Option.bind_some] at e
      cases h1 : toBools ds with
      | none => rw [h1] at e; cases e
      | some ns =>
        rw [h1] at e
        simp only [Option.bind_some] at e
        split at e
        · rename_i hlt
          cases e
          cases toBools_eq h1
          obtain ⟨p, ws, rfl, hs, ra⟩ := rdQ_get h0 hr px
          cases repAll_bools ra
          obtain ⟨y, rfl, py⟩ := rep1 ps
          cases py
          have hat : ns[ns.idxOf k]? = some k := by
            rw [List.getElem?_eq_getElem hlt]
            exact congrArg some (List.getElem_idxOf hlt)
          have ev : ∀ b c : Bool, eqV (.bl b) (.bl c) = decide (b = c) := fun b c => by cases b <;> cases c <;> rfl
          refine fun Q q => ⟨p, ns.map V.bl, .bl k, ns.idxOf k, .bl k, rfl, rfl, hs, rfl, by simp [flatV], ?_, by rw [ev]; simp, fun j z hj hz => ?_, q _ r F H hr (Ext.refl hr) (.int _)⟩
          · rw [List.getElem?_map, hat]; rfl
          · rw [List.getElem?_map] at hz
            obtain ⟨b, hb, rfl⟩ := Option.map_eq_some_iff.mp hz
            rw [ev]
            refine decide_eq_false fun hbk => ?_
            subst hbk
            have hj' : j < ns.length := (List.getElem?_eq_some_iff.mp hb).1
            have e2 : ns[j] = b := (List.getElem?_eq_some_iff.mp hb).2
            have := List.not_of_lt_findIdx (p := (· == b)) (xs := ns) hj
            simp [e2] at this
        · cases e
  · cases e
/-- xs == [] -/
def pEqNd : D → D → Store → MX D := fun x y m => match x, y with
  | .cell k, .lst [] => match m[k]? with
    | some (.lst xs) => ret (.bl xs.isEmpty) m
    | _ => none
  | .lst xs, .lst [] => ret (.bl xs.isEmpty) m
  | _, _ => none
theorem s2_pEqNd : S2 K W rEqNl pEqNd := fun x y m res m' e r F H σ vx vy hr px py => by
  unfold pEqNd at e
  split at e
  · exact s2_pEqNl _ _ m res m' (by unfold pEqNl; exact e) r F H σ vx vy hr px py
  · rename_i xs
    cases e
    cases px with
    | lst h1 r1 =>
      cases py with
      | lst h2 r2 =>
        cases r2
        rename_i a1 vs a2
        have : xs.isEmpty = vs.isEmpty := by cases r1 <;> rfl
        rw [this]
        exact fun Q q => ⟨_, _, vs, rfl, rfl, hr.sub _ _ h1, hr.sub _ _ h2, q _ r F H hr (Ext.refl hr) (.bl _)⟩
  · cases e
/-- d.update(e) -/
def rUpdD : V → List V → Hp → VK → Prop := fun x xs H Q => ∃ (a b : Addr) (kvs more : List (Key × V)), x = .ref a ∧ xs = [.ref b] ∧ a ≠ b ∧ H a = some (.dK kvs) ∧ H b = some (.dK more) ∧ kvs.length + more.length ≤ sizeLine ∧
  Q .non (upd H a (.dK (more.foldl (fun acc p => putK acc p.1 p.2) kvs)))
theorem KV.merge {κ : Type} [DecidableEq κ] {more : List (κ × V)} {ms : List (κ × Value)} (h : KV more ms) : ∀ {kvs : List (κ × V)} {vs : List (κ × Value)}, KV kvs vs → KV (more.foldl (fun acc p => putK acc p.1 p.2) kvs) (merged vs ms) := by
  unfold KV at h
  induction h with
  | nil => exact fun h => h
  | @cons p q ps qs hq t ih =>
    intro kvs vs hk
    obtain ⟨h1, h2⟩ := hq
    show KV (ps.foldl _ (putK kvs p.1 p.2)) (merged (stored vs q.1 q.2) qs)
    refine ih ?_
    rw [← h1]
    exact hk.put p.1 h2
theorem putK_len {κ : Type} [DecidableEq κ] (kvs : List (κ × V)) (k : κ) (v : V) : (putK kvs k v).length ≤ kvs.length + 1 := by
  unfold putK
  split <;> simp
theorem merge_len {κ : Type} [DecidableEq κ] : ∀ (more kvs : List (κ × V)), (more.foldl (fun acc p => putK acc p.1 p.2) kvs).length ≤ kvs.length + more.length
  | [], kvs => by simp
  | p :: more, kvs => by
    have h1 := merge_len more (putK kvs p.1 p.2)
    have h2 := putK_len kvs p.1 p.2
    simp only [List.foldl_cons, List.length_cons]
    omega
theorem mt_updD {X : Cx} : MtR X "dict.update" rUpdD := by
  intro pins s σ H x xs v us Q I rx rv h
  obtain ⟨a, b, kvs, more, rfl, rfl, hab, hH, hB, hz, q⟩ := h
  cases rx
  obtain ⟨u, rfl, ru⟩ := rv.one
  cases ru
  obtain ⟨z, hd, vs, rel, dd⟩ := dk_of I.hok hH
  obtain ⟨z2, hd2, vs2, rel2, dd2⟩ := dk_of I.hok hB
  refine call_meetsIn PySem.F.slot_dict_update dd.typeIs PySem.F.entry_dict_update (PySem.F.args_dict_update_2 _ _) (meets_dict_update (mixKind X.prog X.w) a b hab hd2)
    ⟨vs, vs2, dd, dd2, by rw [← rel.length, ← rel2.length]; exact hz, fun h' d1 d2 hs => ?_⟩
  have he : ∃ q, h'.get? a = some q := let ⟨q, _, _, hq, _⟩ := d1; ⟨q, hq⟩
  exact ⟨.non, _, d_write I (by rw [hH]; exact True.intro) hs he (dk_new (Nat.le_trans (merge_len more kvs) hz) hd (rel2.merge rel) d1), rfl, q⟩
theorem rep_merge {r : List Addr} {F : Hp} : ∀ {gs2 : List (Key × V)} {kvs2 : List (Key × D)}, RepK K r F gs2 kvs2 → ∀ {gs : List (Key × V)} {kvs : List (Key × D)}, RepK K r F gs kvs → RepK K r F (gs2.foldl (fun acc p => putK acc p.1 p.2) gs) (kvs2.foldl (fun acc p => putD acc p.1 p.2) kvs)
  | [], [], _, _, _, h => h
  | (x, v) :: gs2, (y, d) :: kvs2, h2, _, _, h => by
    obtain ⟨e, p, t⟩ := h2
    subst e
    exact rep_merge t (rep_put p h)
  | [], _ :: _, h, _, _, _ => h.elim
  | _ :: _, [], h, _, _, _ => h.elim
def eUpd (a b : ME) : ME := fun δ m => (a δ m).bind fun x m => match cellK m x with
  | some _ => (b δ m).bind fun y m => match cellK m x, cellK m y with
    | some (k, kvs), some (l, more) => if k ≠ l ∧ kvs.length + more.length ≤ 100000 then ret .non (m.set k (.dK (more.foldl (fun acc p => putD acc p.1 p.2) kvs))) else none
    | _, _ => none
  | none => none
theorem so_upd {tb : TE} {b : ME} (ha : So K W (RE K) ta a) (hb : So K W (RE K) tb b) : So K W (RE K) (tBM K "dict" rUpdD ta (tCons tb tNil)) (eUpd a b) := fun δ m res m' e r F H σ hr er => by
  show JAt K W (RE K) r F H σ m (fun H Q => ta σ H fun x H1 => tyV K "dict" x H1 ∧ tb σ H1 fun y H2 => rUpdD x [y] H2 Q) res m'
  rcases bind_some e with ⟨x, m1, e1, e2⟩ | ⟨y, e1, rfl⟩
  · refine (ha δ m _ _ e1 r F H σ hr er).bind (u := fun x H1 Q => tyV K "dict" x H1 ∧ tb σ H1 fun y H2 => rUpdD x [y] H2 Q) re_mon hr fun v r1 F1 H1 hr1 x1 rv => ?_
    split at e2
    · rename_i p1 h0
      obtain ⟨k1, kvs1⟩ := p1
      obtain ⟨ad, gs, rfl, ea, hk, h3, h4⟩ := cellK_get h0 hr1 rv
      have ty : tyV K "dict" (.ref ad) H1 := .inr (.inr (.inl ⟨rfl, .inl ⟨gs, h3⟩⟩))
      refine jat_and (P := fun H => tyV K "dict" (.ref ad) H) ty ?_
      rcases bind_some e2 with ⟨y, m2, e3, e4⟩ | ⟨y, e3, rfl⟩
      · refine (hb δ m1 _ _ e3 r1 F1 H1 σ hr1 (er.ext x1)).bind re_mon hr1 fun yv r2 F2 H2 hr2 x2 ry => ?_
        split at e4
        · rename_i k kvs l more h5 h6
          split at e4
          · rename_i hc
            cases e4
            obtain ⟨ad2, gs2, e5, ea2, hk2, h8, h9⟩ := cellK_get h5 hr2 (rv.mono x2.pre x2.sub)
            cases e5
            obtain ⟨bd, gs3, rfl, eb, hk3, h10, h11⟩ := cellK_get h6 hr2 ry
            have lv : live m2 k := ⟨_, hk2, rfl⟩
            have lb : live m2 l := ⟨_, hk3, rfl⟩
            have z1 : HR K r2 F2 (upd H2 ad (.dK (gs3.foldl (fun acc p => putK acc p.1 p.2) gs2))) (m2.set k (.dK (more.foldl (fun acc p => putD acc p.1 p.2) kvs))) := hr2.put lv ea2 (fun b z => by rw [h8] at z; cases z) ⟨_, upd_same, rep_merge h11 h9⟩
            refine fun Q q => ⟨ad, bd, gs2, gs3, rfl, rfl, fun z => ?_, h8, h10, ?_, q _ r2 F2 _ z1 (Ext.put hr2 lv ea2) .non⟩
            · rw [← z] at eb
              exact hc.1 (hr2.inj k l ad ea2 eb lv lb)
            · have := Evl.sz_of (show gs2.length + gs3.length ≤ 100000 by rw [rep_len h9, rep_len h11]; exact hc.2)
              exact this
          · cases e4
        · cases e4
      · exact (hb δ m1 _ _ e3 r1 F1 H1 σ hr1 (er.ext x1)).thrown
    · cases e2
  · exact (ha δ m _ _ e1 r F H σ hr er).thrown (u := fun x H1 Q => tyV K "dict" x H1 ∧ tb σ H1 fun y H2 => rUpdD x [y] H2 Q)
end
end DL
/-! a list, whatever stands in it, is not [] -/
namespace DL
open PySem PySem.Spec PyProof.Rows L2
def rNeNl : R2 := fun x y H Q => ∃ a b xs, x = .ref a ∧ y = .ref b ∧ H a = some (.lst xs) ∧ H b = some (.lst []) ∧ Q (.bl (!xs.isEmpty)) H
theorem op_neNl {X : Cx} (hu : X.A.units + 64 < cLine) : OpR X (compareOp .NotEq) rNeNl := by
  intro pins s σ H x y v u Q I rx ry h
  obtain ⟨a, b, xs, rfl, rfl, ha, hb, q⟩ := h
  cases (show v = Value.ref a from rx)
  cases (show u = Value.ref b from ry)
  obtain ⟨us, r1, p1, _⟩ := I.list (.inl (.inl ha))
  obtain ⟨ws, r2, p2, _⟩ := I.list (.inl (.inl hb))
  have l1 := r1.length
  have l2 := r2.length
  have l2' : ws.length = 0 := by rw [← l2]; rfl
  cases xs with
  | nil =>
    have l1' : us.length = 0 := by rw [← l1]; rfl
    refine SeqAt.RcNeAt.lists (e := fun _ => true) p1.isList p2.isList (by simp [l1', l2']) (by omega) (fun j h1 h2 => ?_) _ _ _ _ ?_
    · simp [l1'] at h1
    · rw [show ((List.range us.toArray.size).all fun _ => true) = true from List.all_eq_true.mpr fun _ _ => rfl]
      exact ⟨.bl false, H, I, rfl, q⟩
  | cons x xs =>
    have l1' : us.length = xs.length + 1 := by rw [← l1]; rfl
    exact SeqAt.RcNeAt.lists_lengths p1.isList p2.isList (by simp [l1', l2']) (by omega) _ _ _ _ ⟨.bl true, H, I, rfl, q⟩
def pNeNd : D → D → Store → MX D := fun x y m => match x, y with
  | .cell k, .lst [] => match m[k]? with
    | some (.lst xs) => ret (.bl (!xs.isEmpty)) m
    | _ => none
  | .lst xs, .lst [] => ret (.bl (!xs.isEmpty)) m
  | _, _ => none
section
variable {K : PySem.W.Frag} {W : WX}
theorem s2_pNeNd : S2 K W rNeNl pNeNd := fun x y m res m' e r F H σ vx vy hr px py => by
  unfold pNeNd at e
  split at e
  · rename_i k
    split at e
    · rename_i xs hk
      cases e
      cases px with
      | cell ea =>
        cases py with
        | lst hs ra =>
          cases ra
          obtain ⟨_, vs, h1, h2⟩ := hr.cell _ _ _ ea hk rfl
          have : xs.isEmpty = vs.isEmpty := by cases h2 <;> rfl
          exact fun Q q => ⟨_, _, vs, rfl, rfl, h1, hr.sub _ _ hs, by rw [← this]; exact q _ r F H hr (Ext.refl hr) (.bl _)⟩
    · cases e
  · rename_i xs
    cases e
    cases px with
    | lst h1 r1 =>
      cases py with
      | lst h2 r2 =>
        cases r2
        rename_i a1 vs a2
        have : xs.isEmpty = vs.isEmpty := by cases r1 <;> rfl
        rw [this]
        exact fun Q q => ⟨_, _, vs, rfl, rfl, hr.sub _ _ h1, hr.sub _ _ h2, q _ r F H hr (Ext.refl hr) (.bl _)⟩
  · cases e
end
end DL
/-! list(range(i, j)) -/
namespace DL
open PySem PySem.Spec PyProof.Rows L2
section
variable {K : PySem.W.Frag} {W : WX} {ta tb : TE}
open Classical in
noncomputable def fRg2 (a b : ME) : MF := fun δ m => (a δ m).bind fun x m => (b δ m).bind fun y m => match x, y with
  | .int i, .int j => if Rg62 i ∧ Rg62 j ∧ j - i ≤ 100000 then ret (.own (rng i (j - i).toNat)) m else none
  | _, _ => none
open Classical in
theorem so_rg2 {a b : ME} (ha : So K W (RE K) ta a) (hb : So K W (RE K) tb b) : So K W (RF K) (tLstRg (tRg2 ta tb)) (fRg2 a b) := fun δ m res m' e r F H σ hr er => by
  show JAt K W (RF K) r F H σ m (fun H Q => ta σ H fun x H1 => tb σ H1 fun y H2 => ∃ i j, x = .int i ∧ y = .int j ∧ (RgOk i j ∧ ∀ q, H2 q = none → Q (.ref q) (upd H2 q (.lst (rgV i j))))) res m'
  rcases bind_some e with ⟨x, m1, e1, e2⟩ | ⟨y, e1, rfl⟩
  · refine (ha δ m _ _ e1 r F H σ hr er).bind rf_mon hr fun v r1 F1 H1 hr1 x1 rv => ?_
    rcases bind_some e2 with ⟨y, m2, e3, e4⟩ | ⟨y, e3, rfl⟩
    · refine (hb δ m1 _ _ e3 r1 F1 H1 σ hr1 (er.ext x1)).bind rf_mon hr1 fun w r2 F2 H2 hr2 x2 rw2 => ?_
      split at e4
      · rename_i i j
        split at e4
        · rename_i hn
          cases e4
          cases rv
          cases rw2
          have h1 := hn.1
          have h2 := hn.2.1
          unfold Rg62 at h1 h2
          refine fun Q q => ⟨i, j, rfl, rfl, ⟨by omega, by omega, by omega, by omega, by omega⟩, fun p hp => ?_⟩
          obtain ⟨q1, q2, q3⟩ := rf_new (xs := rng i (j - i).toNat) hr2 hp (repAll_rg (K := K) (r := r2) (F := F2) i j)
          exact q _ r2 F2 _ q1 q2 q3
        · cases e4
      · cases e4
    · exact (hb δ m1 _ _ e3 r1 F1 H1 σ hr1 (er.ext x1)).thrown
  · exact (ha δ m _ _ e1 r F H σ hr er).thrown
end
end DL
/-! sorted of pairs of texts -/
namespace SrtQ
open PySem PyProof.Rows Srt SrtO
def ltN (a b : Str) : Bool := decide (a.cps.toList < b.cps.toList)
theorem ltN_irr {a : Str} : ltN a a = false := decide_eq_false (List.lt_irrefl _)
theorem ltN_asym {a b : Str} (h : ltN a b = true) : ltN b a = false := decide_eq_false (List.lt_asymm (of_decide_eq_true h))
theorem ltN_tr {a b c : Str} (h1 : ltN b a = false) (h2 : ltN c b = false) : ltN c a = false := by
  have x := List.not_lt.mp (of_decide_eq_false h1)
  have y := List.not_lt.mp (of_decide_eq_false h2)
  exact decide_eq_false (List.not_lt.mpr (List.le_trans x y))
theorem ltN_eq {a b : Str} (h1 : ltN a b = false) (h2 : ltN b a = false) : a = b := by
  have x := List.not_lt.mp (of_decide_eq_false h1)
  have y := List.not_lt.mp (of_decide_eq_false h2)
  have z := List.le_antisymm y x
  cases a; cases b
  congr
  exact Array.toList_inj.mp z
def ltQ (a b : Str × Str) : Bool := if a.1 = b.1 then ltN a.2 b.2 else ltN a.1 b.1
theorem ltQ_asym {a b : Str × Str} (h : ltQ a b = true) : ltQ b a = false := by
  unfold ltQ at *
  by_cases e : a.1 = b.1
  · rw [if_pos e] at h; rw [if_pos e.symm]; exact ltN_asym h
  · rw [if_neg e] at h; rw [if_neg (fun z => e z.symm)]; exact ltN_asym h
theorem ltQ_tr {a b c : Str × Str} (h1 : ltQ b a = false) (h2 : ltQ c b = false) : ltQ c a = false := by
  unfold ltQ at *
  by_cases e1 : b.1 = a.1
  · rw [if_pos e1] at h1
    by_cases e2 : c.1 = b.1
    · rw [if_pos e2] at h2
      rw [if_pos (e2.trans e1)]
      exact ltN_tr h1 h2
    · rw [if_neg e2] at h2
      rw [if_neg (fun z => e2 (z.trans e1.symm)), ← e1]
      exact h2
  · rw [if_neg e1] at h1
    by_cases e2 : c.1 = b.1
    · rw [e2, if_neg e1]; exact h1
    · rw [if_neg e2] at h2
      by_cases e3 : c.1 = a.1
      · exfalso
        rw [e3] at h2
        exact e1 (ltN_eq h1 h2)
      · rw [if_neg e3]
        exact ltN_tr h1 h2
theorem ltQ_eq {a b : Str × Str} (h1 : ltQ a b = false) (h2 : ltQ b a = false) : a = b := by
  unfold ltQ at *
  by_cases e : a.1 = b.1
  · rw [if_pos e] at h1; rw [if_pos e.symm] at h2
    exact Prod.ext e (ltN_eq h1 h2)
  · rw [if_neg e] at h1; rw [if_neg (fun z => e z.symm)] at h2
    exact absurd (ltN_eq h1 h2) e
theorem swo_q {α : Type} (k : α → Str × Str) : Swo fun v u => ltQ (k v) (k u) := ⟨fun _ _ h => ltQ_asym h, fun _ _ _ h1 h2 => ltQ_tr h1 h2⟩
def IsQ (h : Heap) (v : Value) (p : Str × Str) : Prop := ∃ a o xs n t u, v = .ref a ∧ h.get? a = some o ∧ o.cls = .type "tuple" ∧ o.data = .seq xs n ∧ xs.toList = [.str p.1 t, .str p.2 u]
theorem IsQ.keeps {h h' : Heap} {v : Value} {p : Str × Str} (q : IsQ h v p) (k : ∀ b o, h.get? b = some o → o.cls = .type "tuple" → h'.get? b = some o) : IsQ h' v p := by
  obtain ⟨a, o, xs, n, t, u, e, ho, hc, hd, hi⟩ := q
  exact ⟨a, o, xs, n, t, u, e, k _ _ ho hc, hc, hd, hi⟩
section
variable {prog : Program} {w : World} {A : Around} {E : Value → Shared → Prop} {s : Shared}
theorem lexq {b : Bool} {Q : Bool → Shared → Prop} {p q : Str × Str} {t t2 u u2 : Tok} (h : Q (ltQ p q) s) : PySem.W.KatLex prog w A b false Q ([(.str p.1 t, .str q.1 u), (.str p.2 t2, .str q.2 u2)]) 0 s := by
  unfold ltQ at h
  refine PySem.W.kat_cons (SeqAt.EqAt.str_str p.1 t q.1 u prog w _ _ ?_)
  refine PySem.W.kat_go (fun e1 => ?_) (fun e1 => ?_)
  · have e : p.1 = q.1 := by simpa using e1
    rw [if_pos e] at h
    refine PySem.W.kat_yes ?_
    refine PySem.W.kat_cons (SeqAt.EqAt.str_str p.2 t2 q.2 u2 prog w _ _ ?_)
    refine PySem.W.kat_go (fun e1 => ?_) (fun e1 => ?_)
    · have e2 : p.2 = q.2 := by simpa using e1
      rw [e2, ltN_irr] at h
      exact PySem.W.kat_yes (PySem.W.kat_nil h)
    · exact PySem.W.kat_no (oneLt_any_str h)
  · have e : ¬ p.1 = q.1 := by simpa using e1
    rw [if_neg e] at h
    exact PySem.W.kat_no (oneLt_any_str h)
theorem q_cmp {vs : List Value} {k : Value → Str × Str} (hp : ∀ v ∈ vs, IsQ s.heap v (k v)) : Cmp prog w A s (tuples' true) (fun p => p.1 ∈ vs) (lt2 fun v u => ltQ (k v) (k u)) := by
  intro p q hm hm'
  have h1 := hp _ hm
  have h2 := hp _ hm'
  show wpAny (model prog w) A (keyLt' (tuples' true) p.1 q.1) (fun r s' => s' = s ∧ r = ltQ (k p.1) (k q.1)) (fun _ _ => False) s
  generalize k p.1 = ns at h1 ⊢
  generalize k q.1 = ms at h2 ⊢
  obtain ⟨a, o, xs, n, t, u, e, ho, hc, hd, hi⟩ := h1
  obtain ⟨a', o', xs', n', t', u', e', ho', hc', hd', hi'⟩ := h2
  rw [e, e']
  refine PySem.W.kat_lt ho hd ho' hd' ?_
  have z1 : xs.size = 2 := by rw [← Array.length_toList, hi]; rfl
  have z2 : xs'.size = 2 := by rw [← Array.length_toList, hi']; rfl
  rw [show decide (xs.size < xs'.size) = false from decide_eq_false (by omega), hi, hi']
  exact lexq ⟨rfl, rfl⟩
theorem firstq {h : Heap} {k : Value → Str × Str} : ∀ {vs : List Value}, (∀ v ∈ vs, IsQ h v (k v)) → ∃ fs : List Value, PySem.W.KatTups h vs fs ∧ fs.length = vs.length ∧ ∀ f ∈ fs, ∃ x t, f = Value.str x t
  | [], _ => ⟨[], PySem.W.KatTups.nil, rfl, fun _ hm => by simp at hm⟩
  | v :: vs, hp => by
    obtain ⟨fs, h1, h2, h3⟩ := firstq (vs := vs) fun v' hm => hp v' (List.mem_cons_of_mem _ hm)
    obtain ⟨a, o, xs, n, t, u, e, ho, hc, hdt, hi⟩ := hp v (List.mem_cons_self ..)
    generalize k v = ns at hi
    subst e
    have h0 : xs[0]? = some (Value.str ns.1 t) := by
      rw [← Array.getElem?_toList, hi]; rfl
    refine ⟨.str ns.1 t :: fs, PySem.W.KatTups.cons ho hc hdt h0 h1, by rw [List.length_cons, List.length_cons, h2], fun f hm => ?_⟩
    rcases List.mem_cons.mp hm with rfl | hm
    · exact ⟨_, t, rfl⟩
    · exact h3 f hm
theorem q_sortable {a : Addr} {vs : List Value} {k : Value → Str × Str} (h0 : 0 < vs.length) (hp : ∀ v ∈ vs, IsQ s.heap v (k v)) (ha : ∀ o, s.heap.get? a = some o → o.cls ≠ .type "tuple") : SortableO prog w A s a vs fun v u => ltQ (k v) (k u) := by
  intro h' keep
  have hp' : ∀ v ∈ vs, IsQ h' v (k v) := fun v hm => (hp v hm).keeps fun b o e c => keep b o (fun z => by subst z; exact ha o e c) e
  obtain ⟨fs, h1, h2, h3⟩ := firstq hp'
  refine ⟨tuples' true, fun Q E hq => ?_, q_cmp hp'⟩
  refine PySem.W.kat_kind (T := .type "str") h1 (by omega) (fun f hm => ?_) (by rfl) ?_
  · obtain ⟨x, t, rfl⟩ := h3 f hm
    exact PySem.W.Looks.now
  · have e : (Value.type "str" != Value.type "tuple") = true := by first | decide +kernel | rfl | decide
    rw [e]
    exact hq
theorem sorted_q {l : Addr} {vs : List Value} {k : Value → Str × Str} {Q : Value → Shared → Prop} (hl : s.heap.IsList l vs.toArray) (hz : vs.length ≤ sizeLine) (hp : ∀ v ∈ vs, IsQ s.heap v (k v))
    (h : ∀ (h' : Heap) (p : Addr) (out : List Value), Srtd (fun v u => ltQ (k v) (k u)) out → Stb (fun v u => ltQ (k v) (k u)) out vs → (∀ b o, s.heap.get? b = some o → h'.get? b = some o) → s.heap.objs.size ≤ p → (∃ n, h'.get? p = some (seqObj "list" out.toArray n)) → Q (.ref p) { s with heap := h' }) :
    wpAny (model prog w) A (call (.builtin "sorted") [.ref l]) Q E s := by
  refine sorted_ord (swo_q k) hl hz (fun h2 h₁ a ha kk => ?_) fun out hs hb => ?_
  · refine q_sortable (s := { s with heap := h₁ }) (by omega) (fun v hm => (hp v hm).keeps fun b o e _ => (kk b o e).2) fun o e => ?_
    have e' : some o = some (seqObj "list" vs.toArray 0) := e.symm.trans ha
    cases e'
    intro c
    exact absurd (Value.type.inj c) (by decide)
  · exact h _ _ out hs hb (fun b o e => sortedAll_old e) (Nat.le_succ _) (sortedAll_at s.heap vs out.toArray)
end
end SrtQ
namespace DL
open PySem PySem.Spec PyProof.Rows L2
def rSortedQ (K : PySem.W.Frag) : List V → Hp → VK → Prop := fun vs H Q => ∃ (a : Addr) (xs : List V) (k : V → Str × Str), vs = [V.ref a] ∧ SqL K H a xs ∧ (∀ x ∈ xs, ∃ t, x = V.ref t ∧ H t = some (.tup [V.str (k x).1, V.str (k x).2])) ∧
  ∀ ys p, SrtO.Srtd (fun x y => SrtQ.ltQ (k x) (k y)) ys → SrtO.Stb (fun x y => SrtQ.ltQ (k x) (k y)) ys xs → H p = none → Q (.ref p) (upd H p (.lst ys))
section
variable {X : Cx}
theorem cr_sortedQ : CallR X (.builtin "sorted") (rSortedQ X.K) := by
  intro pins s σ H vs us Q I r h
  obtain ⟨a, xs, k, rfl, hs, hx, q⟩ := h
  obtain ⟨its, rv, hl, hz⟩ := I.list hs
  obtain ⟨u, rfl, ru⟩ := vals1 r
  obtain rfl : u = Value.ref a := ru
  obtain ⟨e1, e2⟩ := refs_back rv fun x m => by
    obtain ⟨t, e, _⟩ := hx x m
    exact ⟨t, e⟩
  refine SrtQ.sorted_q (k := fun u => k (backV u)) hl.isList (by rw [← rv.length]; exact hz) (fun v hv => ?_) fun h' p out h1 h2 kp hd' hn => ?_
  · obtain ⟨t, rfl⟩ := e2 v hv
    have hm : V.ref t ∈ xs := by rw [e1]; exact List.mem_map.mpr ⟨_, hv, rfl⟩
    obtain ⟨t', e, ht⟩ := hx _ hm
    cases e
    obtain ⟨_, its2, r2, o, ho, hc, n, hdt⟩ := I.hok _ _ ht
    cases r2 with
    | cons ra rb =>
      cases rb with
      | cons rb rc =>
        cases rc
        obtain ⟨ta, rfl⟩ := ra
        obtain ⟨tb, rfl⟩ := rb
        exact ⟨t, o, _, n, ta, tb, rfl, ho, hc, hdt, rfl⟩
  · have h3 : ∀ u ∈ out, ∃ a, u = Value.ref a := fun u hu => e2 u (h2.perm.mem_iff.mp hu)
    obtain ⟨n, hn⟩ := hn
    have hb : SrtO.Stb (fun x y => SrtQ.ltQ (k x) (k y)) (out.map backV) xs := by
      rw [e1]
      exact SrtO.Stb.map (SrtQ.swo_q k) backV h2
    refine ⟨.ref p, upd H p (.lst (out.map backV)), I.laid (t' := s.toks) kp hd' ⟨?_, out, n, vals_back h3, hn⟩, rfl, q _ p (SrtO.srtd_map (lt := fun x y => SrtQ.ltQ (k x) (k y)) h1) hb (I.hok.fresh hd')⟩
    rw [hb.len]
    exact hz
end
def eQ (p : Str × Str) : D := .tup [.str p.1, .str p.2]
def toQs : List D → Option (List (Str × Str))
  | [] => some []
  | .tup [.str a, .str b] :: ds => (toQs ds).map fun ps => (a, b) :: ps
  | _ :: _ => none
theorem toQs_map : ∀ (ps : List (Str × Str)), toQs (ps.map eQ) = some ps
  | [] => rfl
  | p :: ps => by
    show (toQs (ps.map eQ)).map _ = _
    rw [toQs_map ps]; rfl
theorem toQs_eq : ∀ {ds : List D} {ps : List (Str × Str)}, toQs ds = some ps → ds = ps.map eQ
  | [], _, h => by cases h; rfl
  | x :: ds, ps, h => by
    unfold toQs at h
    split at h
    · rename_i e; cases e
    · rename_i a b ds' e
      cases e
      cases q2 : toQs ds with
      | none => rw [q2] at h; cases h
      | some qs => rw [q2] at h; cases h; rw [toQs_eq q2]; rfl
    · cases h
def qle (p q : Str × Str) : Bool := !SrtQ.ltQ q p
theorem qle_trans (a b c : Str × Str) (h1 : qle a b = true) (h2 : qle b c = true) : qle a c = true := by
  unfold qle at *
  have := SrtQ.ltQ_tr (a := a) (b := b) (c := c) (by simpa using h1) (by simpa using h2)
  simp [this]
theorem qle_tot (a b : Str × Str) : (qle a b || qle b a) = true := by
  unfold qle
  cases h : SrtQ.ltQ b a with
  | false => rfl
  | true => rw [SrtQ.ltQ_asym h]; rfl
def qsort (ps : List (Str × Str)) : List (Str × Str) := ps.mergeSort qle
theorem qsort_perm (ps : List (Str × Str)) : (qsort ps).Perm ps := List.mergeSort_perm _ _
theorem qsort_sorted (ps : List (Str × Str)) : (qsort ps).Pairwise fun p q => qle p q = true := List.pairwise_mergeSort (le := qle) qle_trans qle_tot ps
theorem qsort_uniq {ps ps' : List (Str × Str)} (h1 : ps'.Perm ps) (h2 : ps'.Pairwise fun p q => qle p q = true) : ps' = qsort ps :=
  List.Perm.eq_of_pairwise (le := fun p q => qle p q = true) (fun a b _ _ x y => by
    unfold qle at x y
    exact SrtQ.ltQ_eq (by simpa using y) (by simpa using x)) h2 (qsort_sorted ps) (h1.trans (qsort_perm ps).symm)
def keyQ (H : Hp) : V → Str × Str
  | .ref t => match H t with
    | some (.tup [.str a, .str b]) => (a, b)
    | _ => ("", "")
  | _ => ("", "")
theorem keyQ_rep {K : PySem.W.Frag} {r : List Addr} {F H : Hp} (s : Same F H) {v : V} {p : Str × Str} (h : Rep K r F v (eQ p)) : keyQ H v = p ∧ ∃ t, v = .ref t ∧ H t = some (.tup [V.str p.1, V.str p.2]) := by
  cases h with
  | tup hs ha =>
    cases ha with
    | cons h1 h2 =>
      cases h2 with
      | cons h2 h3 =>
        cases h3
        cases h1
        cases h2
        have e := s _ _ hs
        refine ⟨?_, _, rfl, e⟩
        show (match H _ with | some (.tup [.str a, .str b]) => (a, b) | _ => ("", "")) = p
        rw [e]
theorem keysQ_rep {K : PySem.W.Frag} {r : List Addr} {F H : Hp} (s : Same F H) : ∀ {vs : List V} {ps : List (Str × Str)}, RepAll K r F vs (ps.map eQ) → vs.map (keyQ H) = ps ∧ ∀ v ∈ vs, Rep K r F v (eQ (keyQ H v))
  | [], [], _ => ⟨rfl, fun v hv => nomatch hv⟩
  | v :: vs, p :: ps, .cons h t => by
    obtain ⟨e1, e2⟩ := keysQ_rep s t
    obtain ⟨e3, _⟩ := keyQ_rep s h
    refine ⟨by rw [List.map_cons, e1, e3], fun w hw => ?_⟩
    rcases List.mem_cons.mp hw with rfl | hw
    · rw [e3]; exact h
    · exact e2 w hw
theorem repQ_keys {K : PySem.W.Frag} {r : List Addr} {F : Hp} {k : V → Str × Str} : ∀ {vs : List V}, (∀ v ∈ vs, Rep K r F v (eQ (k v))) → RepAll K r F vs ((vs.map k).map eQ)
  | [], _ => .nil
  | v :: vs, h => .cons (h v List.mem_cons_self) (repQ_keys fun w hw => h w (List.mem_cons_of_mem _ hw))
def pSortQ : List D → Store → MX FT := fun xs m => match xs with
  | [x] => (rdQ m x).bind fun ds => (toQs ds).bind fun ps => ret (.own ((qsort ps).map eQ)) m
  | _ => none
theorem sc_pSortQ {K : PySem.W.Frag} {W : WX} : SC K W (RF K) (rSortedQ K) pSortQ := fun xs m res m' e r F H σ vs hr p => by
  unfold pSortQ at e
  split at e
  · rename_i x
    cases h0 : rdQ m x with
    | none => rw [h0] at e; cases e
    | some ds =>
      rw [h0] at e
      simp only [Option.bind_some] at e
      cases h1 : toQs ds with
      | none => rw [h1] at e; cases e
      | some ps =>
        rw [h1] at e; cases e
        cases toQs_eq h1
        obtain ⟨v, rfl, pv⟩ := rep1 p
        obtain ⟨a, ws, rfl, hs, ra⟩ := rdQ_get h0 hr pv
        obtain ⟨e1, e2⟩ := keysQ_rep hr.sub ra
        refine fun Q q => ⟨_, ws, keyQ H, rfl, hs, fun x hx => (keyQ_rep hr.sub (e2 x hx)).2, fun ys p' h2 h3 hp' => ?_⟩
        have hp : ys.Perm ws := h3.perm
        have e3 : ys.map (keyQ H) = qsort ps := by
          refine qsort_uniq ?_ ?_
          · rw [← e1]; exact hp.map _
          · rw [List.pairwise_map]
            exact h2.imp fun {x y} z => by
              show (!SrtQ.ltQ (keyQ H y) (keyQ H x)) = true
              rw [show SrtQ.ltQ (keyQ H y) (keyQ H x) = false from z]; rfl
        have ra2 : RepAll K r F ys ((qsort ps).map eQ) := by
          rw [← e3]
          exact repQ_keys fun y hy => e2 y (hp.mem_iff.mp hy)
        obtain ⟨q1, q2, q3⟩ := rf_new hr hp' ra2
        exact q _ r F _ q1 q2 q3
  · cases e
end DL
/-! sorted of texts, fewer than 64 -/
namespace DL
open PySem PySem.Spec PyProof.Rows L2
def pSortS : List D → Store → MX FT := fun xs m => match xs with
  | [x] => (rdQ m x).bind fun ds => (toStrs ds).bind fun zs => if zs.length < 64 then ret (.own ((ssort zs).map D.str)) m else none
  | _ => none
theorem sc_pSortS {K : PySem.W.Frag} {W : WX} : SC K W (RF K) (rSortedS K) pSortS := fun xs m res m' e r F H σ vs hr p => by
  unfold pSortS at e
  split at e
  · rename_i x
    cases h0 : rdQ m x with
    | none => rw [h0] at e; cases e
    | some ds =>
      rw [h0] at e
      simp only [Option.bind_some] at e
      cases h1 : toStrs ds with
      | none => rw [h1] at e; cases e
      | some zs =>
        rw [h1] at e
        simp only [Option.bind_some] at e
        split at e
        · rename_i hl
          cases e
          cases toStrs_eq h1
          obtain ⟨v, rfl, pv⟩ := rep1 p
          obtain ⟨a, ws, rfl, hs, ra⟩ := rdQ_get h0 hr pv
          cases repStrs ra
          refine fun Q q => ⟨a, zs, rfl, hs, hl, fun ys p' py sy hp' => ?_⟩
          rw [ssort_uniq py sy]
          obtain ⟨q1, q2, q3⟩ := rf_new hr hp' (repAllStr (ssort zs))
          exact q _ r F _ q1 q2 q3
        · cases e
  · cases e
end DL
/-! membership of any data -/
namespace DL
open PySem PySem.Spec PyProof.Rows L2
theorem u65 {k : Nat} {A : Around} (r : Room k A) : A.units + 65 < cLine := by
  have := r.un
  omega
theorem any_toPys (x : D) : ∀ ys : List D, (D.toPys ys).any (fun z => PyData.eqv z x.toPy) = ys.any fun z => eqb z x
  | [] => rfl
  | y :: ys => by
    show (PyData.eqv y.toPy x.toPy || (D.toPys ys).any _) = (eqb y x || ys.any _)
    rw [any_toPys x ys]; rfl
open Classical in
noncomputable def pInD (neg : Bool) : D → D → Store → MX D := fun x y m => (vw m x).bind fun x => (vw m y).bind fun y => match y with
  | .lst ys => if Sh 60 x ∧ Sh 60 (.lst ys) then ret (.bl (if neg then !(ys.any fun z => eqb z x) else ys.any fun z => eqb z x)) m else none
  | _ => none
def rInDn (K : PySem.W.Frag) (neg : Bool) : R2 := if neg then rNotInD K else rInD K
theorem s2_pInD {neg : Bool} {K : PySem.W.Frag} {W : WX} : S2 K W (rInDn K neg) (pInD neg) := fun x y m res m' e r F H σ vx vy hr px py => by
  unfold pInD at e
  cases h1 : vw m x with
  | none => rw [h1] at e; cases e
  | some x' =>
    rw [h1] at e
    cases h2 : vw m y with
    | none => rw [h2] at e; cases e
    | some y' =>
      rw [h2] at e
      simp only [Option.bind_some] at e
      split at e
      · rename_i ys
        split at e
        · rename_i hs
          have s1 := vw_sd h1 hs.1
          have s2 := vw_sd h2 hs.2
          cases neg with
          | true =>
            cases e
            exact fun Q q => ⟨_, _, s1.pd.1.dp hr px, s2.pd.1.dp hr py, s1.pd.2.1, s2.pd.2.1, q _ r F H hr (Ext.refl hr) (by rw [any_toPys]; exact .bl _)⟩
          | false =>
            cases e
            exact fun Q q => ⟨_, _, s1.pd.1.dp hr px, s2.pd.1.dp hr py, s1.pd.2.1, s2.pd.2.1, q _ r F H hr (Ext.refl hr) (by rw [any_toPys]; exact .bl _)⟩
        · cases e
      · cases e
end DL
/-! try: .. except ShelfError: a suite -/
namespace DL
open PySem PySem.Spec PyProof.Rows L2
theorem takes_none {X : Cx} : Takes X (fun _ _ _ _ => False) := fun u s' ⟨_, _, _, _, _, _, _, _, _, _, _, _, _, _, _, _, w⟩ => w.elim
def tTryO (K : PySem.W.Frag) (c : Value) (tb : WX → TS) (ts : TS) : TS := fun D σ H => tb (wOnly K c (fun _ _ _ => ts) (fun _ _ _ _ => False) D) D σ H
def sTryO (ns : List Str) (b h : MS) : MS := fun δ m => match b δ m with
  | some (.ex x δ1 m1) => if x ∈ ns then h δ1 m1 else none
  | o => o
theorem ss_tryO {K : PySem.W.Frag} {ns : List Str} {t u : WX → TS} {b h : MS} (xs : Xs K ns) (hb : SS K t b) (hh : SS K u h) : SS K (fun W => tTryO K (.ref (ga K "ShelfError")) t (u W)) (sTryO ns b h) := fun W δ m o q => by
  unfold sTryO at q
  cases hq : b δ m with
  | none => rw [hq] at q; cases q
  | some o1 =>
    rw [hq] at q
    cases o1 with
    | ex x δ1 m1 =>
      dsimp only at q
      split at q
      · rename_i hx
        exact fun r F H σ D hr er k => hb _ δ m _ hq r F H σ D hr er fun σ1 r1 F1 H1 hr1 er1 x1 => ⟨true, xs.exm x hx, fun _ a na => hh W δ1 m1 o q r1 F1 H1 σ1 D hr1 er1 (k.ext hr.len hr1.len x1), fun z => nomatch z⟩
      · cases q
    | nx δ1 m1 => cases q; exact fun r F H σ D hr er k => hb _ δ m _ hq r F H σ D hr er k
    | rt d m1 => cases q; exact fun r F H σ D hr er k => hb _ δ m _ hq r F H σ D hr er k
    | bk δ1 m1 => cases q; exact fun r F H σ D hr er k => hb _ δ m _ hq r F H σ D hr er k
    | ct δ1 m1 => cases q; exact fun r F H σ D hr er k => hb _ δ m _ hq r F H σ D hr er k
end DL
namespace DL
open PySem PySem.Spec PyProof.Rows L2
local macro_rules | `(tactic| simp! only [$ls,*] $[$loc]?) => `(tactic| simp only [fnOf, endF, st, eC, eVar, eOp, eUn, eAnd, eOr, eNot, tst, mAnd, mOr, mNot, mYes, eIf, eChain, eChain3, aNil, aCons, eTup, eCB, fCB, fLst, dat, cel, pla, FT.dat, F1.dat, FT.cel, celL, sNext, sBreak, sCont, sRetN, sSeq, sAsg, sSet, sPar, par2, sExpr, sRet, sIf, sRaise, fCall, fCall0, pAdd, pSub, pLt, pLe, pGt, pGe, pEq, pNe, pIsN, pNotN, pIxT, pNeg, pMax2, pMin2, pMax3, pMin3, bind_ok, bind_ex, sure_ok, run_ok, run_ex, mName, mTup, msNil, msCons, List.length_cons, List.length_nil, List.map_cons, List.map_nil, List.replicate_zero, List.replicate_succ, List.append_nil, List.cons_append, List.nil_append, List.getElem?_cons_zero, List.getElem?_cons_succ, List.set_cons_zero, List.set_cons_succ, Option.bind_some, Option.map_some, Nat.sub_self, Nat.reduceSub, Nat.reduceAdd, fOp, pCat, fSl, oNone, oSome, fRev, eBM, eBM0, pAppend, pReverse, sSetI, sAug, eIsT, tyN, sFor, wList, wTup, wEnum, wZip, fLc, pIxL, pLen, pList, eBits, Bool.not_true, Bool.not_false, Bool.and_true, Bool.true_and, Bool.and_false, Bool.false_and, Bool.or_true, Bool.true_or, Bool.or_false, Bool.false_or, cond_true, cond_false, Nat.zero_add, Nat.reduceLeDiff, Nat.reduceLT, Int.reduceSub, Int.reduceNeg, Int.reduceAdd, Int.reduceToNat, if_true, ↓reduceIte, and_ret, or_ret, and_retB, or_retB, fin_same, List.length_set, rdQ_lst, rdL_lst, rdS_lst, rdS_tup, rdQ_scr, rdS_scr, vw_lst, vw_tup, pow_12, pow_9, pow_18, pow_29, atI_0, atI_1, atI_2, atI_3, $ls,*] $[$loc]?)
local macro_rules | `(tactic| simp_arith only [$ls,*] $[$loc]?) => `(tactic| simp only [st, eC, eVar, eOp, eUn, eAnd, eOr, eNot, tst, mAnd, mOr, mNot, mYes, eIf, eChain, eChain3, aNil, aCons, eTup, eCB, fCB, fLst, dat, cel, pla, FT.dat, F1.dat, FT.cel, celL, sNext, sBreak, sCont, sRetN, sAsg, sSet, sPar, par2, sExpr, sRet, sIf, sRaise, fCall, fCall0, pAdd, pSub, pLt, pLe, pGt, pGe, pEq, pNe, pIsN, pNotN, pIxT, pNeg, pMax2, pMin2, pMax3, pMin3, bind_ok, bind_ex, sure_ok, run_ok, run_ex, mName, mTup, msNil, msCons, List.length_cons, List.length_nil, List.map_cons, List.map_nil, List.replicate_zero, List.replicate_succ, List.append_nil, List.cons_append, List.nil_append, List.getElem?_cons_zero, List.getElem?_cons_succ, List.set_cons_zero, List.set_cons_succ, Option.bind_some, Option.map_some, Nat.sub_self, Nat.reduceSub, Nat.reduceAdd, fOp, pCat, fSl, oNone, oSome, fRev, eBM, eBM0, pAppend, pReverse, sSetI, sAug, eIsT, tyN, sFor, wList, wTup, wEnum, wZip, fLc, pIxL, pLen, pList, eBits, Bool.not_true, Bool.not_false, Bool.and_true, Bool.true_and, Bool.and_false, Bool.false_and, Bool.or_true, Bool.true_or, Bool.or_false, Bool.false_or, cond_true, cond_false, Nat.zero_add, Nat.reduceLeDiff, Nat.reduceLT, Int.reduceSub, Int.reduceNeg, Int.reduceAdd, Int.reduceToNat, if_true, ↓reduceIte, and_ret, or_ret, and_retB, or_retB, fin_same, List.length_set, rdQ_lst, rdL_lst, rdS_lst, rdS_tup, rdQ_scr, rdS_scr, vw_lst, vw_tup, pow_12, pow_9, pow_18, pow_29, atI_0, atI_1, atI_2, atI_3, ws_seq, ws_some, nx_nx, app_set, ws_cond, wp_some, endF_rt, endF_nx, endF_ex, cut_same, ixN_lit30, ixN_lit31, ixN_lit32, cond_true, cond_false, List.set_set, $ls,*] $[$loc]?)
/-! ### spans, in plain Lean -/
def isPlace (i : Int) : Bool := decide (0 - 1000000000000 < i) && decide (i < 1000000000000)
def isSpan (s : Sp2) : Bool := isPlace s.1 && (isPlace s.2 && decide (s.1 < s.2))
def Good (s : Sp2) : Prop := -1000000000000 < s.1 ∧ s.1 < s.2 ∧ s.2 < 1000000000000
theorem good_iff {s : Sp2} : isSpan s = true ↔ Good s := by simp [isSpan, isPlace, Good]; omega
theorem Good.isSpan {s : Sp2} (h : Good s) : isSpan s = true := good_iff.mpr h
/-! ### what reads as a list -/
theorem eq_of_wp {α : Type} {x : MX α} {a : RX α} {b : Store} (h : wp x (fun r m => r = a ∧ m = b)) : x = some (a, b) := by
  obtain ⟨r, m, e, rfl, rfl⟩ := wp_get h
  exact e
structure Rd (m : Store) (d : D) (xs : List D) : Prop where
  q : rdQ m d = some xs
  l : rdL m d = some xs
  s : rdS m d = some xs
  v : vw m d = some (.lst xs)
  t : tyN m d = some "list"
  i : isLst m d = true
  c : ∀ p ∈ srcOf d xs, m[p.1]? = some (.lst p.2)
theorem Rd.lst {m : Store} {xs : List D} : Rd m (.lst xs) xs := ⟨rfl, rfl, rfl, rfl, rfl, rfl, fun p hp => nomatch hp⟩
theorem Rd.cell {m : Store} {k : Nat} {xs : List D} (h : m[k]? = some (.lst xs)) : Rd m (.cell k) xs :=
  ⟨rdQ_cell h, rdL_cell h, rdS_cell h, vw_cell h, by unfold tyN; dsimp only; rw [h], isLst_cell h, fun p hp => by cases List.mem_singleton.mp hp; exact h⟩
theorem Rd.inv {m : Store} {d : D} {xs : List D} (h : Rd m d xs) : d = .lst xs ∨ ∃ k, d = .cell k ∧ m[k]? = some (.lst xs) := by
  have := h.l
  cases d with
  | lst ys => exact .inl (by have := Option.some.inj this; rw [this])
  | cell k => exact .inr ⟨k, rfl, cell_some this⟩
  | _ => cases this
theorem Rd.app {m l : Store} {d : D} {xs : List D} (h : Rd m d xs) : Rd (m ++ l) d xs := by
  rcases h.inv with rfl | ⟨k, rfl, e⟩
  · exact .lst
  · exact .cell (by rw [List.getElem?_append_left (List.getElem?_eq_some_iff.mp e).1]; exact e)
theorem Rd.set {m : Store} {d : D} {xs : List D} {k : Nat} {c : Cell} (h : Rd m d xs) (hk : d ≠ .cell k) : Rd (m.set k c) d xs := by
  rcases h.inv with rfl | ⟨j, rfl, e⟩
  · exact .lst
  · exact .cell (by rw [set_get_ne (fun z => hk (by rw [z]))]; exact e)
theorem Rd.chk {m : Store} {d : D} {xs ys : List D} (h : Rd m d xs) : (Wk.mk ys (srcOf d xs)).chk m := h.c
theorem ixN_last {n : Nat} : ixN (n + 1) (-1) = some n := by
  unfold ixN
  rw [if_neg (show ¬ (0 : Int) ≤ -1 by omega), if_pos (show -((n + 1 : Nat) : Int) ≤ -1 by omega)]
  congr 1
  omega
theorem map_last {α : Type} {f : α → D} {c : List α} {t : α} : L2.atI ((c ++ [t]).map f) (-1) = some (f t) := by
  rw [List.map_append]; exact atI_last
theorem set_lastL {c : List D} {t u : D} : (c ++ [t]).set c.length u = c ++ [u] := by simp
theorem srcOf_lst {xs ys : List D} : srcOf (.lst xs) ys = [] := rfl
theorem seqIndex_ok {i : Int} {n : Nat} (h0 : 0 ≤ i) (h1 : i < n) : seqIndex? i n = some i.toNat := by
  unfold seqIndex?
  have e : ¬ i < 0 := by omega
  simp [e, h0, h1]
theorem fin_own1 {m0 m : Store} {xs : List D} (hl : m.length = m0.length) (ti : Tidy m0 m) (hu : D.unds m0.length xs = true) : finF m0 (.cell m0.length) (m ++ [.lst xs]) = ret (.own xs) m := fin_own (i := 0) hl ti rfl hu
/-! ### statement by statement -/
theorem ws_step {a b : MS} {δ δ' : En} {m m' : Store} {R : OT → Prop} (h : a δ m = some (.nx δ' m')) (k : ws (b δ' m') R) : ws (sSeq a b δ m) R := by
  rw [ws_seq, h]; exact k
theorem ws_last {a : MS} {δ : En} {m : Store} {o : OT} {R : OT → Prop} (h : a δ m = some o) (k : R o) : ws (a δ m) R := by
  rw [h]; exact k
/-- a statement, and what follows, by what holds between -/
theorem ws_mid {a b : MS} {δ : En} {m : Store} {I : En → Store → Prop} {R : OT → Prop} (h : ws (a δ m) (Nx I)) (k : ∀ δ' m', I δ' m' → ws (b δ' m') R) : ws (sSeq a b δ m) R := by
  rw [ws_seq]
  refine ws_mono h ?_
  rintro o ⟨δ', m', rfl, hi⟩
  exact k δ' m' hi
/-- a for in the midst -/
theorem ws_forS {w : MI} {g : MG} {b : MS} {δ : En} {m m' : Store} {wk : Wk} {R : OT → Prop} (h : w δ m = ret wk m') (k : ws (forM g b wk.chk wk.xs δ m') R) : ws (sFor w g b δ m) R := by
  unfold sFor
  rw [h]; exact k
/-! ### the purse: numbers drawn from a cell -/
structure Purse where
  a : Int
  b : Int
  c : Int
def ePu (p : Purse) : Cell := .lst [.int p.a, .int p.b, .int p.c]
/-- so many draws are left -/
def Pok (n : Nat) (p : Purse) : Prop := 0 ≤ p.b ∧ p.b < 2147483647 ∧ 0 ≤ p.c ∧ p.c + 3 * (n : Int) ≤ 1125899906842624
theorem Pok.mono {n n' : Nat} {p : Purse} (h : Pok n p) (hb : n' ≤ n) : Pok n' p := ⟨h.1, h.2.1, h.2.2.1, by have := h.2.2.2; omega⟩
theorem tidy_pu {m m' : Store} {k : Nat} {p : Purse} (h : Tidy m m') : Tidy m (m'.set k (ePu p)) := h.set rfl
noncomputable def e_law_at : MS :=
  (sSeq (sIf (tst (eOp pLt (eVar 1) (eCB pLen (aCons (eVar 0) aNil)))) (sRet (eOp pIxL (eVar 0) (eVar 1))) sNext)
    (sRet (eC (.int 0))))
noncomputable def f_law_at : FnS := fnOf 2 2 e_law_at
theorem law_at_eq (ns : List Int) (k : Nat) (m : Store) : ∃ i, f_law_at [.scr ns, .int (k : Int)] m = ret (.pl (.int i)) m := by
  by_cases h : k < ns.length
  · refine ⟨ns[k], ?_⟩
    have h2 : L2.atI (ns.map D.int) (k : Int) = some (.int ns[k]) := by
      rw [atI_of (by omega) (by rw [List.length_map]; omega)]
      simp [h]
    unfold f_law_at e_law_at
    simp! only [pLen, pIxL, List.length_map, h2]
    simp [h, fin_same, MX.run]
  · refine ⟨0, ?_⟩
    unfold f_law_at e_law_at
    simp! only [pLen, pIxL, List.length_map]
    simp [h, fin_same, MX.run]
noncomputable def e_law_purse : MS :=
  (sSeq (sSet 2 (pla (fCall0 f_law_at (aCons (eVar 0) (aCons (eVar 1) aNil)))))
    (sRet (cel (fLst (aCons (eCB pMax2 (aCons (eOp pSub (eVar 2) (eOp pPow (eC (.int 10)) (eC (.int 18)))) (aCons (eC (.int 0)) aNil))) (aCons (eOp pMod (eVar 2) (eC (.int 2147483647))) (aCons (eOp pMul (eC (.int 1000)) (eVar 1)) aNil)))))))
noncomputable def f_law_purse : FnS := fnOf 2 3 e_law_purse
theorem law_purse_ok (ns : List Int) (k : Nat) (hk : k ≤ 1000) (m : Store) : ∃ p : Purse, f_law_purse [.scr ns, .int (k : Int)] m = ret (.own [.int p.a, .int p.b, .int p.c]) m ∧ Pok 1000000000000 p := by
  obtain ⟨c, e⟩ := law_at_eq ns k m
  refine ⟨⟨max (c - 1000000000000000000) 0, c % 2147483647, 1000 * (k : Int)⟩, ?_, ?_⟩
  · unfold f_law_purse e_law_purse
    simp! only [e, pMod_pos (j := 2147483647) (by omega), pMul_l (i := 1000) (by omega) (by omega)]
    exact fin_own0 rfl
  · refine ⟨?_, ?_, ?_, ?_⟩ <;> simp <;> omega
noncomputable def e_law_mixed : MS :=
  (sSeq (sSet 2 (eOp pMod (eOp pAdd (eOp pAdd (eOp pAdd (eOp pMul (eVar 0) (eC (.int 1103515245))) (eOp pMul (eOp pMul (eC (.int 7919)) (eVar 1)) (eVar 1))) (eVar 1)) (eC (.int 1))) (eC (.int 2147483647))))
    (sSeq (sSet 2 (eOp pMod (eOp pAdd (eOp pMul (eVar 2) (eVar 2)) (eC (.int 69621))) (eC (.int 2147483629))))
    (sRet (eOp pMod (eOp pMul (eVar 2) (eC (.int 48271))) (eC (.int 2147483587))))))
noncomputable def f_law_mixed : FnS := fnOf 2 3 e_law_mixed
theorem law_mixed_ok (c k : Int) (m : Store) (h0 : 0 ≤ k) (h1 : k < 1152921504606846976) : ∃ i, f_law_mixed [.int c, .int k] m = ret (.pl (.int i)) m := by
  apply Exists.intro
  unfold f_law_mixed e_law_mixed
  have h2 : ∀ x : Int, -18446744073709551616 < x % 2147483647 ∧ x % 2147483647 < 18446744073709551616 := fun x => by omega
  simp! only [pMul_r (j := 1103515245) (by omega) (by omega), pMul_l (i := 7919) (by omega) (by omega), pMul_r (j := k) (by omega) (by omega), pMod_pos (j := 2147483647) (by omega), pMod_pos (j := 2147483629) (by omega), pMod_pos (j := 2147483587) (by omega), pMul_r (j := 48271) (by omega) (by omega), pMul_r (h2 _).1 (h2 _).2]
  rfl
noncomputable def e_law_draw : MS :=
  (sSeq (sIf (tst (eOp pGt (eOp pIxL (eVar 0) (eC (.int 0))) (eC (.int 0)))) (sSeq (sSet 2 (eOp pMod (eOp pIxL (eVar 0) (eC (.int 0))) (eVar 1)))
    (sSeq (sSetI (eOp pDiv (eOp pIxL (eVar 0) (eC (.int 0))) (eVar 1)) (eVar 0) (eC (.int 0)))
    (sRet (eVar 2)))) sNext)
    (sSeq (sSet 3 (eC (.int 0)))
    (sSeq (sFor (wRng1 (aCons (eOp pAdd (eC (.int 1)) (eOp pDiv (eBits (eVar 1)) (eC (.int 30)))) aNil)) (mName 4)
    (sSeq (sSetI (eOp pAdd (eOp pIxL (eVar 0) (eC (.int 2))) (eC (.int 1))) (eVar 0) (eC (.int 2)))
    (sSet 3 (eOp pAdd (eOp pMul (eVar 3) (eC (.int 2147483587))) (pla (fCall0 f_law_mixed (aCons (eOp pIxL (eVar 0) (eC (.int 1))) (aCons (eOp pIxL (eVar 0) (eC (.int 2))) aNil))))))))
    (sRet (eOp pMod (eVar 3) (eVar 1))))))
noncomputable def f_law_draw : FnS := fnOf 2 5 e_law_draw
theorem intBits_le {n : Int} {k : Nat} (h0 : 0 < n) (h1 : n.natAbs < 2 ^ k) : Builtin.Int.intBits n ≤ k := by
  unfold Builtin.Int.intBits
  have h2 : n.natAbs ≠ 0 := by omega
  split
  · omega
  · have := (Nat.log2_lt h2).mpr h1
    omega
theorem intBits_89 {n : Int} (h0 : 0 < n) (hn : n < 618970019642690137449562112) : Builtin.Int.intBits n ≤ 89 := by
  refine intBits_le h0 ?_
  rw [show (2 : Nat) ^ 89 = 618970019642690137449562112 from rfl]
  omega
theorem law_draw_wp {m : Store} {k b : Nat} {p : Purse} {n : Int} (hk : m[k]? = some (ePu p)) (hp : Pok (b + 1) p) (h0 : 0 < n) (hn : n < 618970019642690137449562112) :
    wp (f_law_draw [.cell k, .int n] m) (fun r m' => ∃ i p', r = .ok (.pl (.int i)) ∧ m' = m.set k (ePu p') ∧ 0 ≤ i ∧ i < n ∧ Pok b p') := by
  obtain ⟨q1, q2, q3, q4⟩ := hp
  have hk' : m[k]? = some (.lst [.int p.a, .int p.b, .int p.c]) := hk
  have hb := intBits_89 h0 hn
  unfold f_law_draw e_law_draw
  refine wp_fnI rfl ?_
  simp_arith only [pIxL, rdQ_cell hk', sSetI, cellL_cell hk', pMod_pos h0, pDiv_pos h0 hn]
  refine ⟨fun ha => ?_, fun ha => ?_⟩
  · exact ⟨_, { p with a := p.a / n }, rfl, rfl, Int.emod_nonneg _ (by omega), Int.emod_lt_of_pos _ h0, q1, q2, q3, by show p.c + 3 * (b : Int) ≤ 1125899906842624; omega⟩
  · simp_arith only [sFor, wRng1, eBits, pDiv_pos (j := 30) (by omega) (by omega)]
    rw [if_pos (rg62 (by omega) (by omega))]
    simp_arith only []
    have hk0 : k < m.length := (List.getElem?_eq_some_iff.mp hk).1
    refine ws_for (I := fun l δ m' => ∃ (i : Int) (p' : Purse) (z : Option D), δ = [some (.cell k), some (.int n), none, some (.int i), z] ∧ m' = m.set k (ePu p') ∧ 0 ≤ p'.b ∧ p'.b < 2147483647 ∧ 0 ≤ p'.c ∧ p'.c + (l.length : Int) + 3 * (b : Int) ≤ 1125899906842624) (fun _ _ _ _ => chk_nil) ?_ ?_ ?_
    · rintro δ m' ⟨i, p', z, rfl, rfl, r1, r2, r3, r4⟩
      simp_arith only [pMod_pos h0]
      exact ⟨_, p', rfl, rfl, Int.emod_nonneg _ (by omega), Int.emod_lt_of_pos _ h0, r1, r2, r3, by simpa using r4⟩
    · rintro x l δ m' ⟨i, p', z, rfl, rfl, r1, r2, r3, r4⟩
      have r4' : p'.c + ((l.length : Int) + 1) + 3 * (b : Int) ≤ 1125899906842624 := by simpa using r4
      refine ⟨_, rfl, ?_⟩
      have hk1 : ∀ xs : List D, (m.set k (.lst xs))[k]? = some (.lst xs) := fun xs => List.getElem?_set_self hk0
      obtain ⟨w, e⟩ := law_mixed_ok p'.b (p'.c + 1) (m.set k (.lst [.int p'.a, .int p'.b, .int (p'.c + 1)])) (by omega) (by omega)
      simp_arith only [ePu, sSetI, pIxL, rdQ_cell (hk1 _), cellL_cell (hk1 _), pMul_r (j := 2147483587) (by omega) (by omega), e]
      exact ⟨_, { p' with c := p'.c + 1 }, _, rfl, rfl, r1, r2, by show 0 ≤ p'.c + 1; omega, by show p'.c + 1 + (l.length : Int) + 3 * (b : Int) ≤ 1125899906842624; omega⟩
    · refine ⟨0, p, none, rfl, ?_, q1, q2, q3, ?_⟩
      · exact (set_same hk).symm
      · rw [rng_len]; omega
theorem law_draw_ok {m : Store} {k b : Nat} {p : Purse} {n : Int} (hk : m[k]? = some (ePu p)) (hp : Pok (b + 1) p) (h0 : 0 < n) (hn : n < 618970019642690137449562112) :
    ∃ i p', f_law_draw [.cell k, .int n] m = ret (.pl (.int i)) (m.set k (ePu p')) ∧ 0 ≤ i ∧ i < n ∧ Pok b p' := by
  obtain ⟨r, m', e, i, p', rfl, rfl, h⟩ := wp_get (law_draw_wp hk hp h0 hn)
  exact ⟨i, p', e, h⟩
/-- a comprehension that draws: each item has what is asked, the store keeps what is kept -/
theorem lcM_inv {α : Type} {g : MG} {e : ME} {c : Store → Prop} {δ : En} (en : α → D) (P : α → D → Prop) (I : Nat → Store → Prop) (hc : ∀ n m, I n m → c m)
    (step : ∀ y n m, I (n + 1) m → ∃ δ1 d m', g (en y) δ = some δ1 ∧ e δ1 m = ret d m' ∧ P y d ∧ I n m') : ∀ (ys : List α) (m : Store), I ys.length m → ∃ ds m', lcM g mYes e c δ (ys.map en) m = ret ds m' ∧ ds.length = ys.length ∧ (∀ i (hi : i < ys.length) (hj : i < ds.length), P ys[i] ds[i]) ∧ I 0 m'
  | [], m, h => ⟨[], m, by rw [List.map_nil]; unfold lcM; rw [if_pos (hc _ _ h)], rfl, (fun i hi => by simp at hi), h⟩
  | y :: ys, m, h => by
    obtain ⟨δ1, d, m1, e1, e2, p, h1⟩ := step y ys.length m h
    obtain ⟨ds, m2, e3, l, hp, h2⟩ := lcM_inv en P I hc step ys m1 h1
    refine ⟨d :: ds, m2, ?_, by simp [l], fun i hi hj => ?_, h2⟩
    · rw [List.map_cons]
      unfold lcM
      rw [if_pos (hc _ _ h), e1]
      simp only [Option.bind_some]
      show MX.sure (e δ1 m) _ = _
      rw [e2]
      show MX.sure (lcM g mYes e c δ (ys.map en) m1) _ = _
      rw [e3]; rfl
    · cases i with
      | zero => exact p
      | succ i => simpa using hp i (by simpa using hi) (by simpa using hj)
noncomputable def e_law_number : MS :=
  (sSeq (sSet 2 (eOp pIxL (dat (fLst (aCons (eC (.int 1)) (aCons (eC (.int 4)) (aCons (eC (.int 30)) (aCons (eVar 1) aNil)))))) (pla (fCall0 f_law_draw (aCons (eVar 0) (aCons (eC (.int 4)) aNil))))))
    (sRet (eOp pSub (pla (fCall0 f_law_draw (aCons (eVar 0) (aCons (eOp pAdd (eOp pMul (eC (.int 2)) (eVar 2)) (eC (.int 1))) aNil)))) (eVar 2))))
noncomputable def f_law_number : FnS := fnOf 2 3 e_law_number
noncomputable def e_law_end : MS :=
  (sSeq (sIf (mAnd (tst (eOp pNeD (eVar 1) (dat (fLst aNil)))) (tst (eOp pGt (pla (fCall0 f_law_draw (aCons (eVar 0) (aCons (eC (.int 3)) aNil)))) (eC (.int 0))))) (sSeq (sSet 3 (eOp pSub (eOp pAdd (eOp pIxL (eVar 1) (pla (fCall0 f_law_draw (aCons (eVar 0) (aCons (eCB pLen (aCons (eVar 1) aNil)) aNil))))) (pla (fCall0 f_law_draw (aCons (eVar 0) (aCons (eC (.int 3)) aNil))))) (eC (.int 1))))
    (sRet (eCB pMax2 (aCons (eOp pSub (eC (.int 0)) (eVar 2)) (aCons (eCB pMin2 (aCons (eVar 2) (aCons (eVar 3) aNil))) aNil))))) sNext)
    (sRet (pla (fCall0 f_law_number (aCons (eVar 0) (aCons (eVar 2) aNil))))))
noncomputable def f_law_end : FnS := fnOf 3 4 e_law_end
theorem rng_0 {n : Nat} : rng 0 n = (List.range n).map fun i : Nat => D.int (i : Int) := by
  unfold rng
  exact List.map_congr_left fun i _ => by rw [Int.zero_add]
/-! ### texts as lists of signs -/
def tx (l : List Nat) : Str := ⟨l.toArray⟩
theorem tx_list (l : List Nat) : (tx l).cps.toList = l := rfl
theorem tx_len (l : List Nat) : (tx l).length = l.length := by show l.toArray.size = _; simp
theorem tx_app (a b : List Nat) : tx a ++ tx b = tx (a ++ b) := by
  show Str.mk (a.toArray ++ b.toArray) = Str.mk (a ++ b).toArray
  simp
theorem tx_inj {a b : List Nat} (h : tx a = tx b) : a = b := by
  have : (tx a).cps.toList = (tx b).cps.toList := by rw [h]
  exact this
theorem tx_to (l : List Nat) (j : Nat) : L2.cutS (tx l) none (some (j : Int)) = tx (l.take j) := by
  unfold L2.cutS
  rw [HT.sIx_none, HT.sIx_nat, tx_len, tx_list]
  simp only [List.drop_zero, Nat.sub_zero]
  show tx _ = tx _
  congr 1
  rw [List.take_eq_take_iff]; omega
theorem tx_from (l : List Nat) (j : Nat) : L2.cutS (tx l) (some (j : Int)) none = tx (l.drop j) := by
  unfold L2.cutS
  rw [HT.sIx_none, HT.sIx_nat, tx_len, tx_list]
  show tx _ = tx _
  congr 1
  rcases Nat.le_total j l.length with h | h
  · rw [Nat.min_eq_left h, List.take_of_length_le (by simp)]
  · rw [Nat.min_eq_right h, List.drop_eq_nil_of_le h]; simp
abbrev ltr : Str := "abcdefghijklmnopqrstuvwxyz"
theorem ltr_list : ltr.cps.toList = (List.range 26).map (97 + ·) := by decide +kernel
theorem ltr_len : ltr.length = 26 := by decide +kernel
theorem ltr_mem {c : Nat} : c ∈ ltr.cps.toList ↔ 97 ≤ c ∧ c < 123 := by
  rw [ltr_list, List.mem_map]
  constructor
  · rintro ⟨i, hi, rfl⟩
    have := List.mem_range.mp hi
    omega
  · intro h
    exact ⟨c - 97, List.mem_range.mpr (by omega), by omega⟩
theorem ltr_at {i : Int} (h0 : 0 ≤ i) (h1 : i < 26) : L2.atI ltr.cps.toList i = some (97 + i.toNat) := by
  have := atI_getD (xs := ltr.cps.toList) (i := i) 0 h0 (by rw [ltr_list]; simp; omega)
  rw [this, ltr_list]
  have hi : i.toNat < 26 := by omega
  simp [hi]
theorem ixS_ltr {i : Int} (h0 : 0 ≤ i) (h1 : i < 26) (m : Store) : pIxS (.str ltr) (.int i) m = ret (.str (tx [97 + i.toNat])) m := by
  unfold pIxS
  dsimp only
  rw [if_pos (by rw [ltr_len]; omega), ltr_at h0 h1]
  rfl
theorem addS_tx {a b : List Nat} (h : a.length + b.length ≤ 100000) (m : Store) : pAddS (.str (tx a)) (.str (tx b)) m = ret (.str (tx (a ++ b))) m := by
  unfold pAddS
  dsimp only
  rw [if_pos (by rw [tx_len, tx_len]; exact h), tx_app]
theorem inSg_ch {neg : Bool} {c : Nat} {z : Str} {m : Store} : pInSg neg (chS c) (.str z) m = ret (.bl (if neg then !decide (c ∈ z.cps.toList) else decide (c ∈ z.cps.toList))) m := rfl
theorem join_tx (ys : List (List Nat)) : Txt.join (tx []) (ys.map tx) = tx ys.flatten := by
  have h : ∀ ys : List (List Nat), TL.joinL [] ys = ys.flatten := fun ys => by
    induction ys with
    | nil => rfl
    | cons y ys ih =>
      cases ys with
      | nil => simp [TL.joinL]
      | cons z zs =>
        show y ++ ([] ++ TL.joinL [] (z :: zs)) = _
        rw [ih]; simp
  have e := TL.tl_join (tx []) (ys.map tx)
  have e2 : (ys.map tx).map TL.tl = ys := by
    rw [List.map_map]
    exact (List.map_congr_left fun l _ => rfl).trans (List.map_id ys)
  rw [e2, show TL.tl (tx []) = [] from rfl, h] at e
  exact TL.ext_tl ((congrArg TL.tl (TL.join_eq (tx []) (ys.map tx))).trans e)
/-! ### covers: lists of spans that stand apart, one list for one lot of places -/
def hold (s : Sp2) (x : Int) : Prop := s.1 ≤ x ∧ x < s.2
def Held (c : List Sp2) (x : Int) : Prop := ∃ s ∈ c, hold s x
structure Sep (c : List Sp2) : Prop where
  apart : c.Pairwise fun a b => a.2 < b.1
  pos : ∀ s ∈ c, s.1 < s.2
theorem Sep.nil : Sep [] := ⟨.nil, fun s hs => nomatch hs⟩
theorem Sep.tail {s : Sp2} {c : List Sp2} (h : Sep (s :: c)) : Sep c := ⟨(List.pairwise_cons.mp h.apart).2, fun t ht => h.pos t (List.mem_cons_of_mem _ ht)⟩
theorem held_cons {s : Sp2} {c : List Sp2} {x : Int} : Held (s :: c) x ↔ hold s x ∨ Held c x := by
  constructor
  · rintro ⟨t, ht, h⟩
    rcases List.mem_cons.mp ht with rfl | ht
    · exact .inl h
    · exact .inr ⟨t, ht, h⟩
  · rintro (h | ⟨t, ht, h⟩)
    · exact ⟨s, List.mem_cons_self, h⟩
    · exact ⟨t, List.mem_cons_of_mem _ ht, h⟩
theorem held_nil {x : Int} : ¬ Held [] x := fun ⟨s, hs, _⟩ => nomatch hs
theorem held_append {a b : List Sp2} {x : Int} : Held (a ++ b) x ↔ Held a x ∨ Held b x := by
  constructor
  · rintro ⟨t, ht, h⟩
    rcases List.mem_append.mp ht with ht | ht
    · exact .inl ⟨t, ht, h⟩
    · exact .inr ⟨t, ht, h⟩
  · rintro (⟨t, ht, h⟩ | ⟨t, ht, h⟩)
    · exact ⟨t, List.mem_append_left _ ht, h⟩
    · exact ⟨t, List.mem_append_right _ ht, h⟩
theorem held_perm {a b : List Sp2} (p : a.Perm b) {x : Int} : Held a x ↔ Held b x :=
  ⟨fun ⟨s, hs, h⟩ => ⟨s, p.mem_iff.mp hs, h⟩, fun ⟨s, hs, h⟩ => ⟨s, p.mem_iff.mpr hs, h⟩⟩
/-- all of the rest lies behind the head -/
theorem Sep.behind {s : Sp2} {c : List Sp2} (h : Sep (s :: c)) {x : Int} (hx : Held c x) : s.2 < x := by
  obtain ⟨t, ht, h1, h2⟩ := hx
  have := (List.pairwise_cons.mp h.apart).1 t ht
  omega
theorem Sep.uniq : ∀ {a b : List Sp2}, Sep a → Sep b → (∀ x, Held a x ↔ Held b x) → a = b
  | [], [], _, _, _ => rfl
  | [], t :: b, _, hb, h => by
    have := hb.pos t List.mem_cons_self
    exact absurd ((h t.1).mpr (held_cons.mpr (.inl ⟨by omega, by omega⟩))) held_nil
  | s :: a, [], ha, _, h => by
    have := ha.pos s List.mem_cons_self
    exact absurd ((h s.1).mp (held_cons.mpr (.inl ⟨by omega, by omega⟩))) held_nil
  | s :: a, t :: b, ha, hb, h => by
    have ps := ha.pos s List.mem_cons_self
    have pt := hb.pos t List.mem_cons_self
    have le1 : ∀ {s t : Sp2} {a b : List Sp2}, Sep (s :: a) → Sep (t :: b) → (∀ x, Held (s :: a) x → Held (t :: b) x) → t.1 ≤ s.1 := by
      intro s t a b ha hb h
      have ps := ha.pos s List.mem_cons_self
      have pt := hb.pos t List.mem_cons_self
      rcases held_cons.mp (h s.1 (held_cons.mpr (.inl ⟨by omega, by omega⟩))) with q | q
      · exact q.1
      · have := hb.behind q; omega
    have e1 : s.1 = t.1 := Int.le_antisymm (le1 hb ha fun x => (h x).mpr) (le1 ha hb fun x => (h x).mp)
    have le2 : ∀ {s t : Sp2} {a b : List Sp2}, Sep (s :: a) → Sep (t :: b) → s.1 = t.1 → (∀ x, Held (s :: a) x → Held (t :: b) x) → s.2 ≤ t.2 := by
      intro s t a b ha hb e h
      have ps := ha.pos s List.mem_cons_self
      have pt := hb.pos t List.mem_cons_self
      rcases Int.lt_or_le t.2 s.2 with z | z
      · rcases held_cons.mp (h t.2 (held_cons.mpr (.inl ⟨by omega, by omega⟩))) with q | q
        · have := q.2; omega
        · have := hb.behind q; omega
      · exact z
    have e2 : s.2 = t.2 := Int.le_antisymm (le2 ha hb e1 fun x => (h x).mp) (le2 hb ha e1.symm fun x => (h x).mpr)
    have e : s = t := Prod.ext e1 e2
    subst e
    have := Sep.uniq ha.tail hb.tail fun x => by
      constructor
      · intro q
        rcases held_cons.mp ((h x).mp (held_cons.mpr (.inr q))) with z | z
        · have := ha.behind q; have := z.2; omega
        · exact z
      · intro q
        rcases held_cons.mp ((h x).mpr (held_cons.mpr (.inr q))) with z | z
        · have := hb.behind q; have := z.2; omega
        · exact z
    rw [this]
/-! the sweep -/
def pstep (c : List Sp2) (s : Sp2) : List Sp2 := match c.getLast? with
  | some t => if s.1 ≤ t.2 then c.dropLast ++ [(t.1, max s.2 t.2)] else c ++ [s]
  | none => c ++ [s]
def pour (ss : List Sp2) : List Sp2 := (psort ss).foldl pstep []
theorem sep_snoc {c : List Sp2} {t : Sp2} : Sep (c ++ [t]) ↔ Sep c ∧ (∀ a ∈ c, a.2 < t.1) ∧ t.1 < t.2 := by
  constructor
  · intro h
    refine ⟨⟨(List.pairwise_append.mp h.apart).1, fun s hs => h.pos s (List.mem_append_left _ hs)⟩, fun a ha => (List.pairwise_append.mp h.apart).2.2 a ha t List.mem_cons_self, h.pos t (by simp)⟩
  · rintro ⟨h, h1, h2⟩
    refine ⟨List.pairwise_append.mpr ⟨h.apart, List.pairwise_singleton _ _, fun a ha b hb => by cases List.mem_singleton.mp hb; exact h1 a ha⟩, fun s hs => ?_⟩
    rcases List.mem_append.mp hs with hs | hs
    · exact h.pos s hs
    · cases List.mem_singleton.mp hs; exact h2
theorem held_one {s : Sp2} {x : Int} : Held [s] x ↔ hold s x := by rw [held_cons]; exact ⟨fun h => h.elim id fun z => absurd z held_nil, .inl⟩
/-- a step keeps it, where what comes begins no earlier than what was -/
theorem pstep_ok {c : List Sp2} {s : Sp2} (h : Sep c) (hs : s.1 < s.2) (hl : ∀ a ∈ c, a.1 ≤ s.1) : Sep (pstep c s) ∧ (∀ x, Held (pstep c s) x ↔ Held c x ∨ hold s x) ∧ ∀ a ∈ pstep c s, a.1 ≤ s.1 := by
  rcases List.eq_nil_or_concat c with rfl | ⟨c', t, rfl⟩
  · refine ⟨(sep_snoc (c := [])).mpr ⟨Sep.nil, fun a ha => (nomatch ha), hs⟩, fun x => ?_, fun a ha => ?_⟩
    · show Held ([] ++ [s]) x ↔ _
      rw [held_append, held_one]
    · have : a = s := by simpa [pstep] using ha
      rw [this]; omega
  · rw [List.concat_eq_append] at *
    have e : pstep (c' ++ [t]) s = if s.1 ≤ t.2 then c' ++ [(t.1, max s.2 t.2)] else c' ++ [t] ++ [s] := by
      unfold pstep
      rw [List.getLast?_append, List.dropLast_concat]; rfl
    obtain ⟨h1, h2, h3⟩ := sep_snoc.mp h
    have ht := hl t (by simp)
    rw [e]
    split
    · rename_i hle
      refine ⟨sep_snoc.mpr ⟨h1, h2, by show t.1 < max s.2 t.2; omega⟩, fun x => ?_, fun a ha => ?_⟩
      · rw [held_append, held_append, held_one, held_one]
        have : hold (t.1, max s.2 t.2) x ↔ hold t x ∨ hold s x := by unfold hold; dsimp only; omega
        rw [this, or_assoc]
      · rcases List.mem_append.mp ha with ha | ha
        · exact hl a (List.mem_append_left _ ha)
        · cases List.mem_singleton.mp ha; exact ht
    · rename_i hle
      refine ⟨sep_snoc.mpr ⟨h, fun a ha => ?_, hs⟩, fun x => ?_, fun a ha => ?_⟩
      · rcases List.mem_append.mp ha with ha | ha
        · have := h2 a ha; omega
        · cases List.mem_singleton.mp ha; omega
      · rw [held_append, held_one]
      · rcases List.mem_append.mp ha with ha | ha
        · exact hl a ha
        · cases List.mem_singleton.mp ha; omega
theorem pour_fold : ∀ {l c : List Sp2}, Sep c → (∀ s ∈ l, s.1 < s.2) → (l.Pairwise fun p q => lexle p q = true) → (∀ a ∈ c, ∀ s ∈ l, a.1 ≤ s.1) → Sep (l.foldl pstep c) ∧ ∀ x, Held (l.foldl pstep c) x ↔ Held c x ∨ Held l x
  | [], c, h, _, _, _ => ⟨h, fun x => ⟨.inl, fun z => z.elim id fun q => absurd q held_nil⟩⟩
  | s :: l, c, h, hg, hp, hl => by
    obtain ⟨p1, p2⟩ := List.pairwise_cons.mp hp
    obtain ⟨a1, a2, a3⟩ := pstep_ok h (hg s List.mem_cons_self) fun a ha => hl a ha s List.mem_cons_self
    obtain ⟨b1, b2⟩ := pour_fold a1 (fun t ht => hg t (List.mem_cons_of_mem _ ht)) p2 fun a ha t ht => by
      have := a3 a ha
      have := lexle_iff.mp (p1 t ht)
      omega
    refine ⟨b1, fun x => ?_⟩
    show Held (l.foldl pstep (pstep c s)) x ↔ _
    rw [b2, a2, held_cons, or_assoc]
theorem pour_ok {ss : List Sp2} (h : ∀ s ∈ ss, s.1 < s.2) : Sep (pour ss) ∧ ∀ x, Held (pour ss) x ↔ Held ss x := by
  obtain ⟨h1, h2⟩ := pour_fold Sep.nil (l := psort ss) (fun s hs => h s ((psort_perm ss).mem_iff.mp hs)) (psort_sorted ss) fun a ha => (nomatch ha)
  refine ⟨h1, fun x => ?_⟩
  unfold pour
  rw [h2, held_perm (psort_perm ss)]
  exact ⟨fun z => z.elim (fun q => absurd q held_nil) id, .inr⟩
def holdB (s : Sp2) (x : Int) : Bool := decide (s.1 ≤ x) && decide (x < s.2)
theorem holdB_iff {s : Sp2} {x : Int} : holdB s x = true ↔ hold s x := by simp [holdB, hold]
/-! ### apart, in plain Lean -/
def Apt (a b : Sp2) : Prop := a.2 ≤ b.1 ∨ b.2 ≤ a.1
theorem Apt.symm {a b : Sp2} (h : Apt a b) : Apt b a := h.elim .inr .inl
theorem bools_f {α : Type} {f : α → Bool} {l : List α} : bools (l.map fun s => D.bl (f s)) = some (l.map f) := by
  rw [← bools_map, List.map_map]; rfl
noncomputable def e_is_name : MS :=
  (sRet (eAnd (eChain pLe pLe (eC (.int 1)) (eCB pLenS (aCons (eVar 0) aNil)) (eC (.int 8))) (eCB pAll (aCons (dat (fLc (wStr (eVar 0)) (mName 1) mYes (eOp (pInSg false) (eVar 1) (eC (.str "abcdefghijklmnopqrstuvwxyz"))) [1])) aNil))))
noncomputable def f_is_name : FnS := fnOf 1 2 e_is_name
def isNm (x : Str) : Bool := (decide (1 ≤ x.length) && decide (x.length ≤ 8)) && x.cps.toList.all fun c => decide (c ∈ ltr.cps.toList)
theorem is_name_eq {x : Str} {m : Store} (hl : x.length ≤ 90000) : f_is_name [.str x] m = ret (.pl (.bl (isNm x))) m := by
  have h1 : x.length ≤ 100000 := by omega
  have h2 : x.cps.toList.length < 100000 := by
    have : x.cps.toList.length = x.length := by show _ = x.cps.size; simp
    omega
  unfold f_is_name e_is_name isNm
  have d1 : decide ((1 : Int) ≤ (x.length : Int)) = decide (1 ≤ x.length) := decide_eq_decide.mpr (by omega)
  have d2 : decide ((x.length : Int) ≤ 8) = decide (x.length ≤ 8) := decide_eq_decide.mpr (by omega)
  have lc : lcM (mName 1) mYes (eOp (pInSg false) (eVar 1) (eC (.str ltr))) (Wk.mk (x.cps.toList.map chS) []).chk [some (.str x), none] (x.cps.toList.map chS) m = ret (x.cps.toList.map fun c => D.bl (decide (c ∈ ltr.cps.toList))) m :=
    lcM_map chk_nil chS _ x.cps.toList fun c _ => ⟨[some (.str x), some (chS c)], rfl, by simp! only [inSg_ch]; rfl⟩
  cases k1 : decide (1 ≤ x.length) with
  | false => simp! only [eFld, pLenS, pDictD, pLenD, pDIn, keyD, pSortD, eSlS, h1, d1, k1]
  | true =>
    cases k2 : decide (x.length ≤ 8) with
    | false => simp! only [eFld, pLenS, pDictD, pLenD, pDIn, keyD, pSortD, eSlS, h1, d1, d2, k1, k2]
    | true =>
      simp! only [eFld, pLenS, pDictD, pLenD, pDIn, keyD, pSortD, eSlS, h1, d1, d2, k1, k2, wStr, List.length_map, h2, wipeE, lc, pAll, bools_f, List.all_map, Function.comp_def, id]
noncomputable def e_law_names : MS :=
  (sSeq (sSet 2 (eC (.str "abcdefghijklmnopqrstuvwxyz")))
    (sSeq (sSet 4 (eJoin (eC (.str "")) (dat (fLc (wRng1 (aCons (pla (fCall0 f_law_draw (aCons (eVar 0) (aCons (eC (.int 7)) aNil)))) aNil)) (mName 3) mYes (eOp pIxS (eVar 2) (pla (fCall0 f_law_draw (aCons (eVar 0) (aCons (eC (.int 26)) aNil))))) [3]))))
    (sSeq (sSet 5 (pla (fCall0 f_law_draw (aCons (eVar 0) (aCons (eOp pAdd (eCB pLenS (aCons (eVar 4) aNil)) (eC (.int 1))) aNil)))))
    (sSeq (sSet 6 (pla (fCall0 f_law_draw (aCons (eVar 0) (aCons (eC (.int 26)) aNil)))))
    (sSeq (sSet 7 (cel (fLc (wRng1 (aCons (eVar 1) aNil)) (mName 3) mYes (eOp pAddS (eOp pAddS (eSlS (eVar 4) oNone (oSome (eVar 5))) (eOp pIxS (eVar 2) (eOp pMod (eOp pAdd (eVar 6) (eOp pMul (eC (.int 7)) (eVar 3))) (eC (.int 26))))) (eSlS (eVar 4) (oSome (eVar 5)) oNone)) [3])))
    (sRet (eVar 7)))))))
noncomputable def f_law_names : FnS := fnOf 2 8 e_law_names
theorem of_ch : ∀ {ds : List D}, (∀ d ∈ ds, ∃ c : Nat, d = .str (tx [c]) ∧ 97 ≤ c ∧ c < 123) → ∃ cs : List Nat, ds = (cs.map fun c => tx [c]).map D.str ∧ ∀ c ∈ cs, 97 ≤ c ∧ c < 123
  | [], _ => ⟨[], rfl, fun s hs => nomatch hs⟩
  | d :: ds, h => by
    obtain ⟨s, rfl, gs⟩ := h d List.mem_cons_self
    obtain ⟨ss, rfl, g⟩ := of_ch fun x hx => h x (List.mem_cons_of_mem _ hx)
    refine ⟨s :: ss, rfl, fun t ht => ?_⟩
    rcases List.mem_cons.mp ht with rfl | ht
    · exact gs
    · exact g t ht
theorem flat_one (l : List Nat) : (l.map fun c => [c]).flatten = l := by
  induction l with
  | nil => rfl
  | cons c l ih => rw [List.map_cons, List.flatten_cons, ih]; rfl
theorem nm_ok {l : List Nat} (h1 : 1 ≤ l.length) (h2 : l.length ≤ 8) (h : ∀ c ∈ l, 97 ≤ c ∧ c < 123) : isNm (tx l) = true := by
  unfold isNm
  rw [tx_len, tx_list, decide_eq_true h1, decide_eq_true h2, List.all_eq_true.mpr fun c hc => decide_eq_true (ltr_mem.mpr (h c hc))]
  rfl
theorem law_names_ok7 {m : Store} {k b n : Nat} {p : Purse} (hk : m[k]? = some (ePu p)) (hn : n ≤ 26) (hp : Pok (b + 10) p) :
    ∃ (xs : List Str) (p' : Purse), f_law_names [.cell k, .int (n : Int)] m = ret (.own (xs.map D.str)) (m.set k (ePu p')) ∧ xs.length = n ∧ xs.Nodup ∧ (∀ x ∈ xs, isNm x = true) ∧ (∀ x ∈ xs, x.length ≤ 7) ∧ Pok b p' := by
  have hk0 : k < m.length := (List.getElem?_eq_some_iff.mp hk).1
  have gk : ∀ q : Purse, (m.set k (ePu q))[k]? = some (ePu q) := fun q => List.getElem?_set_self hk0
  obtain ⟨n7, p1, e1, a0, a1, hp1⟩ := law_draw_ok (b := b + 9) hk hp (n := 7) (by omega) (by omega)
  obtain ⟨r7, rfl⟩ : ∃ r7 : Nat, n7 = (r7 : Int) := ⟨n7.toNat, by omega⟩
  have hr : Rg62 ((r7 : Nat) : Int) := rg62 (by omega) (by omega)
  have hnl : r7 < 100000 := by omega
  have key : ∀ (δ : En), δ = [some (.cell k), some (.int (n : Int)), some (.str ltr), none, none, none, none, none] → _ := fun δ hδ => lcM_inv (g := mName 3) (e := eOp pIxS (eVar 2) (pla (fCall0 f_law_draw (aCons (eVar 0) (aCons (eC (.int 26)) aNil))))) (c := Wk.chk ⟨(List.range r7).map fun i : Nat => D.int (i : Int), []⟩) (δ := δ) (fun i : Nat => D.int (i : Int)) (fun i d => ∃ c : Nat, d = .str (tx [c]) ∧ 97 ≤ c ∧ c < 123) (fun r m' => ∃ q, m' = m.set k (ePu q) ∧ Pok (b + 2 + r) q) (fun _ _ _ => chk_nil) (fun y r m' ⟨q, hm, hq⟩ => by
      obtain ⟨d, q2, e6, d0, d1, hq2⟩ := law_draw_ok (b := b + 2 + r) (n := 26) (gk q) hq (by omega) (by omega)
      rw [List.set_set] at e6
      subst hm hδ
      exact ⟨[some (.cell k), some (.int (n : Int)), some (.str ltr), some (.int (y : Int)), none, none, none, none], .str (tx [97 + d.toNat]), _, rfl, by simp! only [e6, ixS_ltr d0 d1], ⟨97 + d.toNat, rfl, by omega, by omega⟩, q2, rfl, hq2⟩) (List.range r7) (m.set k (ePu p1)) ⟨p1, rfl, hp1.mono (by simp; omega)⟩
  obtain ⟨ds, m5, e5, l5, h5, q5, rfl, hq5⟩ := key _ rfl
  obtain ⟨cs, rfl, hcs⟩ := of_ch (ds := ds) fun d hd => by
    obtain ⟨x, hx, rfl⟩ := List.mem_iff_getElem.mp hd
    exact h5 x (by simpa [l5] using hx) hx
  have lcs : cs.length = r7 := by simpa using l5
  have hj : Txt.join (Str.ofString "") (cs.map fun c => tx [c]) = tx cs := by
    have e0 : Str.ofString "" = tx [] := by decide +kernel
    have e1 : (cs.map fun c => tx [c]) = (cs.map fun c => [c]).map tx := by rw [List.map_map]; rfl
    rw [e0, e1, join_tx, flat_one]
  have hb : ((cs.map fun c => tx [c]).map (·.length)).sum + (cs.map fun c => tx [c]).length * (Str.ofString "").length ≤ 16777216 := by
    have e0 : (Str.ofString "").length = 0 := by decide +kernel
    have e1 : ((cs.map fun c => tx [c]).map (·.length)).sum = cs.length := by
      rw [List.map_map]
      clear lcs l5 h5 e5 hj
      induction cs with
      | nil => rfl
      | cons c cs ih => rw [List.map_cons, List.sum_cons, ih fun x hx => hcs x (List.mem_cons_of_mem _ hx), List.length_cons]; show 1 + _ = _; omega
    rw [e0, e1]; omega
  obtain ⟨at', p2, e2, b0, b1, hp2⟩ := law_draw_ok (b := b + 1) (n := (cs.length : Int) + 1) (gk q5) (hq5.mono (by omega)) (by omega) (by omega)
  rw [List.set_set] at e2
  obtain ⟨j, rfl⟩ : ∃ j : Nat, at' = (j : Int) := ⟨at'.toNat, by omega⟩
  obtain ⟨f, p3, e3, f0, f1, hp3⟩ := law_draw_ok (b := b) (n := 26) (gk p2) hp2 (by omega) (by omega)
  rw [List.set_set] at e3
  have hrn : Rg62 ((n : Nat) : Int) := rg62 (by omega) (by omega)
  have hnn : n < 100000 := by omega
  let nm : Nat → List Nat := fun i => cs.take j ++ [97 + ((f + 7 * (i : Int)) % 26).toNat] ++ cs.drop j
  have l1 : (cs.take j).length ≤ cs.length := by simp; omega
  have l2 : (cs.drop j).length ≤ cs.length := by simp
  have lnm : ∀ i, (nm i).length = cs.length + 1 := fun i => by
    show (cs.take j ++ [_] ++ cs.drop j).length = _
    simp; omega
  have hnt : cs.length ≤ 100000 := by omega
  have fin := fin_own1 (m0 := m) (m := m.set k (ePu p3)) (xs := ((List.range n).map fun i => tx (nm i)).map D.str) (by simp) (tidy_pu (Tidy.refl _)) (unds_map (fun _ => rfl) _)
  refine ⟨(List.range n).map fun i => tx (nm i), p3, ?_, by simp, ?_, ?_, fun x hx => by
    obtain ⟨i, _, rfl⟩ := List.mem_map.mp hx
    rw [tx_len, lnm]; omega, hp3⟩
  · rw [List.map_map] at fin ⊢
    unfold f_law_names e_law_names
    have lc : lcM (mName 3) mYes (eOp pAddS (eOp pAddS (eSlS (eVar 4) oNone (oSome (eVar 5))) (eOp pIxS (eVar 2) (eOp pMod (eOp pAdd (eVar 6) (eOp pMul (eC (.int 7)) (eVar 3))) (eC (.int 26))))) (eSlS (eVar 4) (oSome (eVar 5)) oNone)) (Wk.mk ((List.range n).map fun i : Nat => D.int (i : Int)) []).chk [some (.cell k), some (.int (n : Int)), some (.str ltr), none, some (.str (tx cs)), some (.int (j : Int)), some (.int f), none] ((List.range n).map fun i : Nat => D.int (i : Int)) (m.set k (ePu p3)) = ret ((List.range n).map (D.str ∘ fun i => tx (nm i))) (m.set k (ePu p3)) :=
      lcM_map chk_nil (fun i : Nat => D.int (i : Int)) _ (List.range n) fun i _ => ⟨[some (.cell k), some (.int (n : Int)), some (.str ltr), some (.int (i : Int)), some (.str (tx cs)), some (.int (j : Int)), some (.int f), none], rfl, by
        have hc : (tx cs).length ≤ 100000 := by rw [tx_len]; exact hnt
        simp! only [eFld, pLenS, pDictD, pLenD, pDIn, keyD, pSortD, eSlS, hc, tx_to, tx_from, pMul_l (i := 7) (by omega) (by omega), pMod_pos (j := 26) (by omega), ixS_ltr (i := (f + 7 * (i : Int)) % 26) (by omega) (by omega)]
        rw [addS_tx (by simp; omega)]
        simp! only []
        rw [addS_tx (by simp; omega)]
        rfl⟩
    have hs5 : (tx cs).length ≤ 100000 := by rw [tx_len]; exact hnt
    apply eq_of_wp
    refine wp_fnI rfl ?_
    apply ws_step (δ' := [some (.cell k), some (.int (n : Int)), some (.str ltr), none, none, none, none, none]) (m' := m)
    · simp! only []
    apply ws_step (δ' := [some (.cell k), some (.int (n : Int)), some (.str ltr), none, some (.str (tx cs)), none, none, none]) (m' := m.set k (ePu q5))
    · unfold sSet eJoin
      simp! only [e1, wRng1, hr, Int.toNat_natCast, rng_len, hnl, wipeE, rng_0]
      rw [e5]
      simp! only [List.length_map, List.length_range, hnl, toStrs_map]
      rw [if_pos (by simpa using hb), hj]
      rfl
    apply ws_step (δ' := [some (.cell k), some (.int (n : Int)), some (.str ltr), none, some (.str (tx cs)), some (.int (j : Int)), none, none]) (m' := m.set k (ePu p2))
    · simp! only [eFld, pLenS, pDictD, pLenD, pDIn, keyD, pSortD, eSlS, tx_len, hnt, e2]
    apply ws_step (δ' := [some (.cell k), some (.int (n : Int)), some (.str ltr), none, some (.str (tx cs)), some (.int (j : Int)), some (.int f), none]) (m' := m.set k (ePu p3))
    · simp! only [e3]
    apply ws_step (δ' := [some (.cell k), some (.int (n : Int)), some (.str ltr), none, some (.str (tx cs)), some (.int (j : Int)), some (.int f), some (.cell m.length)]) (m' := m.set k (ePu p3) ++ [.lst ((List.range n).map (D.str ∘ fun i => tx (nm i)))])
    · simp! only [wRng1, hrn, Int.toNat_natCast, rng_len, hnn, wipeE, rng_0]
      rw [lc]
      simp! only [List.length_map, List.length_range, hnn, List.length_set]
    simp_arith only [fin]
    exact ⟨by trivial, by trivial⟩
  · refine List.pairwise_map.mpr (List.Pairwise.imp_of_mem (fun {a c} ha hc hac e => hac ?_) (List.nodup_range (n := n)))
    have ha' := List.mem_range.mp ha
    have hc' := List.mem_range.mp hc
    have e' := tx_inj e
    have h1 := List.append_cancel_right e'
    have h2 := List.append_cancel_left h1
    simp only [List.cons.injEq, and_true] at h2
    omega
  · intro x hx
    obtain ⟨i, _, rfl⟩ := List.mem_map.mp hx
    refine nm_ok (by rw [lnm]; omega) (by rw [lnm]; omega) fun c hc => ?_
    rcases List.mem_append.mp hc with z | z
    · rcases List.mem_append.mp z with z | z
      · exact hcs c (List.mem_of_mem_take z)
      · cases List.mem_singleton.mp z
        omega
    · exact hcs c (List.mem_of_mem_drop z)
theorem nm_len' {x : Str} (h : isNm x = true) : 1 ≤ x.length ∧ x.length ≤ 8 := by
  unfold isNm at h
  rw [Bool.and_eq_true, Bool.and_eq_true, decide_eq_true_eq, decide_eq_true_eq] at h
  exact h.1
theorem cut_to {xs : List D} {j : Nat} : cutD xs none (some (j : Int)) = xs.take j := by
  unfold cutD
  rw [HT.sIx_none, HT.sIx_nat]
  simp only [List.drop_zero, Nat.sub_zero]
  rw [List.take_eq_take_iff]; omega
noncomputable def e_law_order : MS :=
  (sSeq (sSet 2 (cel (fCB pList (aCons (eVar 1) aNil))))
    (sSeq (sSet 3 (cel (fLst aNil)))
    (sSeq (sWhile (tst (eOp pNeD (eVar 2) (dat (fLst aNil))))
    (sExpr (eBM pAppend (eVar 3) (aCons (eBM pPopAt (eVar 2) (aCons (pla (fCall0 f_law_draw (aCons (eVar 0) (aCons (eCB pLen (aCons (eVar 2) aNil)) aNil)))) aNil)) aNil))))
    (sRet (eVar 3)))))
noncomputable def f_law_order : FnS := fnOf 2 4 e_law_order
theorem erase_perm {α : Type} {l : List α} {i : Nat} {x : α} (h : l[i]? = some x) : (l.eraseIdx i ++ [x]).Perm l := by
  obtain ⟨hi, rfl⟩ := List.getElem?_eq_some_iff.mp h
  have h1 : l = l.take i ++ l[i] :: l.drop (i + 1) := by rw [← List.drop_eq_getElem_cons hi, List.take_append_drop]
  rw [List.eraseIdx_eq_take_drop_succ]
  refine List.Perm.trans ?_ (List.Perm.of_eq h1.symm)
  rw [List.append_assoc]
  exact (List.Perm.append_left _ (List.perm_append_singleton _ _))
theorem map_erase {α β : Type} {f : α → β} : ∀ (l : List α) (i : Nat), (l.map f).eraseIdx i = (l.eraseIdx i).map f
  | [], _ => rfl
  | _ :: _, 0 => rfl
  | x :: l, i + 1 => congrArg (f x :: ·) (map_erase l i)
theorem law_order_g {α : Type} (en : α → D) (hsh : ∀ x, Sh 59 (en x)) (hun : ∀ n xs, D.unds n (List.map en xs) = true) {m : Store} {k b : Nat} {p : Purse} {d : D} {ss : List α} (hk : m[k]? = some (ePu p)) (h : Rd m d (ss.map en)) (hl : ss.length ≤ 1000) (hp : Pok (b + ss.length) p) :
    ∃ (zs : List α) (p' : Purse), f_law_order [.cell k, d] m = ret (.own (zs.map en)) (m.set k (ePu p')) ∧ zs.Perm ss ∧ Pok b p' := by
  have key : wp (f_law_order [.cell k, d] m) (fun r m' => ∃ (zs : List α) (p' : Purse), r = .ok (.own (zs.map en)) ∧ m' = m.set k (ePu p') ∧ zs.Perm ss ∧ Pok b p') := by
    have hk0 : k < m.length := (List.getElem?_eq_some_iff.mp hk).1
    unfold f_law_order e_law_order
    refine wp_fnI rfl ?_
    simp_arith only [h.s, List.append_assoc, List.length_append]
    have hs0 : ∀ (c : Cell), (m.set k c).length = m.length := fun c => List.length_set
    have g0 : ∀ (c x y : Cell), (m.set k c ++ [x, y])[m.length]? = some x := fun c x y => by rw [← hs0 c]; exact get_app0 _ _
    have g1 : ∀ (c x y : Cell), (m.set k c ++ [x, y])[m.length + 1]? = some y := fun c x y => by rw [← hs0 c]; exact get_app _ _ 1
    have s0 : ∀ (c x y z : Cell), (m.set k c ++ [x, y]).set m.length z = m.set k c ++ [z, y] := fun c x y z => by rw [← hs0 c]; exact set_app0 _ _ _
    have s1 : ∀ (c x y z : Cell), (m.set k c ++ [x, y]).set (m.length + 1) z = m.set k c ++ [x, z] := fun c x y z => by rw [← hs0 c]; exact set_app _ _ 1 _
    have gk : ∀ (c x y : Cell), (m.set k c ++ [x, y])[k]? = some c := fun c x y => by
      rw [List.getElem?_append_left (by rw [hs0]; exact hk0)]; exact List.getElem?_set_self hk0
    have sk : ∀ (c x y z : Cell), (m.set k c ++ [x, y]).set k z = m.set k z ++ [x, y] := fun c x y z => by
      rw [List.set_append_left _ _ (by rw [hs0]; exact hk0), List.set_set]
    refine ws_mono (ws_while (R := Nx fun δ m' => ∃ (f : List α) (q : Purse), m' = m.set k (ePu q) ++ [.lst [], .lst (f.map en)] ∧ f.Perm ss ∧ Pok b q ∧ δ = [some (.cell k), some d, some (.cell m.length), some (.cell (m.length + 1))])
      (fun n δ m' => ∃ (l f : List α) (q : Purse), n = l.length ∧ m' = m.set k (ePu q) ++ [.lst (l.map en), .lst (f.map en)] ∧ (f ++ l).Perm ss ∧ Pok (b + l.length) q ∧ δ = [some (.cell k), some d, some (.cell m.length), some (.cell (m.length + 1))]) ?_ (n := ss.length) ⟨ss, [], p, rfl, by rw [set_same hk]; rfl, List.Perm.refl _, hp, rfl⟩) ?_
    · rintro n δ m' ⟨l, f, q, rfl, rfl, hperm, hq, rfl⟩
      have hlen : f.length + l.length ≤ 1000 := by
        have := hperm.length_eq
        rw [List.length_append] at this
        omega
      cases l with
      | nil =>
        rw [List.append_nil] at hperm
        simp_arith only [pNeD_nil (vw_cell (g0 _ _ _)) sh_nil, List.isEmpty_nil]
        exact ⟨f, q, rfl, hperm, hq, by trivial⟩
      | cons x l =>
        obtain ⟨i, q', e, i0, i1, hq'⟩ := law_draw_ok (b := b + l.length) (gk (ePu q) (.lst ((x :: l).map en)) (.lst (f.map en))) (by simpa [Nat.add_assoc] using hq) (n := ((l.length + 1 : Nat) : Int)) (by omega) (by simp at hlen; omega)
        rw [sk] at e
        have hi : i.toNat < (x :: l).length := by simp; omega
        have hx : ((x :: l).map en)[i.toNat]? = some (en ((x :: l)[i.toNat])) := by rw [List.getElem?_map, List.getElem?_eq_getElem hi]; rfl
        have hidx : seqIndex? i (l.length + 1) = some i.toNat := seqIndex_ok i0 i1
        have hr : Rg62 i := rg62 (by omega) (by simp at hlen; omega)
        have hf : f.length < 100000 := by omega
        simp only [List.map_cons, List.length_cons] at e hx
        have e1 : (en x :: List.map en l).isEmpty = false := rfl
        have sx : Sh 60 (.lst (en x :: List.map en l)) := Sh.map (f := en) (xs := x :: l) fun y => hsh y
        simp_arith only [pNeD_nil (vw_cell (g0 _ _ _)) sx, e1, isLst_cell (g1 _ _ _), isLst_cell (g0 _ _ _), rdS_cell (g0 _ _ _), List.length_map, e, pPopAt, cellL_cell (g0 _ _ _), hr, hidx, hx, s0, cellL_cell (g1 _ _ _), hf, s1]
        refine ⟨l.length, by simp, (x :: l).eraseIdx i.toNat, f ++ [(x :: l)[i.toNat]], q', ?_, ?_, ?_, ?_, by trivial⟩
        · rw [List.length_eraseIdx_of_lt hi]; simp
        · congr 2
          · congr 1
            exact map_erase (x :: l) i.toNat
          · rw [List.map_append]; rfl
        · refine List.Perm.trans ?_ hperm
          rw [List.append_assoc]
          exact List.Perm.append_left _ ((List.perm_append_comm).trans (erase_perm (List.getElem?_eq_getElem hi)))
        · rw [List.length_eraseIdx_of_lt hi]; simpa using hq'
    · rintro o ⟨δ, m', rfl, f, q, rfl, hperm, hq, rfl⟩
      simp_arith only []
      rw [fin_own (i := 1) (m := m.set k (ePu q)) (hs0 _) (tidy_pu (Tidy.refl _)) rfl (hun _ _)]
      exact ⟨f, q, rfl, rfl, hperm, hq⟩
  obtain ⟨r, m', e, zs, p', rfl, rfl, h1, h2⟩ := wp_get key
  exact ⟨zs, p', e, h1, h2⟩
theorem nm_str {x : Str} (h : isNm x = true) : PyData.strOk x = true := by
  unfold isNm at h
  rw [Bool.and_eq_true, List.all_eq_true] at h
  unfold PyData.strOk
  rw [← Array.all_toList, List.all_eq_true]
  intro c hc
  have := ltr_mem.mp (of_decide_eq_true (h.2 c hc))
  exact decide_eq_true (by omega)
theorem sh_str {n : Nat} {x : Str} (h : PyData.strOk x = true) : Sh n (.str x) := by cases n <;> exact h
theorem law_order_strs {m : Store} {k b : Nat} {p : Purse} {d : D} {xs : List Str} (hk : m[k]? = some (ePu p)) (h : Rd m d (xs.map D.str)) (hx : ∀ x ∈ xs, PyData.strOk x = true) (hl : xs.length ≤ 1000) (hp : Pok (b + xs.length) p) :
    ∃ (zs : List Str) (p' : Purse), f_law_order [.cell k, d] m = ret (.own (zs.map D.str)) (m.set k (ePu p')) ∧ zs.Perm xs ∧ Pok b p' := by
  let ys := xs.attachWith (fun x => PyData.strOk x = true) hx
  have e1 : ys.map (·.1) = xs := List.attachWith_map_subtype_val hx
  have e2 : ys.map (fun x => D.str x.1) = xs.map D.str := by rw [← e1, List.map_map]; rfl
  obtain ⟨zs, p', e, hz, hp'⟩ := law_order_g (α := {x : Str // PyData.strOk x = true}) (fun x => .str x.1) (fun x => sh_str x.2) (fun n xs => unds_map (fun _ => rfl) xs) (ss := ys) hk (by rw [e2]; exact h) (by rw [← e1, List.length_map] at hl; exact hl) (by rw [← e1, List.length_map] at hp; exact hp)
  refine ⟨zs.map (·.1), p', ?_, ?_, hp'⟩
  · rw [e, List.map_map]; rfl
  · rw [← e1]; exact hz.map _
noncomputable def e_law_span : MS :=
  (sSeq (sSet 3 (pla (fCall0 f_law_end (aCons (eVar 0) (aCons (eVar 1) (aCons (eVar 2) aNil))))))
    (sSeq (sSet 4 (pla (fCall0 f_law_end (aCons (eVar 0) (aCons (dat (fOp pCat (eVar 1) (dat (fLst (aCons (eVar 3) aNil))))) (aCons (eVar 2) aNil))))))
    (sSeq (sSet 5 (eCB pMin3 (aCons (eVar 3) (aCons (eVar 4) (aCons (eOp pSub (eVar 2) (eC (.int 1))) aNil)))))
    (sSeq (sSet 6 (eCB pMax3 (aCons (eVar 3) (aCons (eVar 4) (aCons (eOp pAdd (eVar 5) (eC (.int 1))) aNil)))))
    (sSeq (sExpr (eBM pAppend (eVar 1) (aCons (eVar 5) aNil)))
    (sSeq (sExpr (eBM pAppend (eVar 1) (aCons (eVar 6) aNil)))
    (sRet (eTup (aCons (eVar 5) (aCons (eVar 6) aNil))))))))))
noncomputable def f_law_span : FnS := fnOf 3 7 e_law_span
theorem law_number_an {m : Store} {k b : Nat} {p : Purse} {most : Int} (hk : m[k]? = some (ePu p)) (hp : Pok (b + 2) p) (h0 : 0 ≤ most) (hn : most < 1000000000000000000) :
    ∃ i p', f_law_number [.cell k, .int most] m = ret (.pl (.int i)) (m.set k (ePu p')) ∧ -(max 30 most) ≤ i ∧ i ≤ max 30 most ∧ Pok b p' := by
  obtain ⟨i1, p1, e1, h1, h2, hp1⟩ := law_draw_ok (b := b + 1) hk hp (n := 4) (by omega) (by omega)
  have hk1 : (m.set k (ePu p1))[k]? = some (ePu p1) := set_get hk
  obtain ⟨far, hf, hf1, hf2⟩ : ∃ far : Int, L2.atI [D.int 1, .int 4, .int 30, .int most] i1 = some (.int far) ∧ 0 ≤ far ∧ far ≤ max 30 most := by
    have : i1 = 0 ∨ i1 = 1 ∨ i1 = 2 ∨ i1 = 3 := by omega
    rcases this with rfl | rfl | rfl | rfl
    · exact ⟨1, rfl, by omega, by omega⟩
    · exact ⟨4, rfl, by omega, by omega⟩
    · exact ⟨30, rfl, by omega, by omega⟩
    · exact ⟨most, rfl, by omega, by omega⟩
  obtain ⟨i2, p2, e2, h3, h4, hp2⟩ := law_draw_ok (b := b) hk1 hp1 (n := 2 * far + 1) (by omega) (by omega)
  refine ⟨i2 - far, p2, ?_, by omega, by omega, hp2⟩
  unfold f_law_number e_law_number
  simp! only [pIxL, e1, hf, pMul_l (i := 2) (by omega) (by omega), e2, List.set_set]
theorem law_end_an {m : Store} {k b : Nat} {p : Purse} {d : D} {ends : List Int} {most : Int} (hk : m[k]? = some (ePu p)) (hd : d = .lst (ends.map D.int) ∨ ∃ l, l ≠ k ∧ d = .cell l ∧ m[l]? = some (.lst (ends.map D.int))) (hl : ends.length ≤ 10000) (hp : Pok (b + 3) p) (h0 : 0 ≤ most) (hn : most < 1000000000000000000) :
    ∃ i p', f_law_end [.cell k, d, .int most] m = ret (.pl (.int i)) (m.set k (ePu p')) ∧ -(max 30 most) ≤ i ∧ i ≤ max 30 most ∧ Pok b p' := by
  have hv : ∀ c, vw (m.set k c) d = some (.lst (ends.map D.int)) ∧ rdQ (m.set k c) d = some (ends.map D.int) ∧ rdS (m.set k c) d = some (ends.map D.int) := by
    rcases hd with rfl | ⟨l, hl, rfl, h⟩
    · exact fun c => ⟨rfl, rfl, rfl⟩
    · intro c
      have : (m.set k c)[l]? = some (.lst (ends.map D.int)) := by rw [set_get_ne (fun z => hl z.symm)]; exact h
      exact ⟨vw_cell this, rdQ_cell this, rdS_cell this⟩
  have hv0 : vw m d = some (.lst (ends.map D.int)) := by have := (hv (ePu p)).1; rwa [set_same hk] at this
  by_cases he : ends = []
  · subst he
    obtain ⟨i, p1, e1, h1, h2, hp1⟩ := law_number_an (b := b) hk (hp.mono (by omega)) h0 hn
    refine ⟨i, p1, ?_, h1, h2, hp1⟩
    unfold f_law_end e_law_end
    simp! only [pNeD_nil hv0 sh_ints, List.isEmpty_nil, Bool.not_true, cond_false, e1]
  · have hne : (ends.map D.int).isEmpty = false := by rw [isEmpty_map]; cases ends <;> first | rfl | exact absurd rfl he
    obtain ⟨i1, p1, e1, h1, h2, hp1⟩ := law_draw_ok (b := b + 2) hk hp (n := 3) (by omega) (by omega)
    have hk1 : (m.set k (ePu p1))[k]? = some (ePu p1) := set_get hk
    by_cases hz : 0 < i1
    · have hpos : 0 < ends.length := List.length_pos_iff.mpr he
      obtain ⟨i2, p2, e2, h3, h4, hp2⟩ := law_draw_ok (b := b + 1) hk1 hp1 (n := (ends.length : Int)) (by omega) (by omega)
      have hk2 : (m.set k (ePu p2))[k]? = some (ePu p2) := set_get hk
      rw [List.set_set] at e2
      obtain ⟨i3, p3, e3, h5, h6, hp3⟩ := law_draw_ok (b := b) hk2 hp2 (n := 3) (by omega) (by omega)
      rw [List.set_set] at e3
      have hx : L2.atI (ends.map D.int) i2 = some (.int (ends.getD i2.toNat 0)) := atI_map (atI_getD 0 h3 h4)
      refine ⟨max (0 - most) (min most (ends.getD i2.toNat 0 + i3 - 1)), p3, ?_, by omega, by omega, hp3⟩
      unfold f_law_end e_law_end
      simp! only [pNeD_nil hv0 sh_ints, hne, Bool.not_false, cond_true, e1, decide_eq_true hz, pIxL, pLen, (hv _).2.1, (hv _).2.2, List.length_map, e2, hx, e3]
    · obtain ⟨i2, p2, e2, h3, h4, hp2⟩ := law_number_an (b := b) hk1 hp1 h0 hn
      rw [List.set_set] at e2
      refine ⟨i2, p2, ?_, h3, h4, hp2⟩
      unfold f_law_end e_law_end
      simp! only [pNeD_nil hv0 sh_ints, hne, Bool.not_false, cond_true, e1, decide_eq_false hz, cond_false, e2]
theorem law_span_any {m : Store} {k l b : Nat} {p : Purse} {ends : List Int} {most : Int} (hkl : k ≠ l) (hk : m[k]? = some (ePu p)) (hl : m[l]? = some (.lst (ends.map D.int))) (hn : ends.length ≤ 9000) (hp : Pok (b + 6) p) (h0 : 0 ≤ most) (h1 : most < 1000000000000000000) :
    ∃ s p', f_law_span [.cell k, .cell l, .int most] m = ret (.pl (eS s)) ((m.set k (ePu p')).set l (.lst ((ends ++ [s.1, s.2]).map D.int))) ∧ -(max 30 most) ≤ s.1 ∧ s.1 < s.2 ∧ s.2 ≤ max 30 most ∧ Pok b p' := by
  obtain ⟨i1, p1, e1, a1, a2, hp1⟩ := law_end_an (b := b + 3) (d := .cell l) hk (.inr ⟨l, fun z => hkl z.symm, rfl, hl⟩) (by omega) hp h0 h1
  have hk1 : (m.set k (ePu p1))[k]? = some (ePu p1) := set_get hk
  have hl1 : ∀ c, (m.set k c)[l]? = some (.lst (ends.map D.int)) := fun c => by rw [set_get_ne hkl]; exact hl
  obtain ⟨i2, p2, e2, a3, a4, hp2⟩ := law_end_an (b := b) (d := .lst ((ends ++ [i1]).map D.int)) hk1 (.inl rfl) (by rw [List.length_append]; show ends.length + 1 ≤ 10000; omega) hp1 h0 h1
  rw [List.set_set] at e2
  refine ⟨(min (min i1 i2) (most - 1), max (max i1 i2) (min (min i1 i2) (most - 1) + 1)), p2, ?_, ?_, ?_, ?_, hp2⟩
  · have e2' : f_law_end [.cell k, .lst (ends.map D.int ++ [.int i1]), .int most] (m.set k (ePu p1)) = ret (.pl (.int i2)) (m.set k (ePu p2)) := by rw [← e2, List.map_append]; rfl
    have hl2 : ∀ c xs, ((m.set k c).set l (.lst xs))[l]? = some (.lst xs) := fun c xs => set_get (hl1 c)
    unfold f_law_span e_law_span
    simp! only [e1, pCat, rdL_cell (hl1 _), List.length_map]
    rw [if_pos (by omega)]
    simp! only [e2', eBM, isLst_cell (hl1 _), isLst_cell (hl2 _ _), pAppend, cellL_cell (hl1 _), cellL_cell (hl2 _ _), List.length_map]
    rw [if_pos (by omega)]
    simp! only [eBM, isLst_cell (hl2 _ _), pAppend, cellL_cell (hl2 _ _), List.length_map, List.length_append]
    rw [if_pos (by omega)]
    simp! only [eS, List.set_set, List.map_append, List.append_assoc]
  · show -(max 30 most) ≤ min (min i1 i2) (most - 1); omega
  · show min (min i1 i2) (most - 1) < max (max i1 i2) (min (min i1 i2) (most - 1) + 1); omega
  · show max (max i1 i2) (min (min i1 i2) (most - 1) + 1) ≤ max 30 most; omega
/-! ### a shelf in its cells -/
abbrev Ent := Sp2 × Int
abbrev Kv := List (Str × Ent)
def eE (e : Ent) : D := .tup [eS e.1, .int e.2]
def encV (kv : Kv) : List (Key × D) := kv.map fun p => (.inr p.1, eE p.2)
def lookV (kv : Kv) (x : Str) : Option Ent := (kv.find? fun p => decide (p.1 = x)).map (·.2)
def putV (kv : Kv) (x : Str) (e : Ent) : Kv := if (kv.any fun p => decide (p.1 = x)) = true then kv.map (fun p => if p.1 = x then (p.1, e) else p) else kv ++ [(x, e)]
theorem inr_eq {a b : Str} : ((Sum.inr a : Key) = Sum.inr b) ↔ a = b := ⟨fun h => Sum.inr.inj h, fun h => by rw [h]⟩
theorem valV_enc (kv : Kv) (x : Str) : valD (encV kv) (.inr x) = (lookV kv x).map eE := by
  unfold valD lookV encV
  induction kv with
  | nil => rfl
  | cons p kv ih =>
    rw [List.map_cons, List.find?_cons, List.find?_cons]
    by_cases h : p.1 = x
    · rw [decide_eq_true (inr_eq.mpr h), decide_eq_true h]; rfl
    · rw [decide_eq_false (fun z => h (inr_eq.mp z)), decide_eq_false h]; exact ih
theorem anyV_enc (kv : Kv) (x : Str) : ((encV kv).any fun p => decide (p.1 = (.inr x : Key))) = kv.any fun p => decide (p.1 = x) := by
  unfold encV
  rw [List.any_map]
  congr 1
  funext p
  exact decide_eq_decide.mpr inr_eq
theorem putV_enc (kv : Kv) (x : Str) (e : Ent) : putD (encV kv) (.inr x) (eE e) = encV (putV kv x e) := by
  unfold putD putV
  rw [anyV_enc]
  split
  · unfold encV
    rw [List.map_map, List.map_map]
    refine List.map_congr_left fun p _ => ?_
    show (if (Sum.inr p.1 : Key) = Sum.inr x then _ else _) = _
    by_cases h : p.1 = x
    · rw [if_pos (inr_eq.mpr h)]
      show _ = (Sum.inr (if p.1 = x then (p.1, e) else p).1, eE (if p.1 = x then (p.1, e) else p).2)
      rw [if_pos h]
    · rw [if_neg (fun z => h (inr_eq.mp z))]
      show _ = (Sum.inr (if p.1 = x then (p.1, e) else p).1, eE (if p.1 = x then (p.1, e) else p).2)
      rw [if_neg h]
  · unfold encV
    rw [List.map_append]
    rfl
theorem keysS_enc (kv : Kv) : keysS (encV kv) = some (kv.map (·.1)) := by
  induction kv with
  | nil => rfl
  | cons p kv ih =>
    show (keysS (encV kv)).map (p.1 :: ·) = _
    rw [ih]; rfl
theorem encV_len (kv : Kv) : (encV kv).length = kv.length := by unfold encV; simp
theorem look_none {kv : Kv} {x : Str} : lookV kv x = none ↔ x ∉ kv.map (·.1) := by
  unfold lookV
  rw [Option.map_eq_none_iff, List.find?_eq_none]
  constructor
  · intro h hx
    obtain ⟨p, hp, e⟩ := List.mem_map.mp hx
    exact h p hp (decide_eq_true e)
  · intro h p hp e
    exact h (List.mem_map.mpr ⟨p, hp, of_decide_eq_true e⟩)
theorem look_some {kv : Kv} {x : Str} (h : x ∈ kv.map (·.1)) : ∃ e, lookV kv x = some e := by
  cases hl : lookV kv x with
  | none => exact absurd h (look_none.mp hl)
  | some e => exact ⟨e, rfl⟩
theorem look_in {kv : Kv} {x : Str} {e : Ent} (h : lookV kv x = some e) : (x, e) ∈ kv := by
  unfold lookV at h
  cases hf : kv.find? fun p => decide (p.1 = x) with
  | none => rw [hf] at h; cases h
  | some p =>
    rw [hf] at h
    cases h
    have h1 := List.find?_some hf
    have h2 := List.mem_of_find?_eq_some hf
    have : p.1 = x := by simpa using h1
    rw [← this]
    exact h2
theorem look_mem {kv : Kv} {x : Str} {e : Ent} (nd : (kv.map (·.1)).Nodup) (h : (x, e) ∈ kv) : lookV kv x = some e := by
  unfold lookV
  induction kv with
  | nil => cases h
  | cons p kv ih =>
    rw [List.find?_cons]
    obtain ⟨n1, n2⟩ := List.nodup_cons.mp nd
    by_cases hp : p.1 = x
    · rw [decide_eq_true hp]
      rcases List.mem_cons.mp h with rfl | hm
      · rfl
      · exact absurd (List.mem_map.mpr ⟨(x, e), hm, hp.symm⟩) n1
    · rw [decide_eq_false hp]
      rcases List.mem_cons.mp h with rfl | hm
      · exact absurd rfl hp
      · exact ih n2 hm
theorem putV_new {kv : Kv} {x : Str} {e : Ent} (h : x ∉ kv.map (·.1)) : putV kv x e = kv ++ [(x, e)] := by
  unfold putV
  rw [if_neg]
  intro z
  obtain ⟨p, hp, hx⟩ := List.any_eq_true.mp z
  exact h (List.mem_map.mpr ⟨p, hp, by simpa using hx⟩)
def namesV (kv : Kv) : List Str := ssort (kv.map (·.1))
def spanV (kv : Kv) (x : Str) : Sp2 := ((lookV kv x).getD ((0, 0), 0)).1
def spansV (kv : Kv) : List Sp2 := (namesV kv).map (spanV kv)
def wtV (kv : Kv) (x : Str) : Int := ((lookV kv x).getD ((0, 0), 0)).2
theorem namesV_mem {kv : Kv} {x : Str} : x ∈ namesV kv ↔ x ∈ kv.map (·.1) := (ssort_perm _).mem_iff
theorem namesV_len (kv : Kv) : (namesV kv).length = kv.length := by unfold namesV; rw [(ssort_perm _).length_eq]; simp
theorem spansV_perm {kv : Kv} (nd : (kv.map (·.1)).Nodup) : (spansV kv).Perm (kv.map fun p => p.2.1) := by
  unfold spansV namesV
  refine ((ssort_perm (kv.map (·.1))).map (spanV kv)).trans ?_
  rw [List.map_map]
  refine List.Perm.of_eq (List.map_congr_left fun p hp => ?_)
  show spanV kv p.1 = _
  unfold spanV
  rw [look_mem nd (e := p.2) hp]
  rfl
abbrev shF (a b c : Nat) : List (Str × D) := [("kept", .cell a), ("behind", .cell b), ("ahead", .cell c)]
section
variable {a b c : Nat}
theorem sk_kept : lkF "kept" (shF a b c) = some (.cell a) := rfl
theorem sk_behind : lkF "behind" (shF a b c) = some (.cell b) := rfl
theorem sk_change : lkF "change" (shF a b c) = none := rfl
theorem sk_set_one : lkF "set_one" (shF a b c) = none := rfl
theorem sk_put : lkF "put" (shF a b c) = none := rfl
theorem sk_names : lkF "names" (shF a b c) = none := rfl
theorem sk_spans : lkF "spans" (shF a b c) = none := rfl
theorem sk_cover : lkF "cover" (shF a b c) = none := rfl
theorem sk_span : lkF "span" (shF a b c) = none := rfl
theorem sk_must_have : lkF "must_have" (shF a b c) = none := rfl
theorem sp_kept {x : Nat} : putFD "kept" (.cell x) (shF a b c) = shF x b c := rfl
theorem sp_ahead {x : Nat} : putFD "ahead" (.cell x) (shF a b c) = shF a b x := rfl
end
theorem cellI_sh {m : Store} {k : Nat} {x : Str} {fs : List (Str × D)} (h : m[k]? = some (.ins x fs)) : cellI m x (.cell k) = some (k, fs) := by
  unfold cellI; dsimp only; rw [h]; simp
theorem cellK_sh {m : Store} {k : Nat} {kvs : List (Key × D)} (h : m[k]? = some (.dK kvs)) : cellK m (.cell k) = some (k, kvs) := by
  unfold cellK; dsimp only; rw [h]
theorem cellR_sh {m : Store} {k : Nat} {kvs : List (Key × D)} (h : m[k]? = some (.dK kvs)) : cellR m (.cell k) = some (k, kvs) := by
  unfold cellR; dsimp only; rw [h]
theorem cellR_fz {m : Store} {k : Nat} {kvs : List (Key × D)} (h : m[k]? = some (.fz kvs)) : cellR m (.cell k) = some (k, kvs) := by
  unfold cellR; dsimp only; rw [h]
/-- what is read of a shelf -/
structure SK (m : Store) (k a b c : Nat) (kv : Kv) : Prop where
  hk : m[k]? = some (.ins "Shelf" (shF a b c))
  ha : m[a]? = some (.dK (encV kv))
structure SH (m : Store) (k a b c : Nat) (kv : Kv) (bs as : List D) : Prop where
  sk : SK m k a b c kv
  hb : m[b]? = some (.lst bs)
  hc : m[c]? = some (.lst as)
  nd : [k, a, b, c].Nodup
section
variable {m : Store} {k a b c : Nat} {kv : Kv} {bs as : List D}
theorem SK.ins (h : SK m k a b c kv) : cellI m "Shelf" (.cell k) = some (k, shF a b c) := cellI_sh h.hk
theorem SK.dict (h : SK m k a b c kv) : cellR m (.cell a) = some (a, encV kv) := cellR_sh h.ha
theorem SK.set (h : SK m k a b c kv) {i : Nat} {x : Cell} (h1 : i ≠ k) (h2 : i ≠ a) : SK (m.set i x) k a b c kv := ⟨by rw [List.getElem?_set_ne h1]; exact h.hk, by rw [List.getElem?_set_ne h2]; exact h.ha⟩
theorem SK.app (h : SK m k a b c kv) {l : Store} : SK (m ++ l) k a b c kv := ⟨by rw [List.getElem?_append_left (List.getElem?_eq_some_iff.mp h.hk).1]; exact h.hk, by rw [List.getElem?_append_left (List.getElem?_eq_some_iff.mp h.ha).1]; exact h.ha⟩
end
/-- all but two cells stay -/
def Frm (m m' : Store) (k b : Nat) : Prop := m.length ≤ m'.length ∧ ∀ j, j < m.length → j ≠ k → j ≠ b → m'[j]? = m[j]?
theorem Frm.trans {m m1 m2 : Store} {k b : Nat} (h : Frm m m1 k b) (h' : Frm m1 m2 k b) : Frm m m2 k b := ⟨Nat.le_trans h.1 h'.1, fun j h1 h2 h3 => by rw [h'.2 j (by have := h.1; omega) h2 h3, h.2 j h1 h2 h3]⟩
theorem Frm.refl {m : Store} {k b : Nat} : Frm m m k b := ⟨Nat.le_refl _, fun _ _ _ _ => rfl⟩
/-! walks over a dict -/
theorem fLock_ok {e : ME} {s : MF} {δ : En} {m m2 m3 : Store} {d : Nat} {kvs : List (Key × D)} {ft : FT} (lk : lockAt e δ m = some (d, kvs)) (hs : s δ (m.set d (.fz kvs)) = ret ft m2) (hu : unlock d m2 = some m3) : fLock e s δ m = ret ft m3 := by
  unfold fLock
  rw [lk]
  dsimp only
  rw [hs]
  show RX.unlock d (RX.ok ft, m2) = _
  show (unlock d m2).map (fun m => (RX.ok ft, m)) = _
  rw [hu]
  rfl
theorem unlock_ok {m : Store} {d : Nat} {kvs : List (Key × D)} (h : m[d]? = some (.fz kvs)) : unlock d m = some (m.set d (.dK kvs)) := by
  unfold unlock; rw [h]
theorem lock_back {m : Store} {d : Nat} {kvs : List (Key × D)} (h : m[d]? = some (.dK kvs)) : (m.set d (.fz kvs)).set d (.dK kvs) = m := by
  rw [List.set_set]
  apply List.ext_getElem?
  intro i
  have ld : d < m.length := (List.getElem?_eq_some_iff.mp h).1
  by_cases hi : d = i
  · subst hi; rw [List.getElem?_set_self ld, h]
  · rw [List.getElem?_set_ne hi]
theorem unlock_back {m : Store} {d : Nat} {kvs : List (Key × D)} (h : m[d]? = some (.dK kvs)) : unlock d (m.set d (.fz kvs)) = some m := by
  have ld : d < m.length := (List.getElem?_eq_some_iff.mp h).1
  rw [unlock_ok (List.getElem?_set_self ld), lock_back h]
theorem wKeys_ok {e : ME} {δ : En} {m m1 : Store} {d : Nat} {kvs : List (Key × D)} (he : e δ m = ret (.cell d) m1) (h : m1[d]? = some (.fz kvs)) : wKeys e δ m = ret (Wk.mk (kvs.map fun p => keyOf p.1) []) m1 := by
  unfold wKeys
  rw [he]
  show (match m1[d]? with
    | some (.fz kvs) => ret (Wk.mk (kvs.map fun (kv : Key × D) => keyOf kv.1) []) m1
    | _ => none) = _
  rw [h]
theorem lockAt_ok {e : ME} {δ : En} {m m1 : Store} {d : Nat} {kvs : List (Key × D)} (he : e δ m = ret (.cell d) m1) (h : m[d]? = some (.dK kvs)) : lockAt e δ m = some (d, kvs) := by
  unfold lockAt
  rw [he]
  exact cellK_sh h
/-- a comprehension over the keys: all read, none written -/
theorem fLockLc {e : ME} {g : MG} {t : MT} {el : ME} {vs : List Nat} {δ : En} {m : Store} {d : Nat} {kvs : List (Key × D)} {zs : List D} (he : ∀ m, e δ m = ret (.cell d) m) (h : m[d]? = some (.dK kvs)) (hl : kvs.length < 100000)
    (hlc : lcM g t el (Wk.mk (kvs.map fun p => keyOf p.1) []).chk (wipeE δ vs) (kvs.map fun p => keyOf p.1) (m.set d (.fz kvs)) = ret zs (m.set d (.fz kvs))) : fLock e (fLc (wKeys e) g t el vs) δ m = ret (.own zs) m := by
  have ld : d < m.length := (List.getElem?_eq_some_iff.mp h).1
  refine fLock_ok (lockAt_ok (he m) h) (m2 := m.set d (.fz kvs)) ?_ (unlock_back h)
  unfold fLc
  rw [wKeys_ok (he _) (List.getElem?_set_self ld)]
  show (if (kvs.map fun p => keyOf p.1).length < 100000 then _ else none) = _
  rw [if_pos (by rw [List.length_map]; exact hl)]
  dsimp only
  rw [hlc]
  rfl
theorem ws_lock {e : ME} {s : MS} {δ : En} {m m1 : Store} {d : Nat} {kvs : List (Key × D)} {R : OT → Prop} (he : e δ m = ret (.cell d) m1) (h : m[d]? = some (.dK kvs)) (hs : ws (s δ (m.set d (.fz kvs))) fun o => ∃ o', o.unlock d = some o' ∧ R o') : ws (sLock e s δ m) R := by
  unfold sLock
  rw [lockAt_ok he h]
  dsimp only
  cases ho : s δ (m.set d (.fz kvs)) with
  | none => rw [ho] at hs; exact hs.elim
  | some o =>
    rw [ho] at hs
    obtain ⟨o', e1, e2⟩ := hs
    show ws (o.unlock d) R
    rw [e1]
    exact e2
mutual
theorem eqv_toPy : ∀ d : D, PyData.eqv d.toPy d.toPy = true
  | .non => rfl
  | .bl b => by cases b <;> rfl
  | .int i => by show decide (i = i) = true; simp
  | .str x => by simp [D.toPy, PyData.eqv]
  | .lst xs => eqv_toPys xs
  | .tup xs => eqv_toPys xs
  | .cell _ => rfl
  | .scr ns => by
    have h := eqv_ints ns ns
    rw [decide_eq_true rfl] at h
    have e : D.toPys (ns.map D.int) = ns.map PyData.int := by
      clear h
      induction ns with
      | nil => rfl
      | cons n ns ih => show _ :: D.toPys (ns.map D.int) = _; rw [ih]; rfl
    rw [e] at h
    exact h
  | .exc _ => rfl
theorem eqv_toPys : ∀ ds : List D, PyData.eqvAll (D.toPys ds) (D.toPys ds) = true
  | [] => rfl
  | d :: ds => by
    show (PyData.eqv d.toPy d.toPy && PyData.eqvAll (D.toPys ds) (D.toPys ds)) = true
    rw [eqv_toPy d, eqv_toPys ds]; rfl
end
theorem eqb_self (d : D) : eqb d d = true := eqv_toPy d
theorem ne_self {m : Store} {d e x : D} (h1 : vw m d = some x) (h2 : vw m e = some x) (s : Sh 60 x) : pNeD d e m = ret (.bl false) m := by
  rw [pNeD_eq h1 h2 s s, eqb_self]; rfl
theorem sh_two {n : Nat} {a b : D} (ha : Sh n a) (hb : Sh n b) : Sh (n + 1) (.tup [a, b]) := fun x hx => by
  rcases List.mem_cons.mp hx with rfl | hx
  · exact ha
  · cases List.mem_singleton.mp hx; exact hb
/-! the law's own dict of spans, beside a shelf -/
def encS (kv : Kv) : List (Key × D) := kv.map fun p => (.inr p.1, eS p.2.1)
theorem valS_enc (kv : Kv) (x : Str) : valD (encS kv) (.inr x) = (lookV kv x).map fun e => eS e.1 := by
  unfold valD lookV encS
  induction kv with
  | nil => rfl
  | cons p kv ih =>
    rw [List.map_cons, List.find?_cons, List.find?_cons]
    by_cases h : p.1 = x
    · rw [decide_eq_true (inr_eq.mpr h), decide_eq_true h]; rfl
    · rw [decide_eq_false (fun z => h (inr_eq.mp z)), decide_eq_false h]; exact ih
theorem keysS_encS (kv : Kv) : keysS (encS kv) = some (kv.map (·.1)) := by
  induction kv with
  | nil => rfl
  | cons p kv ih =>
    show (keysS (encS kv)).map (p.1 :: ·) = _
    rw [ih]; rfl
theorem encS_keys (kv : Kv) : ((encS kv).map fun p => keyOf p.1) = (kv.map (·.1)).map D.str := by
  unfold encS
  rw [List.map_map, List.map_map]
  rfl
theorem encS_len (kv : Kv) : (encS kv).length = kv.length := by unfold encS; simp
theorem putS_new {kv : Kv} {x : Str} {s : Sp2} {w : Int} (h : x ∉ kv.map (·.1)) : putD (encS kv) (.inr x) (eS s) = encS (kv ++ [(x, (s, w))]) := by
  unfold putD
  have : ((encS kv).any fun p => decide (p.1 = (.inr x : Key))) = false := by
    rw [Bool.eq_false_iff]
    intro z
    obtain ⟨p, hp, e⟩ := List.any_eq_true.mp z
    unfold encS at hp
    obtain ⟨q, hq, rfl⟩ := List.mem_map.mp hp
    exact h (List.mem_map.mpr ⟨q, hq, inr_eq.mp (of_decide_eq_true e)⟩)
  rw [this, if_neg (by decide)]
  unfold encS
  rw [List.map_append]
  rfl
theorem dgetS {m : Store} {d : Nat} {kv : Kv} {x : Str} {e : Ent} (h : cellR m (.cell d) = some (d, encS kv)) (hx : lookV kv x = some e) : pDGet (.cell d) (.str x) m = ret (eS e.1) m := by
  unfold pDGet
  rw [h]
  simp only [Option.bind_some, keyD, valS_enc, hx]
  rfl
/-! more of a dict of spans by names -/
theorem dgetX {m : Store} {d : Nat} {kv : Kv} (h : cellR m (.cell d) = some (d, encS kv)) {x : Str} (hx : x ∈ kv.map (·.1)) : pDGet (.cell d) (.str x) m = ret (eS (spanV kv x)) m := by
  obtain ⟨e, he⟩ := look_some hx
  rw [dgetS h he]
  unfold spanV
  rw [he]; rfl
theorem sortS {m : Store} {d : Nat} {kv : Kv} (h : m[d]? = some (.dK (encS kv))) (hl : kv.length < 64) : pSortD [.cell d] m = ret (.own ((namesV kv).map D.str)) m := by
  unfold pSortD namesV
  show (cellR m (.cell d)).bind _ = _
  rw [cellR_sh h]
  show (keysS (encS kv)).bind _ = _
  rw [keysS_encS]
  show (if (kv.map (·.1)).length < 64 then _ else none) = _
  rw [if_pos (by rw [List.length_map]; exact hl)]
noncomputable def e_must_weight : MS :=
  (sIf (mNot (tst (eChain pLe pLe (eC (.int 0)) (eVar 0) (eC (.int 1000000000))))) (sRaise "NoWeight") sNext)
noncomputable def f_must_weight : FnS := fnOf 1 1 e_must_weight
def isWt (w : Int) : Bool := decide (0 ≤ w) && decide (w ≤ 1000000000)
theorem must_weight_eq (w : Int) (m : Store) : f_must_weight [.int w] m = if isWt w = true then ret (.pl .non) m else some (.ex "NoWeight", m) := by
  unfold f_must_weight e_must_weight isWt
  simp! only []
  cases decide (0 ≤ w) <;> cases decide (w ≤ 1000000000) <;> simp [fin_same, cutS]
noncomputable def e_touches : MS :=
  (sRet (eAnd (eOp pLt (eOp pIxT (eVar 0) (eC (.int 0))) (eOp pIxT (eVar 1) (eC (.int 1)))) (eOp pLt (eOp pIxT (eVar 1) (eC (.int 0))) (eOp pIxT (eVar 0) (eC (.int 1))))))
noncomputable def f_touches : FnS := fnOf 2 2 e_touches
def touches (a b : Sp2) : Bool := decide (a.1 < b.2) && decide (b.1 < a.2)
theorem touches_eq (a b : Sp2) (m : Store) : f_touches [eS a, eS b] m = ret (.pl (.bl (touches a b))) m := by
  unfold f_touches e_touches eS touches
  simp! only []
noncomputable def e_is_place : MS :=
  (sRet (eChain pLt pLt (eOp pSub (eC (.int 0)) (eC (.int 1000000000000))) (eVar 0) (eC (.int 1000000000000))))
noncomputable def f_is_place : FnS := fnOf 1 1 e_is_place
theorem is_place_eq (i : Int) (m : Store) : f_is_place [.int i] m = ret (.pl (.bl (isPlace i))) m := by
  unfold f_is_place e_is_place isPlace
  simp! only []
noncomputable def e_is_span : MS :=
  (sRet (eAnd (pla (fCall0 f_is_place (aCons (eOp pIxT (eVar 0) (eC (.int 0))) aNil))) (eAnd (pla (fCall0 f_is_place (aCons (eOp pIxT (eVar 0) (eC (.int 1))) aNil))) (eOp pLt (eOp pIxT (eVar 0) (eC (.int 0))) (eOp pIxT (eVar 0) (eC (.int 1)))))))
noncomputable def f_is_span : FnS := fnOf 1 1 e_is_span
theorem is_span_eq (s : Sp2) (m : Store) : f_is_span [eS s] m = ret (.pl (.bl (isSpan s))) m := by
  unfold f_is_span e_is_span isSpan eS
  simp! only [is_place_eq]
/-! deeds on a shelf, as plain data -/
inductive Deed where
  | put (x : Str) (s : Sp2) (w : Int)
  | out (x : Str)
  | move (x : Str) (i : Int)
  | clip (x : Str) (s : Sp2)
  | weigh (x : Str) (w : Int)
/-- what stands on a shelf -/
structure Wf (kv : Kv) : Prop where
  nd : (kv.map (·.1)).Nodup
  fine : ∀ p ∈ kv, isSpan p.2.1 = true ∧ isWt p.2.2 = true
  nm : ∀ p ∈ kv, isNm p.1 = true
  len : kv.length ≤ 60
theorem Wf.nil : Wf [] := ⟨by simp, (fun p hp => nomatch hp), (fun p hp => nomatch hp), Nat.zero_le _⟩
theorem look_at {kv : Kv} {x : Str} (h : x ∈ kv.map (·.1)) : lookV kv x = some (spanV kv x, wtV kv x) := by
  obtain ⟨e, he⟩ := look_some h
  unfold spanV wtV
  rw [he]; rfl
theorem Wf.at {kv : Kv} (h : Wf kv) {x : Str} (hx : x ∈ kv.map (·.1)) : isSpan (spanV kv x) = true ∧ isWt (wtV kv x) = true ∧ isNm x = true := by
  have hl := look_in (look_at hx)
  exact ⟨(h.fine _ hl).1, (h.fine _ hl).2, h.nm _ hl⟩
/-! the same but for their order -/
noncomputable def e_must_span : MS :=
  (sIf (mNot (tst (pla (fCall0 f_is_span (aCons (eVar 0) aNil))))) (sRaise "NoSpan") sNext)
noncomputable def f_must_span : FnS := fnOf 1 1 e_must_span
theorem must_span_eq (s : Sp2) (m : Store) : f_must_span [eS s] m = if isSpan s = true then ret (.pl .non) m else some (.ex "NoSpan", m) := by
  unfold f_must_span e_must_span
  simp! only [is_span_eq]
  cases isSpan s <;> simp [fin_same, cutS]
theorem cutD_1 (xs : List D) : cutD xs (some 1) none = xs.drop 1 := by
  unfold cutD
  rw [show HT.sIx xs.length 0 (some 1) = min 1 xs.length from HT.sIx_nat _ _ 1, HT.sIx_none]
  cases xs with
  | nil => rfl
  | cons x xs =>
    have : min 1 (x :: xs).length = 1 := by simp
    rw [this]; simp
def depth (ss : List Sp2) (x : Int) : Nat := (ss.filter fun s => holdB s x).length
def ends (ss : List Sp2) : List Int := usort (ss.map (·.1) ++ ss.map (·.2))
/-! ### pieces of one depth -/
abbrev Tr := Int × Int × Int
def e3 (t : Tr) : D := .tup [.int t.1, .int t.2.1, .int t.2.2]
theorem zipD_ints (c e : List Int) : zipD (c.map D.int) (e.map D.int) = (c.zip e).map eS := by
  induction c generalizing e with
  | nil => rfl
  | cons a c ih =>
    cases e with
    | nil => rfl
    | cons b e => simp [zipD, ih, eS]
noncomputable def e_Shelf_names : MS :=
  (sRet (cel (fCB pSortD (aCons (eFld "Shelf" "kept" (eVar 0)) aNil))))
noncomputable def f_Shelf_names : FnS := fnOf 1 1 e_Shelf_names
theorem Shelf_names_eq {m : Store} {k a b c : Nat} {kv : Kv} (h : SK m k a b c kv) (hl : kv.length < 64) : f_Shelf_names [.cell k] m = ret (.own ((namesV kv).map D.str)) m := by
  have hl' : (kv.map (·.1)).length < 64 := by simpa using hl
  unfold f_Shelf_names e_Shelf_names
  simp! only [eFld, pLenS, pDictD, pLenD, pDIn, keyD, pSortD, eSlS, h.ins, sk_kept, h.dict, keysS_enc, hl']
  exact fin_own0 (unds_map (fun _ => rfl) _)
noncomputable def e_Shelf_must_have : MS :=
  (sIf (tst (eOp (pDIn true) (eVar 1) (eFld "Shelf" "kept" (eVar 0)))) (sRaise "NoName") sNext)
noncomputable def f_Shelf_must_have : FnS := fnOf 2 2 e_Shelf_must_have
theorem Shelf_must_have_eq {m : Store} {k a b c : Nat} {kv : Kv} {x : Str} (h : SK m k a b c kv) : f_Shelf_must_have [.cell k, .str x] m = if (lookV kv x).isSome = true then ret (.pl .non) m else some (.ex "NoName", m) := by
  have e : (valD (encV kv) (.inr x)).isSome = (lookV kv x).isSome := by rw [valV_enc]; cases lookV kv x <;> rfl
  unfold f_Shelf_must_have e_Shelf_must_have
  cases hx : (lookV kv x).isSome with
  | true =>
    rw [hx] at e
    simp! only [eFld, pLenS, pDictD, pLenD, pDIn, keyD, pSortD, eSlS, h.ins, sk_kept, h.dict, e]
  | false =>
    rw [hx] at e
    simp! only [eFld, pLenS, pDictD, pLenD, pDIn, keyD, pSortD, eSlS, h.ins, sk_kept, h.dict, e, Bool.false_eq_true, cut_same]
noncomputable def e_Shelf_spans : MS :=
  (sRet (cel (fLc (wList (dat (fMeth "Shelf" "names" f_Shelf_names (eVar 0) aNil))) (mName 1) mYes (eOp pIxT (eOp pDGet (eFld "Shelf" "kept" (eVar 0)) (eVar 1)) (eC (.int 0))) [1])))
noncomputable def f_Shelf_spans : FnS := fnOf 1 2 e_Shelf_spans
theorem dget_sh {m : Store} {k a b c : Nat} {kv : Kv} (h : SK m k a b c kv) {x : Str} {e : Ent} (hx : lookV kv x = some e) : pDGet (.cell a) (.str x) m = ret (.tup [eS e.1, .int e.2]) m := by
  unfold pDGet
  rw [h.dict]
  simp only [Option.bind_some, keyD, valV_enc, hx]
  rfl
theorem Shelf_spans_eq {m : Store} {k a b c : Nat} {kv : Kv} (h : SK m k a b c kv) (hl : kv.length < 64) : f_Shelf_spans [.cell k] m = ret (.own ((spansV kv).map eS)) m := by
  have nl : (namesV kv).length < 100000 := by rw [namesV_len]; omega
  unfold f_Shelf_spans e_Shelf_spans
  have lc : lcM (mName 1) mYes (eOp pIxT (eOp pDGet (eFld "Shelf" "kept" (eVar 0)) (eVar 1)) (eC (.int 0))) (Wk.mk ((namesV kv).map D.str) []).chk [some (.cell k), none] ((namesV kv).map D.str) m = ret ((namesV kv).map fun x => eS (spanV kv x)) m :=
    lcM_map chk_nil D.str _ (namesV kv) fun x hx => ⟨[some (.cell k), some (.str x)], rfl, by
      obtain ⟨e, he⟩ := look_some (namesV_mem.mp hx)
      have : spanV kv x = e.1 := by unfold spanV; rw [he]; rfl
      simp! only [eFld, h.ins, sk_kept, dget_sh h he, this]⟩
  simp! only [fMeth, h.ins, sk_names, Shelf_names_eq h hl, srcOf_lst, List.length_map, nl, wipeE, lc]
  rw [show ((namesV kv).map fun x => eS (spanV kv x)) = (spansV kv).map eS by unfold spansV; rw [List.map_map]; rfl]
  exact fin_own0 (unds_eS _ _)
noncomputable def e_Shelf_span : MS :=
  (sSeq (sExpr (pla (fMethS "Shelf" "must_have" f_Shelf_must_have (eVar 0) (aCons (eVar 1) aNil))))
    (sRet (eOp pIxT (eOp pDGet (eFld "Shelf" "kept" (eVar 0)) (eVar 1)) (eC (.int 0)))))
noncomputable def f_Shelf_span : FnS := fnOf 2 2 e_Shelf_span
theorem Shelf_span_ok {m : Store} {k a b c : Nat} {kv : Kv} {x : Str} (h : SK m k a b c kv) (hx : x ∈ kv.map (·.1)) : f_Shelf_span [.cell k, .str x] m = ret (.pl (eS (spanV kv x))) m := by
  obtain ⟨e, he⟩ := look_some hx
  have hv : spanV kv x = e.1 := by unfold spanV; rw [he]; rfl
  have mh := Shelf_must_have_eq (x := x) h
  rw [he] at mh
  replace mh : f_Shelf_must_have [.cell k, .str x] m = ret (.pl .non) m := mh
  unfold f_Shelf_span e_Shelf_span
  simp! only [fMethS, eFld, h.ins, sk_must_have, mh, sk_kept, dget_sh h he, hv]
/-! what is read of a shelf while a dict is walked -/
structure SKr (m : Store) (k a b c : Nat) (kv : Kv) : Prop where
  hk : m[k]? = some (.ins "Shelf" (shF a b c))
  ha : cellR m (.cell a) = some (a, encV kv)
section
variable {m : Store} {k a b c : Nat} {kv : Kv} {x : Str}
theorem SKr.ins (h : SKr m k a b c kv) : cellI m "Shelf" (.cell k) = some (k, shF a b c) := cellI_sh h.hk
theorem SK.r (h : SK m k a b c kv) : SKr m k a b c kv := ⟨h.hk, h.dict⟩
theorem Wf.str (h : Wf kv) : ∀ x ∈ kv.map (·.1), PyData.strOk x = true := fun x hx => nm_str (h.at hx).2.2
theorem Wf.spans (h : Wf kv) : ∀ s ∈ spansV kv, isSpan s = true := fun s hs => by
  rw [(spansV_perm h.nd).mem_iff] at hs
  obtain ⟨p, hp, rfl⟩ := List.mem_map.mp hs
  exact (h.fine p hp).1
theorem Wf.lts (h : Wf kv) : ∀ s ∈ spansV kv, s.1 < s.2 := fun s hs => (good_iff.mp (h.spans s hs)).2.1
theorem Wf.perm {ko : Kv} (h : Wf kv) (p : ko.Perm kv) : Wf ko := ⟨(p.map _).nodup_iff.mpr h.nd, fun q hq => h.fine q (p.mem_iff.mp hq), fun q hq => h.nm q (p.mem_iff.mp hq), by rw [p.length_eq]; exact h.len⟩
end
noncomputable def e_Shelf___init__ : MS :=
  (sSeq (sFldI "Shelf" "kept" eDNew (eVar 0))
    (sSeq (sFldI "Shelf" "behind" (cel (fLst aNil)) (eVar 0))
    (sFldI "Shelf" "ahead" (cel (fLst aNil)) (eVar 0))))
noncomputable def f_Shelf___init__ : FnS := fnA 1 1 e_Shelf___init__
theorem sh0 {x : D} : putFD "kept" x [] = ([("kept", x)] : List (Str × D)) := rfl
theorem sh1 {a x : D} : putFD "behind" x [("kept", a)] = ([("kept", a), ("behind", x)] : List (Str × D)) := rfl
theorem sh2 {a b x : D} : putFD "ahead" x [("kept", a), ("behind", b)] = ([("kept", a), ("behind", b), ("ahead", x)] : List (Str × D)) := rfl
theorem Shelf___init___eq {m : Store} : f_Shelf___init__ [.cell m.length] (m ++ [.ins "Shelf" []]) = ret (.pl .non) (m ++ [.ins "Shelf" (shF (m.length + 1) (m.length + 2) (m.length + 3)), .dK (encV []), .lst [], .lst []]) := by
  apply eq_of_wp
  unfold f_Shelf___init__ e_Shelf___init__
  refine wp_fnA rfl ?_
  have c0 : ∀ fs l, cellI (m ++ .ins "Shelf" fs :: l) "Shelf" (.cell m.length) = some (m.length, fs) := fun fs l => cellI_sh (by simp)
  have s0 : ∀ c c' (l : Store), (m ++ c :: l).set m.length c' = m ++ c' :: l := fun c c' l => by simp
  apply ws_step (δ' := [some (.cell m.length)]) (m' := m ++ [.ins "Shelf" [("kept", .cell (m.length + 1))], .dK []])
  · simp! only [sFldI, eDNew, List.append_assoc, List.cons_append, List.nil_append, c0, sh0, s0, List.length_append]
  apply ws_step (δ' := [some (.cell m.length)]) (m' := m ++ [.ins "Shelf" [("kept", .cell (m.length + 1)), ("behind", .cell (m.length + 2))], .dK [], .lst []])
  · simp! only [sFldI, List.append_assoc, List.cons_append, List.nil_append, c0, sh1, s0, List.length_append]
  refine ws_last (o := .nx [some (.cell m.length)] (m ++ [.ins "Shelf" (shF (m.length + 1) (m.length + 2) (m.length + 3)), .dK [], .lst [], .lst []])) ?_ ?_
  · simp! only [sFldI, List.append_assoc, List.cons_append, List.nil_append, c0, sh2, s0, List.length_append]
  simp_arith only [endA_nx]
  exact ⟨by trivial, by trivial⟩
noncomputable def e_Shelf_change : MS :=
  (sSeq (sExpr (eBM pAppend (eFld "Shelf" "behind" (eVar 0)) (aCons (eFld "Shelf" "kept" (eVar 0)) aNil)))
    (sSeq (sFldI "Shelf" "ahead" (cel (fLst aNil)) (eVar 0))
    (sFldI "Shelf" "kept" (eVar 1) (eVar 0))))
noncomputable def f_Shelf_change : FnS := fnA 2 2 e_Shelf_change
theorem Shelf_change_ok {m : Store} {k a b c a' : Nat} {kv kv' : Kv} {bs as : List D} (h : SH m k a b c kv bs as) (hb : bs.length < 100000) (ha' : m[a']? = some (.dK (encV kv'))) (n1 : a' ≠ k) (n2 : a' ≠ b) :
    ∃ m', f_Shelf_change [.cell k, .cell a'] m = ret (.pl .non) m' ∧ SH m' k a' b m.length kv' (bs ++ [.cell a]) [] ∧ Frm m m' k b := by
  have nd := h.nd
  simp only [List.nodup_cons, List.mem_cons, List.not_mem_nil, or_false, not_or, List.nodup_nil, and_true] at nd
  have lk : k < m.length := (List.getElem?_eq_some_iff.mp h.sk.hk).1
  have lb : b < m.length := (List.getElem?_eq_some_iff.mp h.hb).1
  have la : a' < m.length := (List.getElem?_eq_some_iff.mp ha').1
  obtain ⟨m1, hm1⟩ : ∃ m1, m1 = m.set b (.lst (bs ++ [.cell a])) := ⟨_, rfl⟩
  have g1 : ∀ {j : Nat}, j ≠ b → m1[j]? = m[j]? := fun hj => by rw [hm1]; exact List.getElem?_set_ne (Ne.symm hj)
  have l1 : m1.length = m.length := by rw [hm1]; simp
  have k1 : m1[k]? = some (.ins "Shelf" (shF a b c)) := by rw [g1 (by omega)]; exact h.sk.hk
  obtain ⟨m2, hm2⟩ : ∃ m2, m2 = (m1 ++ [Cell.lst []]).set k (.ins "Shelf" (shF a b m.length)) := ⟨_, rfl⟩
  have k1' : (m1 ++ [Cell.lst []])[k]? = some (.ins "Shelf" (shF a b c)) := by rw [List.getElem?_append_left (by omega)]; exact k1
  have l2 : m2.length = m.length + 1 := by rw [hm2]; simp [l1]
  have k2 : m2[k]? = some (.ins "Shelf" (shF a b m.length)) := by rw [hm2]; exact List.getElem?_set_self (by simp [l1]; omega)
  have g2 : ∀ {j : Nat}, j ≠ k → j ≠ b → j < m.length → m2[j]? = m[j]? := fun h1 h2 h3 => by
    rw [hm2, List.getElem?_set_ne (Ne.symm h1), List.getElem?_append_left (by omega), g1 h2]
  refine ⟨m2.set k (.ins "Shelf" (shF a' b m.length)), ?_, ⟨⟨List.getElem?_set_self (by omega), ?_⟩, ?_, ?_, ?_⟩, ⟨by simp [l2], fun j h1 h2 h3 => ?_⟩⟩
  · apply eq_of_wp
    unfold f_Shelf_change e_Shelf_change
    refine wp_fnA rfl ?_
    apply ws_step (δ' := [some (.cell k), some (.cell a')]) (m' := m1)
    · rw [hm1]
      simp! only [eFld, h.sk.ins, sk_behind, sk_kept, isLst_cell h.hb, cellL_cell h.hb, hb]
    apply ws_step (δ' := [some (.cell k), some (.cell a')]) (m' := m2)
    · rw [hm2]
      simp! only [sFldI, cellI_sh k1', sp_ahead, l1]
    refine ws_last (o := .nx [some (.cell k), some (.cell a')] (m2.set k (.ins "Shelf" (shF a' b m.length)))) ?_ ?_
    · simp! only [sFldI, cellI_sh k2, sp_kept]
    simp_arith only [endA_nx]
    exact ⟨by trivial, by trivial⟩
  · rw [List.getElem?_set_ne (Ne.symm n1), g2 n1 n2 la]; exact ha'
  · rw [List.getElem?_set_ne (by omega), hm2, List.getElem?_set_ne (by omega), List.getElem?_append_left (by omega), hm1]
    exact List.getElem?_set_self lb
  · rw [List.getElem?_set_ne (by omega), hm2, List.getElem?_set_ne (by omega), List.getElem?_append_right (by omega)]
    simp [l1]
  · simp only [List.nodup_cons, List.mem_cons, List.not_mem_nil, or_false, not_or, List.nodup_nil, and_true]
    exact ⟨⟨Ne.symm n1, nd.1.2.1, by omega⟩, ⟨n2, by omega⟩, by omega, not_false⟩
  · rw [List.getElem?_set_ne (Ne.symm h2), g2 h2 h3 h1]
noncomputable def e_Shelf_set_one : MS :=
  (sSeq (sSet 4 (eCB pDictD (aCons (eFld "Shelf" "kept" (eVar 0)) aNil)))
    (sSeq (sDPutI (eTup (aCons (eVar 2) (aCons (eVar 3) aNil))) (eVar 4) (eVar 1))
    (sExpr (pla (fMeth "Shelf" "change" f_Shelf_change (eVar 0) (aCons (eVar 4) aNil))))))
noncomputable def f_Shelf_set_one : FnS := fnA 4 5 e_Shelf_set_one
theorem Shelf_set_one_ok {m : Store} {k a b c : Nat} {kv : Kv} {bs as : List D} {x : Str} {s : Sp2} {w : Int} (h : SH m k a b c kv bs as) (hb : bs.length < 100000) (hl : kv.length < 100000) :
    ∃ m', f_Shelf_set_one [.cell k, .str x, eS s, .int w] m = ret (.pl .non) m' ∧ SH m' k m.length b (m.length + 1) (putV kv x (s, w)) (bs ++ [.cell a]) [] ∧ Frm m m' k b := by
  have lk : k < m.length := (List.getElem?_eq_some_iff.mp h.sk.hk).1
  have lb : b < m.length := (List.getElem?_eq_some_iff.mp h.hb).1
  have lc : c < m.length := (List.getElem?_eq_some_iff.mp h.hc).1
  have h1 : SH (m ++ [.dK (encV (putV kv x (s, w)))]) k a b c kv bs as := ⟨h.sk.app, by rw [List.getElem?_append_left lb]; exact h.hb, by rw [List.getElem?_append_left lc]; exact h.hc, h.nd⟩
  obtain ⟨m', e, sh, fr⟩ := Shelf_change_ok h1 hb (a' := m.length) (kv' := putV kv x (s, w)) (by simp) (by omega) (by omega)
  rw [show (m ++ [Cell.dK (encV (putV kv x (s, w)))]).length = m.length + 1 by simp] at sh
  refine ⟨m', ?_, sh, ⟨by have := fr.1; simp at this; omega, fun j q1 q2 q3 => ?_⟩⟩
  · have key : wp (f_Shelf_set_one [.cell k, .str x, eS s, .int w] m) (fun r m1 => r = .ok (.pl .non) ∧ m1 = m') := by
      unfold f_Shelf_set_one e_Shelf_set_one
      refine wp_fnA rfl ?_
      apply ws_step (δ' := [some (.cell k), some (.str x), some (eS s), some (.int w), some (.cell m.length)]) (m' := m ++ [.dK (encV kv)])
      · simp! only [eFld, pLenS, pDictD, pLenD, pDIn, keyD, pSortD, eSlS, h.sk.ins, sk_kept, h.sk.dict]
      have hd : (m ++ [Cell.dK (encV kv)])[m.length]? = some (.dK (encV kv)) := by simp
      have hs : (m ++ [Cell.dK (encV kv)]).set m.length (.dK (encV (putV kv x (s, w)))) = m ++ [.dK (encV (putV kv x (s, w)))] := by simp
      have ee : D.tup [eS s, .int w] = eE (s, w) := rfl
      have hll : (encV kv).length < 100000 := by rw [encV_len]; exact hl
      apply ws_step (δ' := [some (.cell k), some (.str x), some (eS s), some (.int w), some (.cell m.length)]) (m' := m ++ [.dK (encV (putV kv x (s, w)))])
      · simp! only [eFld, pLenS, pDictD, pLenD, pDIn, keyD, pSortD, eSlS, sDPutI, cellK_sh hd, hll, ee, putV_enc, hs]
      refine ws_last (o := .nx [some (.cell k), some (.str x), some (eS s), some (.int w), some (.cell m.length)] m') ?_ ?_
      · simp! only [fMeth, h1.sk.ins, sk_change, e]
      simp_arith only [endA_nx]
      exact ⟨by trivial, by trivial⟩
    exact eq_of_wp key
  · rw [fr.2 j (by simp; omega) q2 q3, List.getElem?_append_left q1]
noncomputable def e_must_room : MS :=
  (sIf (tst (eOp pGt (eVar 0) (eC (.int 60)))) (sRaise "Full") sNext)
noncomputable def f_must_room : FnS := fnOf 1 1 e_must_room
theorem must_room_ok {w : Int} (h : w ≤ 60) (m : Store) : f_must_room [.int w] m = ret (.pl .non) m := by
  unfold f_must_room e_must_room
  have : decide (w > 60) = false := decide_eq_false (by omega)
  simp! only [this]
noncomputable def e_Shelf_put : MS :=
  (sSeq (sIf (mNot (tst (pla (fCall0 f_is_name (aCons (eVar 1) aNil))))) (sRaise "NoName") sNext)
    (sSeq (sIf (tst (eOp (pDIn false) (eVar 1) (eFld "Shelf" "kept" (eVar 0)))) (sRaise "Twice") sNext)
    (sSeq (sExpr (pla (fCall f_must_span (aCons (eVar 2) aNil))))
    (sSeq (sExpr (pla (fCall f_must_weight (aCons (eVar 3) aNil))))
    (sSeq (sExpr (pla (fCall f_must_room (aCons (eOp pAdd (eCB pLenD (aCons (eFld "Shelf" "kept" (eVar 0)) aNil)) (eC (.int 1))) aNil))))
    (sExpr (pla (fMeth "Shelf" "set_one" f_Shelf_set_one (eVar 0) (aCons (eVar 1) (aCons (eVar 2) (aCons (eVar 3) aNil)))))))))))
noncomputable def f_Shelf_put : FnS := fnA 4 4 e_Shelf_put
theorem Shelf_put_ok {m : Store} {k a b c : Nat} {kv : Kv} {bs as : List D} {x : Str} {s : Sp2} {w : Int} (h : SH m k a b c kv bs as) (hb : bs.length < 100000) (hl : kv.length < 60) (hx : isNm x = true) (hxl : x.length ≤ 1000) (hn : x ∉ kv.map (·.1)) (hs : isSpan s = true) (hw : isWt w = true) :
    ∃ m', f_Shelf_put [.cell k, .str x, eS s, .int w] m = ret (.pl .non) m' ∧ SH m' k m.length b (m.length + 1) (kv ++ [(x, (s, w))]) (bs ++ [.cell a]) [] ∧ Frm m m' k b := by
  obtain ⟨m', e, sh, fr⟩ := Shelf_set_one_ok (x := x) (s := s) (w := w) h hb (by omega)
  rw [putV_new hn] at sh
  refine ⟨m', ?_, sh, fr⟩
  have key : wp (f_Shelf_put [.cell k, .str x, eS s, .int w] m) (fun r m1 => r = .ok (.pl .non) ∧ m1 = m') := by
    unfold f_Shelf_put e_Shelf_put
    refine wp_fnA rfl ?_
    apply ws_step (δ' := [some (.cell k), some (.str x), some (eS s), some (.int w)]) (m' := m)
    · simp! only [is_name_eq (show x.length ≤ 90000 by omega), hx]
    apply ws_step (δ' := [some (.cell k), some (.str x), some (eS s), some (.int w)]) (m' := m)
    · have : (valD (encV kv) (.inr x)).isSome = false := by rw [valV_enc, look_none.mpr hn]; rfl
      simp! only [eFld, pLenS, pDictD, pLenD, pDIn, keyD, pSortD, eSlS, h.sk.ins, sk_kept, h.sk.dict, this]
      rfl
    apply ws_step (δ' := [some (.cell k), some (.str x), some (eS s), some (.int w)]) (m' := m)
    · simp! only [must_span_eq, hs]
    apply ws_step (δ' := [some (.cell k), some (.str x), some (eS s), some (.int w)]) (m' := m)
    · simp! only [must_weight_eq, hw]
    apply ws_step (δ' := [some (.cell k), some (.str x), some (eS s), some (.int w)]) (m' := m)
    · have := must_room_ok (w := ((encV kv).length : Int) + 1) (by rw [encV_len]; omega) m
      simp! only [eFld, pLenS, pDictD, pLenD, pDIn, keyD, pSortD, eSlS, h.sk.ins, sk_kept, h.sk.dict, this]
    refine ws_last (o := .nx [some (.cell k), some (.str x), some (eS s), some (.int w)] m') ?_ ?_
    · simp! only [fMeth, h.sk.ins, sk_set_one, e]
    simp_arith only [endA_nx]
    exact ⟨by trivial, by trivial⟩
  exact eq_of_wp key
/-! a shelf with what lies behind -/
inductive Hst (P : Nat → Prop) (m : Store) : List D → List Kv → Prop
  | nil : Hst P m [] []
  | snoc {bs : List D} {kvs : List Kv} {j : Nat} {kv : Kv} : Hst P m bs kvs → P j → m[j]? = some (.dK (encV kv)) → Hst P m (bs ++ [.cell j]) (kvs ++ [kv])
section
variable {P : Nat → Prop} {m m' : Store} {k a b c : Nat} {kv : Kv} {bs as : List D} {kvs : List Kv}
theorem Hst.mono (h : Hst P m bs kvs) (hm : ∀ (j : Nat) v, P j → m[j]? = some (.dK (encV v)) → m'[j]? = some (.dK (encV v))) : Hst P m' bs kvs := by
  induction h with
  | nil => exact .nil
  | snoc _ hP hj ih => exact .snoc ih hP (hm _ _ hP hj)
theorem Hst.len (h : Hst P m bs kvs) : bs.length = kvs.length := by
  induction h with
  | nil => rfl
  | snoc _ _ _ ih => simp [ih]
theorem Hst.last {kv : Kv} (h : Hst P m bs (kvs ++ [kv])) : ∃ bs' j, bs = bs' ++ [.cell j] ∧ P j ∧ Hst P m bs' kvs ∧ m[j]? = some (.dK (encV kv)) := by
  generalize e : kvs ++ [kv] = ks at h
  cases h with
  | nil => simp at e
  | snoc h1 hP hj =>
    obtain ⟨rfl, e2⟩ := List.append_inj' e rfl
    cases e2
    exact ⟨_, _, rfl, hP, h1, hj⟩
theorem SH.app (h : SH m k a b c kv bs as) {l : Store} : SH (m ++ l) k a b c kv bs as :=
  ⟨h.sk.app, by rw [List.getElem?_append_left (List.getElem?_eq_some_iff.mp h.hb).1]; exact h.hb, by rw [List.getElem?_append_left (List.getElem?_eq_some_iff.mp h.hc).1]; exact h.hc, h.nd⟩
theorem SH.of (h : SH m k a b c kv bs as) (h1 : m'[k]? = m[k]?) (h2 : m'[a]? = m[a]?) (h3 : m'[b]? = m[b]?) (h4 : m'[c]? = m[c]?) : SH m' k a b c kv bs as :=
  ⟨⟨by rw [h1]; exact h.sk.hk, by rw [h2]; exact h.sk.ha⟩, by rw [h3]; exact h.hb, by rw [h4]; exact h.hc, h.nd⟩
theorem SH.set (h : SH m k a b c kv bs as) {i : Nat} {x : Cell} (h1 : i ≠ k) (h2 : i ≠ a) (h3 : i ≠ b) (h4 : i ≠ c) : SH (m.set i x) k a b c kv bs as :=
  h.of (List.getElem?_set_ne h1) (List.getElem?_set_ne h2) (List.getElem?_set_ne h3) (List.getElem?_set_ne h4)
end
theorem Fine.snoc {kv : Kv} {x : Str} {s : Sp2} {w : Int} (h : ∀ p ∈ kv, isSpan p.2.1 = true ∧ isWt p.2.2 = true) (hs : isSpan s = true) (hw : isWt w = true) : ∀ p ∈ kv ++ [(x, (s, w))], isSpan p.2.1 = true ∧ isWt p.2.2 = true := fun p hp => by
  rcases List.mem_append.mp hp with z | z
  · exact h p z
  · cases List.mem_singleton.mp z; exact ⟨hs, hw⟩
noncomputable def e_law_shelf : MS :=
  (sSeq (sSet 3 (eMake "Shelf" f_Shelf___init__ aNil))
    (sSeq (sSet 4 eDNew)
    (sSeq (sFor (wList (dat (fSl (dat (fCall0 f_law_order (aCons (eVar 0) (aCons (eVar 1) aNil)))) oNone (oSome (pla (fCall0 f_law_draw (aCons (eVar 0) (aCons (eC (.int 9)) aNil)))))))) (mName 5)
    (sSeq (sDPutI (pla (fCall0 f_law_span (aCons (eVar 0) (aCons (eVar 2) (aCons (eOp pIxL (dat (fLst (aCons (eC (.int 12)) (aCons (eOp pSub (eOp pPow (eC (.int 10)) (eC (.int 12))) (eC (.int 1))) aNil)))) (pla (fCall0 f_law_draw (aCons (eVar 0) (aCons (eC (.int 2)) aNil))))) aNil))))) (eVar 4) (eVar 5))
    (sExpr (pla (fMethS "Shelf" "put" f_Shelf_put (eVar 3) (aCons (eVar 5) (aCons (eOp pDGet (eVar 4) (eVar 5)) (aCons (pla (fCall0 f_law_draw (aCons (eVar 0) (aCons (eC (.int 9)) aNil)))) aNil))))))))
    (sRet (eTup (aCons (eVar 3) (aCons (eVar 4) aNil)))))))
noncomputable def f_law_shelf : FnS := fnA 3 6 e_law_shelf
/-- a shelf that was made, and the dict beside it -/
structure Made (m0 m : Store) (p e : Nat) (k dd : Nat) (kv : Kv) : Prop where
  sk : ∃ a b c, SK m k a b c kv ∧ m0.length ≤ a ∧ a ≠ dd
  hd : m[dd]? = some (.dK (encS kv))
  wf : Wf kv
  len : m0.length ≤ m.length
  at' : ∀ j, j < m0.length → j ≠ p → j ≠ e → m[j]? = m0[j]?
  hk : m0.length ≤ k
  hdd : m0.length ≤ dd
theorem law_shelf_ok {m : Store} {p e b : Nat} {pu : Purse} {xs : List Str} {ends : List Int} (hpe : p ≠ e) (hp : m[p]? = some (ePu pu)) (he : m[e]? = some (.lst (ends.map D.int))) (nd : xs.Nodup) (nm : ∀ x ∈ xs, isNm x = true) (hx : xs.length ≤ 9) (hn : ends.length ≤ 1000) (ok : Pok (b + 100) pu) :
    ∃ (m' : Store) (pu' : Purse) (ends' : List Int) (k dd : Nat) (kv : Kv), f_law_shelf [.cell p, .lst (xs.map D.str), .cell e] m = ret (.pl (.tup [.cell k, .cell dd])) m' ∧ Made m m' p e k dd kv ∧ m'[p]? = some (ePu pu') ∧ m'[e]? = some (.lst (ends'.map D.int)) ∧ ends'.length ≤ ends.length + 18 ∧ (∀ x ∈ kv.map (·.1), x ∈ xs) ∧ kv.length ≤ 9 ∧ Pok b pu' := by
  have lp : p < m.length := (List.getElem?_eq_some_iff.mp hp).1
  have le : e < m.length := (List.getElem?_eq_some_iff.mp he).1
  have ap : ∀ {k : Nat} {c : Cell} {l : Store}, m[k]? = some c → (m ++ l)[k]? = some c := fun {k c l} z => by rw [List.getElem?_append_left (List.getElem?_eq_some_iff.mp z).1]; exact z
  have key : wp (f_law_shelf [.cell p, .lst (xs.map D.str), .cell e] m) (fun r m' => ∃ (pu' : Purse) (ends' : List Int) (k dd : Nat) (kv : Kv), r = .ok (.pl (.tup [.cell k, .cell dd])) ∧ Made m m' p e k dd kv ∧ m'[p]? = some (ePu pu') ∧ m'[e]? = some (.lst (ends'.map D.int)) ∧ ends'.length ≤ ends.length + 18 ∧ (∀ x ∈ kv.map (·.1), x ∈ xs) ∧ kv.length ≤ 9 ∧ Pok b pu') := by
    unfold f_law_shelf e_law_shelf
    refine wp_fnA rfl ?_
    have ini := Shelf___init___eq (m := m)
    refine ws_step (δ' := [some (.cell p), some (.lst (xs.map D.str)), some (.cell e), some (.cell m.length), none, none]) (m' := m ++ [.ins "Shelf" (shF (m.length + 1) (m.length + 2) (m.length + 3)), .dK (encV []), .lst [], .lst []]) ?_ ?_
    · simp! only [eMake, ini]
    refine ws_step (δ' := [some (.cell p), some (.lst (xs.map D.str)), some (.cell e), some (.cell m.length), some (.cell (m.length + 4)), none]) (m' := m ++ [.ins "Shelf" (shF (m.length + 1) (m.length + 2) (m.length + 3)), .dK (encV []), .lst [], .lst [], .dK (encS [])]) ?_ ?_
    · simp! only [eDNew, List.length_append, List.append_assoc]
      rfl
    obtain ⟨M0, hM0⟩ : ∃ M0, M0 = m ++ [.ins "Shelf" (shF (m.length + 1) (m.length + 2) (m.length + 3)), .dK (encV []), .lst [], .lst [], .dK (encS [])] := ⟨_, rfl⟩
    rw [← hM0]
    have sh0 : SH M0 m.length (m.length + 1) (m.length + 2) (m.length + 3) [] [] [] := by
      rw [hM0]
      exact ⟨⟨get_app0 _ _, get_app _ _ 1⟩, get_app _ _ 2, get_app _ _ 3, by simp⟩
    have hd0 : M0[m.length + 4]? = some (.dK (encS [])) := by rw [hM0]; exact get_app _ _ 4
    have hp0 : M0[p]? = some (ePu pu) := by rw [hM0]; exact ap hp
    have he0 : M0[e]? = some (.lst (ends.map D.int)) := by rw [hM0]; exact ap he
    have l0 : M0.length = m.length + 5 := by rw [hM0]; simp
    have fr0 : ∀ j, j < m.length → M0[j]? = m[j]? := fun j hj => by rw [hM0]; exact List.getElem?_append_left hj
    obtain ⟨zs, p1, e1, pz, hp1⟩ := law_order_strs (b := b + 91) (m := M0) (d := .lst (xs.map D.str)) hp0 .lst (fun x hx => nm_str (nm x hx)) (by omega) (hp := ok.mono (by omega))
    have g1 : (M0.set p (ePu p1))[p]? = some (ePu p1) := List.getElem?_set_self (by omega)
    obtain ⟨i9, p2, e2, a0, a1, hp2⟩ := law_draw_ok (b := b + 90) g1 hp1 (n := 9) (by omega) (by omega)
    rw [List.set_set] at e2
    obtain ⟨r9, rfl⟩ : ∃ r9 : Nat, i9 = (r9 : Int) := ⟨i9.toNat, by omega⟩
    have ndz : (zs.take r9).Nodup := (pz.nodup_iff.mpr nd).sublist (List.take_sublist _ _)
    have inz : ∀ x ∈ zs.take r9, x ∈ xs := fun x hx => pz.mem_iff.mp (List.mem_of_mem_take hx)
    have lz : (zs.take r9).length ≤ 9 := by rw [List.length_take, pz.length_eq]; omega
    refine ws_mid (I := fun δ m' => ∃ (kv : Kv) (a bb c : Nat) (bs as : List D) (pu' : Purse) (ends' : List Int) (z : Option D), SH m' m.length a bb c kv bs as ∧ m.length ≤ a ∧ a ≠ m.length + 4 ∧ m'[m.length + 4]? = some (.dK (encS kv)) ∧ m'[p]? = some (ePu pu') ∧ m'[e]? = some (.lst (ends'.map D.int)) ∧ Wf kv ∧ (∀ x ∈ kv.map (·.1), x ∈ xs) ∧ m.length ≤ m'.length ∧ (∀ j, j < m.length → j ≠ p → j ≠ e → m'[j]? = m[j]?) ∧ kv.length ≤ 9 ∧ ends'.length ≤ ends.length + 18 ∧ Pok b pu' ∧ δ = [some (.cell p), some (.lst (xs.map D.str)), some (.cell e), some (.cell m.length), some (.cell (m.length + 4)), z]) ?_ ?_
    · refine ws_forS (wk := ⟨(zs.take r9).map D.str, []⟩) (m' := M0.set p (ePu p2)) ?_ ?_
      · simp! only [e1, e2, cut_to, srcOf_lst, List.map_take]
      refine ws_mono (forT (en := D.str) (I := fun l δ m' => l.Nodup ∧ (∀ x ∈ l, x ∈ xs) ∧ ∃ (kv : Kv) (a bb c : Nat) (bs as : List D) (pu' : Purse) (ends' : List Int) (z : Option D), (∀ x ∈ l, x ∉ kv.map (·.1)) ∧ SH m' m.length a bb c kv bs as ∧ m.length ≤ a ∧ bb = m.length + 2 ∧ m'[m.length + 4]? = some (.dK (encS kv)) ∧ m'[p]? = some (ePu pu') ∧ m'[e]? = some (.lst (ends'.map D.int)) ∧ Wf kv ∧ (∀ x ∈ kv.map (·.1), x ∈ xs) ∧ m.length + 5 ≤ m'.length ∧ (∀ j, j < m.length → j ≠ p → j ≠ e → m'[j]? = m[j]?) ∧ bs.length = kv.length ∧ kv.length + l.length ≤ 9 ∧ ends'.length + 2 * l.length ≤ ends.length + 18 ∧ Pok (b + 8 * l.length) pu' ∧ a ≠ m.length + 4 ∧ m.length ≤ c ∧ c ≠ m.length + 4 ∧ δ = [some (.cell p), some (.lst (xs.map D.str)), some (.cell e), some (.cell m.length), some (.cell (m.length + 4)), z]) (fun _ _ _ _ => chk_nil) ?_ ⟨ndz, inz, [], m.length + 1, m.length + 2, m.length + 3, [], [], p2, ends, _, (fun x _ h => nomatch h), ?_, by omega, rfl, ?_, ?_, ?_, Wf.nil, (fun x h => nomatch h), ?_, ?_, rfl, by simpa using lz, by omega, hp2.mono (by omega), by omega, by omega, by omega, rfl⟩) ?_
      · rintro x l δ m' ⟨hnd, hin, kv, a, bb, c, bs, as, pu', ends', z, hnot, sh, ha, rfl, hd, hpp, hee, wf, hkx, hlen, hfr, hbs, hkl, hel, hpok, had, hca, hcd, rfl⟩
        rw [List.length_cons] at hkl hel hpok
        obtain ⟨nd1, nd2⟩ := List.nodup_cons.mp hnd
        have hx1 := nm x (hin x List.mem_cons_self)
        have hnx := hnot x List.mem_cons_self
        obtain ⟨i2, q1, e3, b0, b1, hq1⟩ := law_draw_ok (b := b + 8 * l.length + 7) hpp (hpok.mono (by omega)) (n := 2) (by omega) (by omega)
        obtain ⟨most, hm, hm0, hm1, hm2⟩ : ∃ most : Int, L2.atI [D.int 12, D.int 999999999999] i2 = some (.int most) ∧ 0 ≤ most ∧ most ≤ 999999999999 ∧ 0 ≤ most := by
          have : i2 = 0 ∨ i2 = 1 := by omega
          rcases this with rfl | rfl
          · exact ⟨12, rfl, by omega, by omega, by omega⟩
          · exact ⟨999999999999, rfl, by omega, by omega, by omega⟩
        have g2 : (m'.set p (ePu q1))[p]? = some (ePu q1) := List.getElem?_set_self (by omega)
        have g3 : (m'.set p (ePu q1))[e]? = some (.lst (ends'.map D.int)) := by rw [List.getElem?_set_ne hpe]; exact hee
        obtain ⟨s, q2, e4, s1, s2, s3, hq2⟩ := law_span_any (b := b + 8 * l.length + 1) hpe g2 g3 (by omega) (hq1.mono (by omega)) hm0 (by omega)
        rw [List.set_set] at e4
        have hs : isSpan s = true := good_iff.mpr ⟨by omega, s2, by omega⟩
        obtain ⟨M1, hM1⟩ : ∃ M1, M1 = (m'.set p (ePu q2)).set e (.lst ((ends' ++ [s.1, s.2]).map D.int)) := ⟨_, rfl⟩
        rw [← hM1] at e4
        have at1 : ∀ j, j ≠ p → j ≠ e → M1[j]? = m'[j]? := fun j h1 h2 => by rw [hM1, List.getElem?_set_ne (fun z => h2 z.symm), List.getElem?_set_ne (fun z => h1 z.symm)]
        have lM1 : M1.length = m'.length := by rw [hM1]; simp
        have hd1 : M1[m.length + 4]? = some (.dK (encS kv)) := by rw [at1 _ (by omega) (by omega)]; exact hd
        have kl : (encS kv).length < 100000 := by rw [encS_len]; omega
        refine ⟨[some (.cell p), some (.lst (xs.map D.str)), some (.cell e), some (.cell m.length), some (.cell (m.length + 4)), some (.str x)], rfl, ?_⟩
        refine ws_step (δ' := [some (.cell p), some (.lst (xs.map D.str)), some (.cell e), some (.cell m.length), some (.cell (m.length + 4)), some (.str x)]) (m' := M1.set (m.length + 4) (.dK (encS (kv ++ [(x, (s, 0))])))) ?_ ?_
        · have pz := putS_new (s := s) (w := 0) hnx
          simp! only [sDPutI, e3, hm, e4, cellK_sh hd1, keyD, kl, pz]
        obtain ⟨M2, hM2⟩ : ∃ M2, M2 = M1.set (m.length + 4) (.dK (encS (kv ++ [(x, (s, 0))]))) := ⟨_, rfl⟩
        rw [← hM2]
        have at2 : ∀ j, j ≠ m.length + 4 → M2[j]? = M1[j]? := fun j h1 => by rw [hM2, List.getElem?_set_ne (fun z => h1 z.symm)]
        have lM2 : M2.length = m'.length := by rw [hM2, List.length_set, lM1]
        have hd2 : M2[m.length + 4]? = some (.dK (encS (kv ++ [(x, (s, 0))]))) := by rw [hM2]; exact List.getElem?_set_self (by omega)
        have hp2' : M2[p]? = some (ePu q2) := by rw [at2 _ (by omega), hM1, List.getElem?_set_ne (fun z => hpe z.symm), List.getElem?_set_self (by omega)]
        have he2' : M2[e]? = some (.lst ((ends' ++ [s.1, s.2]).map D.int)) := by rw [at2 _ (by omega), hM1, List.getElem?_set_self (by rw [List.length_set]; omega)]
        obtain ⟨i3, q3, e5, c0, c1, hq3⟩ := law_draw_ok (b := b + 8 * l.length) hp2' (hq2.mono (by omega)) (n := 9) (by omega) (by omega)
        obtain ⟨M3, hM3⟩ : ∃ M3, M3 = M2.set p (ePu q3) := ⟨_, rfl⟩
        rw [← hM3] at e5
        have at3 : ∀ j, j ≠ p → M3[j]? = M2[j]? := fun j h1 => by rw [hM3, List.getElem?_set_ne (fun z => h1 z.symm)]
        have lM3 : M3.length = m'.length := by rw [hM3, List.length_set, lM2]
        have of3 : ∀ j, m.length ≤ j → j ≠ m.length + 4 → M3[j]? = m'[j]? := fun j z1 z2 => by rw [at3 _ (by omega), at2 _ z2, at1 _ (by omega) (by omega)]
        have sh3 : SH M3 m.length a (m.length + 2) c kv bs as := sh.of (of3 _ (by omega) (by omega)) (of3 _ ha had) (of3 _ (by omega) (by omega)) (of3 _ hca hcd)
        have hin3 := sh3.sk.ins
        have hw : isWt i3 = true := by unfold isWt; simp only [Bool.and_eq_true, decide_eq_true_eq]; omega
        have hx2 := nm_len' hx1
        obtain ⟨m4, e6, sh4, fr4⟩ := Shelf_put_ok sh3 (by omega) (by omega) hx1 (by omega) hnx hs hw
        have in2 : cellI M2 "Shelf" (.cell m.length) = some (m.length, shF a (m.length + 2) c) := cellI_sh (by rw [at2 _ (by omega), at1 _ (by omega) (by omega)]; exact sh.sk.hk)
        have hdg : pDGet (.cell (m.length + 4)) (.str x) M2 = ret (eS s) M2 := by
          have := dgetX (m := M2) (d := m.length + 4) (kv := kv ++ [(x, (s, 0))]) (cellR_sh hd2) (x := x) (by simp)
          rw [this]
          have ln : lookV (kv ++ [(x, (s, (0 : Int)))]) x = some (s, 0) := by
            refine look_mem ?_ (by simp)
            rw [List.map_append]
            exact List.nodup_append.mpr ⟨wf.nd, by simp, fun y hy z hz h => by
              cases List.mem_singleton.mp hz
              exact hnx (by have h' : y = x := h; rw [← h']; exact hy)⟩
          unfold spanV
          rw [ln]; rfl
        have of4 : ∀ j, j < m'.length → j ≠ m.length → j ≠ m.length + 2 → m4[j]? = M3[j]? := fun j z1 z2 z3 => fr4.2 j (by omega) z2 z3
        refine ws_last (o := .nx [some (.cell p), some (.lst (xs.map D.str)), some (.cell e), some (.cell m.length), some (.cell (m.length + 4)), some (.str x)] m4) ?_ ⟨_, _, rfl, nd2, fun y hy => hin y (List.mem_cons_of_mem _ hy), kv ++ [(x, (s, i3))], _, _, _, _, _, q3, ends' ++ [s.1, s.2], _, ?_, sh4, ?_, rfl, ?_, ?_, ?_, ?_, ?_, ?_, ?_, ?_, ?_, ?_, hq3, ?_, ?_, ?_, rfl⟩
        · simp! only [fMethS, in2, sk_put, hdg, e5, e6]
        · intro y hy hk
          rw [List.map_append] at hk
          rcases List.mem_append.mp hk with z | z
          · exact hnot y (List.mem_cons_of_mem _ hy) z
          · exact nd1 (by have h' : y = x := List.mem_singleton.mp z; rw [← h']; exact hy)
        · omega
        · rw [of4 _ (by omega) (by omega) (by omega), at3 _ (by omega), hd2]
          unfold encS
          rw [List.map_append, List.map_append]
          rfl
        · rw [of4 _ (by omega) (by omega) (by omega), hM3, List.getElem?_set_self (by omega)]
        · rw [of4 _ (by omega) (by omega) (by omega), at3 _ (fun z => hpe z.symm), he2']
        · exact ⟨by
            rw [List.map_append]
            exact List.nodup_append.mpr ⟨wf.nd, by simp, fun y hy z hz h => by
              cases List.mem_singleton.mp hz
              exact hnx (by have h' : y = x := h; rw [← h']; exact hy)⟩, Fine.snoc wf.fine hs hw, fun q hq => by
            rcases List.mem_append.mp hq with z | z
            · exact wf.nm q z
            · cases List.mem_singleton.mp z; exact hx1, by rw [List.length_append]; show kv.length + 1 ≤ 60; omega⟩
        · intro y hy
          rw [List.map_append] at hy
          rcases List.mem_append.mp hy with z | z
          · exact hkx y z
          · have h' : y = x := List.mem_singleton.mp z
            rw [h']; exact hin x List.mem_cons_self
        · have := fr4.1; omega
        · intro j hj h1 h2
          rw [of4 _ (by omega) (by omega) (by omega), at3 _ h1, at2 _ (by omega), at1 _ h1 h2, hfr j hj h1 h2]
        · simp [hbs]
        · rw [List.length_append]; show kv.length + 1 + _ ≤ _; omega
        · rw [List.length_append]; show ends'.length + 2 + _ ≤ _; omega
        · omega
        · omega
        · omega
      · refine sh0.of ?_ ?_ ?_ ?_ <;> rw [List.getElem?_set_ne (by omega)]
      · rw [List.getElem?_set_ne (by omega)]; exact hd0
      · exact List.getElem?_set_self (by omega)
      · rw [List.getElem?_set_ne hpe]; exact he0
      · rw [List.length_set]; omega
      · intro j hj h1 h2
        rw [List.getElem?_set_ne (fun z => h1 z.symm)]; exact fr0 j hj
      · rintro o ⟨δ, m', rfl, _, _, kv, a, bb, c, bs, as, pu', ends', z, _, sh, ha, rfl, hd, hpp, hee, wf, hkx, hlen, hfr, _, hkl, hel, hpok, had, _, _, rfl⟩
        exact ⟨_, _, rfl, kv, a, _, c, bs, as, pu', ends', z, sh, ha, had, hd, hpp, hee, wf, hkx, by omega, hfr, by simpa using hkl, by simpa using hel, by simpa using hpok, rfl⟩
    · rintro δ m' ⟨kv, a, bb, c, bs, as, pu', ends', z, sh, ha, had, hd, hpp, hee, wf, hkx, hlen, hfr, hkl, hel, hpok, rfl⟩
      refine ws_last (o := .rt (.tup [.cell m.length, .cell (m.length + 4)]) m') ?_ ?_
      · simp! only []
      · simp_arith only [endA_rt]
        exact ⟨pu', ends', _, _, kv, rfl, ⟨⟨a, bb, c, sh.sk, ha, had⟩, hd, wf, hlen, hfr, Nat.le_refl _, by omega⟩, hpp, hee, hel, hkx, hkl, hpok⟩
  obtain ⟨r, m', e1, pu', ends', k, dd, kv, rfl, h⟩ := wp_get key
  exact ⟨m', pu', ends', k, dd, kv, e1, h⟩
noncomputable def e_law_holds_3 : MS :=
  (sRet (eOp pGt (eCB pLen (aCons (dat (fLock (eVar 0) (fLc (wKeys (eVar 0)) (mName 2) (tst (eChain pLe pLt (eOp pIxT (eOp pDGet (eVar 0) (eVar 2)) (eC (.int 0))) (eVar 1) (eOp pIxT (eOp pDGet (eVar 0) (eVar 2)) (eC (.int 1))))) (eVar 2) [2]))) aNil)) (eC (.int 0))))
noncomputable def f_law_holds_3 : FnS := fnOf 2 3 e_law_holds_3
/-- whether a dict's span holds a place -/
def HB (kv : Kv) (x : Int) : Bool := kv.any fun p => holdB p.2.1 x
theorem law_holds_3_eq {m : Store} {d : Nat} {kv : Kv} {x : Int} (h : m[d]? = some (.dK (encS kv))) (hl : kv.length < 64) (nd : (kv.map (·.1)).Nodup) : f_law_holds_3 [.cell d, .int x] m = ret (.pl (.bl (HB kv x))) m := by
  have ld : d < m.length := (List.getElem?_eq_some_iff.mp h).1
  have hr : cellR (m.set d (.fz (encS kv))) (.cell d) = some (d, encS kv) := cellR_fz (List.getElem?_set_self ld)
  have lc : lcM (mName 2) (tst (eChain pLe pLt (eOp pIxT (eOp pDGet (eVar 0) (eVar 2)) (eC (.int 0))) (eVar 1) (eOp pIxT (eOp pDGet (eVar 0) (eVar 2)) (eC (.int 1))))) (eVar 2) (Wk.mk ((encS kv).map fun p => keyOf p.1) []).chk [some (.cell d), some (.int x), none] ((encS kv).map fun p => keyOf p.1) (m.set d (.fz (encS kv))) = ret (((kv.map (·.1)).filter fun y => holdB (spanV kv y) x).map D.str) (m.set d (.fz (encS kv))) := by
    rw [encS_keys]
    refine lcM_pure chk_nil D.str (fun y => holdB (spanV kv y) x) D.str (kv.map (·.1)) ?_
    intro y hy
    exact ⟨[some (.cell d), some (.int x), some (.str y)], rfl, by
      simp! only [dgetX hr hy, eS, holdB], fun _ => by simp! only []⟩
  have fl := fLockLc (e := eVar 0) (g := mName 2) (vs := [2]) (δ := [some (.cell d), some (.int x), none]) (fun _ => rfl) h (by rw [encS_len]; omega) lc
  have key : decide (0 < ((((kv.map (·.1)).filter fun y => holdB (spanV kv y) x).length : Nat) : Int)) = HB kv x := by
    unfold HB
    cases hb : kv.any fun p => holdB p.2.1 x with
    | true =>
      obtain ⟨p, hp, hx⟩ := List.any_eq_true.mp hb
      have : p.1 ∈ (kv.map (·.1)).filter fun y => holdB (spanV kv y) x := List.mem_filter.mpr ⟨List.mem_map.mpr ⟨p, hp, rfl⟩, by
        unfold spanV
        rw [look_mem nd (e := p.2) hp]
        exact hx⟩
      have := List.length_pos_of_mem this
      exact decide_eq_true (by omega)
    | false =>
      have : (kv.map (·.1)).filter (fun y => holdB (spanV kv y) x) = [] := List.filter_eq_nil_iff.mpr fun y hy hx => by
        obtain ⟨e, he⟩ := look_some hy
        unfold spanV at hx
        rw [he] at hx
        have := List.any_eq_false.mp hb _ (look_in he)
        exact this hx
      rw [this]; rfl
  unfold f_law_holds_3 e_law_holds_3
  simp! only [fl, List.length_map, key]
noncomputable def e_poured : MS :=
  (sSeq (sSet 1 (cel (fLst aNil)))
    (sSeq (sFor (wList (dat (fCB pSortP (aCons (eVar 0) aNil)))) (mTup (msCons (mName 2) (msCons (mName 3) msNil)))
    (sIf (mAnd (tst (eOp pNeD (eVar 1) (dat (fLst aNil)))) (tst (eOp pLe (eVar 2) (eOp pIxT (eOp pIxL (eVar 1) (eUn pNeg (eC (.int 1)))) (eC (.int 1)))))) (sSetI (eTup (aCons (eOp pIxT (eOp pIxL (eVar 1) (eUn pNeg (eC (.int 1)))) (eC (.int 0))) (aCons (eCB pMax2 (aCons (eVar 3) (aCons (eOp pIxT (eOp pIxL (eVar 1) (eUn pNeg (eC (.int 1)))) (eC (.int 1))) aNil))) aNil))) (eVar 1) (eUn pNeg (eC (.int 1)))) (sExpr (eBM pAppend (eVar 1) (aCons (eTup (aCons (eVar 2) (aCons (eVar 3) aNil))) aNil)))))
    (sRet (eVar 1))))
noncomputable def f_poured : FnS := fnOf 1 4 e_poured
theorem pstep_len (c : List Sp2) (s : Sp2) : (pstep c s).length ≤ c.length + 1 := by
  unfold pstep
  split
  · split
    · simp
    · simp
  · simp
theorem pour_len {l c : List Sp2} : (l.foldl pstep c).length ≤ c.length + l.length := by
  induction l generalizing c with
  | nil => simp
  | cons s l ih =>
    have h1 := ih (c := pstep c s)
    have h2 := pstep_len c s
    simp only [List.foldl_cons, List.length_cons]
    omega
theorem poured_eq {m : Store} {d : D} {ss : List Sp2} (h : Rd m d (ss.map eS)) (hl : ss.length ≤ 5000) : f_poured [d] m = ret (.own ((pour ss).map eS)) m := by
  apply eq_of_wp
  unfold f_poured e_poured
  refine wp_fnI rfl ?_
  have h2 := h.app (l := [.lst []])
  simp_arith only [pSortP, h2.q, toPairs_map, srcOf]
  have hk : ∀ xs : List D, (m ++ [Cell.lst xs])[m.length]? = some (.lst xs) := fun xs => app_get
  refine ws_mono (forT (en := eS) (fun l δ m' => ∃ c, m' = m ++ [Cell.lst (c.map eS)] ∧ c.length + l.length ≤ 5000 ∧ l.foldl pstep c = pour ss ∧ ∃ z1 z2, δ = [some d, some (.cell m.length), z1, z2]) (fun _ _ _ _ => chk_nil) ?_ ⟨[], rfl, by rw [(psort_perm ss).length_eq]; simpa using hl, rfl, _, _, rfl⟩) ?_
  · rintro x l δ m' ⟨c, rfl, hc, hf, z1, z2, rfl⟩
    have hc' : c.length + (l.length + 1) ≤ 5000 := by simpa using hc
    refine ⟨_, rfl, ?_⟩
    have fin : ∀ (c' : List Sp2) (ds : List D), pstep c x = c' → ds = c'.map eS → ∃ c, m ++ [Cell.lst ds] = m ++ [Cell.lst (c.map eS)] ∧ c.length + l.length ≤ 5000 ∧ l.foldl pstep c = pour ss ∧ ∃ z1 z2, [some d, some (D.cell m.length), some (.int x.1), some (.int x.2)] = [some d, some (.cell m.length), z1, z2] := by
      rintro c' ds rfl rfl
      have := pstep_len c x
      exact ⟨_, rfl, by omega, hf, _, _, rfl⟩
    rcases List.eq_nil_or_concat c with rfl | ⟨c', t, rfl⟩
    · simp_arith only [pNeD_nil (vw_cell (hk _)) sh_nil, List.isEmpty_nil, isLst_cell (hk _), cellL_cell (hk _)]
      exact fin [x] _ rfl rfl
    · rw [List.concat_eq_append] at *
      have he : ((c' ++ [t]).map eS).isEmpty = false := by simp
      have hlen : (c' ++ [t]).length = c'.length + 1 := by simp
      rw [hlen] at hc'
      have e : pstep (c' ++ [t]) x = if x.1 ≤ t.2 then c' ++ [(t.1, max x.2 t.2)] else c' ++ [t] ++ [x] := by
        unfold pstep
        rw [List.getLast?_append, List.dropLast_concat]; rfl
      by_cases hx : x.1 ≤ t.2
      · simp_arith only [pNeD_nil (vw_cell (hk _)) sh_spans, he, rdQ_cell (hk _), map_last, eS, decide_eq_true hx, cellL_cell (hk _), List.length_map, hlen, ixN_last]
        refine fin (c' ++ [(t.1, max x.2 t.2)]) _ (by rw [e, if_pos hx]) ?_
        rw [List.map_append, List.map_append, show c'.length = (c'.map eS).length by simp]
        exact set_lastL
      · have hlt : (c' ++ [t]).length < 100000 := by omega
        simp_arith only [pNeD_nil (vw_cell (hk _)) sh_spans, he, rdQ_cell (hk _), map_last, eS, decide_eq_false hx, isLst_cell (hk _), cellL_cell (hk _), List.length_map, hlt]
        refine fin (c' ++ [t] ++ [x]) _ (by rw [e, if_neg hx]) ?_
        rw [List.map_append (l₂ := [x])]; rfl
  · rintro o ⟨δ, m', rfl, c, rfl, _, hf, z1, z2, rfl⟩
    simp_arith only []
    rw [show c = pour ss from hf, fin_own0 (unds_eS _ _)]
    exact ⟨rfl, rfl⟩
theorem pour_length (ss : List Sp2) : (pour ss).length ≤ ss.length := by
  have := pour_len (l := psort ss) (c := [])
  rw [(psort_perm ss).length_eq] at this
  simpa [pour] using this
/-! ### between neighbouring ends -/
def pcs (sel : Int → Bool) (es : List Int) : List Sp2 := ((List.range (es.length - 1)).filter fun i => sel (es.getD i 0)).map fun i => (es.getD i 0, es.getD (i + 1) 0)
theorem lt_getD {es : List Int} (h : es.Pairwise (· < ·)) {i j : Nat} (hij : i < j) (hj : j < es.length) : es.getD i 0 < es.getD j 0 := by
  rw [List.getD_eq_getElem?_getD, List.getD_eq_getElem?_getD, List.getElem?_eq_getElem hj, List.getElem?_eq_getElem (by omega : i < es.length)]
  exact (List.pairwise_iff_getElem.mp h) i j (by omega) hj hij
theorem mem_getD {es : List Int} {x : Int} (h : x ∈ es) : ∃ i, i < es.length ∧ es.getD i 0 = x := by
  obtain ⟨i, hi, e⟩ := List.getElem_of_mem h
  exact ⟨i, hi, by rw [List.getD_eq_getElem?_getD, List.getElem?_eq_getElem hi]; exact e⟩
theorem getD_mem {es : List Int} {i : Nat} (h : i < es.length) : es.getD i 0 ∈ es := by
  rw [List.getD_eq_getElem?_getD, List.getElem?_eq_getElem h]
  exact List.getElem_mem _
/-- no end between -/
theorem no_between {es : List Int} (h : es.Pairwise (· < ·)) {i : Nat} (hi : i + 1 < es.length) {y : Int} (hy : y ∈ es) : y ≤ es.getD i 0 ∨ es.getD (i + 1) 0 ≤ y := by
  obtain ⟨j, hj, rfl⟩ := mem_getD hy
  rcases Nat.lt_or_ge i j with z | z
  · rcases Nat.lt_or_ge (i + 1) j with w | w
    · have := lt_getD h w hj; exact .inr (by omega)
    · have : j = i + 1 := by omega
      subst this; exact .inr (Int.le_refl _)
  · rcases Nat.lt_or_ge j i with w | w
    · have := lt_getD h w (by omega); exact .inl (by omega)
    · have : j = i := by omega
      subst this; exact .inl (Int.le_refl _)
theorem locate {es : List Int} (h : es.Pairwise (· < ·)) {lo hi x : Int} (h1 : lo ∈ es) (h2 : hi ∈ es) (hl : lo ≤ x) (hh : x < hi) : ∃ i, i + 1 < es.length ∧ es.getD i 0 ≤ x ∧ x < es.getD (i + 1) 0 := by
  obtain ⟨a, ha, rfl⟩ := mem_getD h1
  obtain ⟨b, hb, rfl⟩ := mem_getD h2
  have hab : a < b := by
    rcases Nat.lt_or_ge a b with z | z
    · exact z
    · rcases Nat.lt_or_ge b a with w | w
      · have := lt_getD h w ha; omega
      · have : a = b := by omega
        subst this; omega
  have key : ∀ n, ∀ a, b - a = n → a < b → es.getD a 0 ≤ x → ∃ i, i + 1 < es.length ∧ es.getD i 0 ≤ x ∧ x < es.getD (i + 1) 0 := by
    intro n
    induction n with
    | zero => intro a e z; omega
    | succ n ih =>
      intro a e z w
      rcases Int.lt_or_le x (es.getD (a + 1) 0) with q | q
      · exact ⟨a, by omega, w, q⟩
      · rcases Nat.lt_or_ge (a + 1) b with r | r
        · exact ih (a + 1) (by omega) r q
        · have : a + 1 = b := by omega
          rw [this] at q; omega
  exact key _ a rfl hab hl
/-- a list whose ends are all there holds or not all along -/
theorem held_const {es : List Int} (h : es.Pairwise (· < ·)) {c : List Sp2} (hc : ∀ s ∈ c, s.1 ∈ es ∧ s.2 ∈ es) {i : Nat} (hi : i + 1 < es.length) {x : Int} (h1 : es.getD i 0 ≤ x) (h2 : x < es.getD (i + 1) 0) : Held c x ↔ Held c (es.getD i 0) := by
  constructor
  · rintro ⟨s, hs, a, b⟩
    refine ⟨s, hs, ?_, by omega⟩
    rcases no_between h hi (hc s hs).1 with z | z
    · exact z
    · omega
  · rintro ⟨s, hs, a, b⟩
    refine ⟨s, hs, by omega, ?_⟩
    rcases no_between h hi (hc s hs).2 with z | z
    · omega
    · omega
theorem pcs_ok {es : List Int} (h : es.Pairwise (· < ·)) {sel : Int → Bool} {P : Int → Prop} (hs : ∀ e ∈ es, sel e = true ↔ P e) (hc : ∀ (i : Nat) x, i + 1 < es.length → es.getD i 0 ≤ x → x < es.getD (i + 1) 0 → (P x ↔ P (es.getD i 0)))
    (hl : ∀ x, P x → ∃ i, i + 1 < es.length ∧ es.getD i 0 ≤ x ∧ x < es.getD (i + 1) 0) : (∀ s ∈ pcs sel es, s.1 < s.2 ∧ s.1 ∈ es ∧ s.2 ∈ es) ∧ ∀ x, Held (pcs sel es) x ↔ P x := by
  have mem : ∀ {s : Sp2}, s ∈ pcs sel es ↔ ∃ i, i + 1 < es.length ∧ sel (es.getD i 0) = true ∧ s = (es.getD i 0, es.getD (i + 1) 0) := by
    intro s
    unfold pcs
    rw [List.mem_map]
    constructor
    · rintro ⟨i, hi, rfl⟩
      obtain ⟨h1, h2⟩ := List.mem_filter.mp hi
      have := List.mem_range.mp h1
      exact ⟨i, by omega, h2, rfl⟩
    · rintro ⟨i, h1, h2, rfl⟩
      exact ⟨i, List.mem_filter.mpr ⟨List.mem_range.mpr (by omega), h2⟩, rfl⟩
  constructor
  · intro s hs'
    obtain ⟨i, h1, _, rfl⟩ := mem.mp hs'
    exact ⟨lt_getD h (by omega) h1, getD_mem (by omega), getD_mem h1⟩
  · intro x
    constructor
    · rintro ⟨s, hs', hx⟩
      obtain ⟨i, h1, h2, rfl⟩ := mem.mp hs'
      exact (hc i x h1 hx.1 hx.2).mpr ((hs _ (getD_mem (by omega))).mp h2)
    · intro hx
      obtain ⟨i, h1, h2, h3⟩ := hl x hx
      exact ⟨_, mem.mpr ⟨i, h1, (hs _ (getD_mem (by omega))).mpr ((hc i x h1 h2 h3).mp hx), rfl⟩, h2, h3⟩
/-! ### what two covers share -/
def clip (s t : Sp2) : Sp2 := (max s.1 t.1, min s.2 t.2)
def meets (s : Sp2) (b : List Sp2) : List Sp2 := (b.filter (touches s)).map (clip s)
def shared (a b : List Sp2) : List Sp2 := a.flatMap fun s => meets s b
theorem touches_iff {s t : Sp2} : touches s t = true ↔ s.1 < t.2 ∧ t.1 < s.2 := by simp [touches]
theorem hold_clip {s t : Sp2} {x : Int} : hold (clip s t) x ↔ hold s x ∧ hold t x := by unfold hold clip; dsimp only; omega
theorem held_meets {s : Sp2} {b : List Sp2} {x : Int} : Held (meets s b) x ↔ hold s x ∧ Held b x := by
  constructor
  · rintro ⟨u, hu, hx⟩
    obtain ⟨t, ht, rfl⟩ := List.mem_map.mp hu
    obtain ⟨h1, h2⟩ := hold_clip.mp hx
    exact ⟨h1, t, (List.mem_filter.mp ht).1, h2⟩
  · rintro ⟨h1, t, ht, h2⟩
    refine ⟨clip s t, List.mem_map.mpr ⟨t, List.mem_filter.mpr ⟨ht, touches_iff.mpr ?_⟩, rfl⟩, hold_clip.mpr ⟨h1, h2⟩⟩
    unfold hold at h1 h2
    omega
theorem held_shared {a b : List Sp2} {x : Int} : Held (shared a b) x ↔ Held a x ∧ Held b x := by
  constructor
  · rintro ⟨u, hu, hx⟩
    obtain ⟨s, hs, hu⟩ := List.mem_flatMap.mp hu
    obtain ⟨h1, h2⟩ := held_meets.mp ⟨u, hu, hx⟩
    exact ⟨⟨s, hs, h1⟩, h2⟩
  · rintro ⟨⟨s, hs, h1⟩, h2⟩
    obtain ⟨u, hu, hx⟩ := held_meets.mpr ⟨h1, h2⟩
    exact ⟨u, List.mem_flatMap.mpr ⟨s, hs, hu⟩, hx⟩
theorem sep_meets {s : Sp2} {b : List Sp2} (hb : Sep b) (hs : s.1 < s.2) : Sep (meets s b) := by
  refine ⟨?_, fun u hu => ?_⟩
  · unfold meets
    rw [List.pairwise_map]
    refine (hb.apart.filter _).imp fun {x y} h => ?_
    unfold clip; dsimp only; omega
  · obtain ⟨t, ht, rfl⟩ := List.mem_map.mp hu
    obtain ⟨h1, h2⟩ := List.mem_filter.mp ht
    have := touches_iff.mp h2
    have := hb.pos t h1
    unfold clip; dsimp only; omega
theorem meets_in {s u : Sp2} {b : List Sp2} (hu : u ∈ meets s b) : s.1 ≤ u.1 ∧ u.2 ≤ s.2 := by
  obtain ⟨t, _, rfl⟩ := List.mem_map.mp hu
  unfold clip; dsimp only; omega
theorem sep_app {a b : List Sp2} : Sep (a ++ b) ↔ Sep a ∧ Sep b ∧ ∀ x ∈ a, ∀ y ∈ b, x.2 < y.1 := by
  constructor
  · intro h
    obtain ⟨h1, h2, h3⟩ := List.pairwise_append.mp h.apart
    exact ⟨⟨h1, fun s hs => h.pos s (List.mem_append_left _ hs)⟩, ⟨h2, fun s hs => h.pos s (List.mem_append_right _ hs)⟩, h3⟩
  · rintro ⟨h1, h2, h3⟩
    refine ⟨List.pairwise_append.mpr ⟨h1.apart, h2.apart, h3⟩, fun s hs => ?_⟩
    rcases List.mem_append.mp hs with hs | hs
    · exact h1.pos s hs
    · exact h2.pos s hs
theorem sep_shared : ∀ {a b : List Sp2}, Sep a → Sep b → Sep (shared a b)
  | [], b, _, _ => Sep.nil
  | s :: a, b, ha, hb => by
    show Sep (meets s b ++ shared a b)
    refine sep_app.mpr ⟨sep_meets hb (ha.pos s List.mem_cons_self), sep_shared ha.tail hb, fun x hx y hy => ?_⟩
    obtain ⟨t, ht, hy⟩ := List.mem_flatMap.mp hy
    have h1 := (meets_in hx).2
    have h2 := (meets_in hy).1
    have := (List.pairwise_cons.mp ha.apart).1 t ht
    omega
/-- by places -/
theorem sep_lt {b : List Sp2} (hb : Sep b) {i j : Nat} (hij : i < j) (hj : j < b.length) : (b[i]'(by omega)).2 < (b[j]).1 := (List.pairwise_iff_getElem.mp hb.apart) i j (by omega) hj hij
theorem filter_take_none {b : List Sp2} {p : Sp2 → Bool} {n : Nat} (h : ∀ i (hi : i < b.length), i < n → p b[i] = false) : (b.take n).filter p = [] := by
  rw [List.filter_eq_nil_iff]
  intro x hx
  obtain ⟨i, hi, rfl⟩ := List.getElem_of_mem hx
  rw [List.length_take] at hi
  rw [List.getElem_take, h i (by omega) (by omega)]
  exact Bool.false_ne_true
theorem filter_take_all {b : List Sp2} {p : Sp2 → Bool} {n : Nat} (h : ∀ i (hi : i < b.length), n ≤ i → p b[i] = false) : (b.take n).filter p = b.filter p := by
  conv => rhs; rw [← List.take_append_drop n b]
  rw [List.filter_append]
  have : (b.drop n).filter p = [] := by
    rw [List.filter_eq_nil_iff]
    intro x hx
    obtain ⟨i, hi, rfl⟩ := List.getElem_of_mem hx
    rw [List.length_drop] at hi
    rw [List.getElem_drop, h (n + i) (by omega) (by omega)]
    exact Bool.false_ne_true
  rw [this, List.append_nil]
theorem meets_len (s : Sp2) (b : List Sp2) : (meets s b).length ≤ b.length := by
  unfold meets
  rw [List.length_map]
  exact List.length_filter_le _ _
/-! ### what the first holds and the second does not -/
def gaps (hi : Int) : Int → List Sp2 → List Sp2
  | lo, [] => if lo < hi then [(lo, hi)] else []
  | lo, t :: ts => (if lo < t.1 then [(lo, t.1)] else []) ++ gaps hi t.2 ts
theorem gaps_ok {hi : Int} : ∀ {ts : List Sp2} {lo : Int}, lo ≤ hi → Sep ts → (∀ t ∈ ts, lo ≤ t.1 ∧ t.2 ≤ hi) → Sep (gaps hi lo ts) ∧ (∀ g ∈ gaps hi lo ts, lo ≤ g.1 ∧ g.2 ≤ hi) ∧ ∀ x, Held (gaps hi lo ts) x ↔ (lo ≤ x ∧ x < hi) ∧ ¬ Held ts x
  | [], lo, hlo, _, _ => by
    unfold gaps
    split
    · rename_i h
      refine ⟨⟨List.pairwise_singleton _ _, fun s hs => by cases List.mem_singleton.mp hs; exact h⟩, fun g hg => by cases List.mem_singleton.mp hg; exact ⟨Int.le_refl _, Int.le_refl _⟩, fun x => ?_⟩
      rw [held_one]
      exact ⟨fun q => ⟨q, held_nil⟩, fun q => q.1⟩
    · rename_i h
      refine ⟨Sep.nil, fun g hg => (nomatch hg), fun x => ⟨fun q => absurd q held_nil, fun q => ?_⟩⟩
      omega
  | t :: ts, lo, hlo, hs, ht => by
    obtain ⟨t1, t2⟩ := ht t List.mem_cons_self
    have tp := hs.pos t List.mem_cons_self
    obtain ⟨h1, h2, h3⟩ := gaps_ok (ts := ts) (lo := t.2) t2 hs.tail fun u hu => ⟨by have := (List.pairwise_cons.mp hs.apart).1 u hu; omega, (ht u (List.mem_cons_of_mem _ hu)).2⟩
    have beh : ∀ x, Held ts x → t.2 < x := fun x hx => hs.behind hx
    unfold gaps
    split
    · rename_i h
      refine ⟨sep_app.mpr ⟨⟨List.pairwise_singleton _ _, fun s hs => by cases List.mem_singleton.mp hs; exact h⟩, h1, fun x hx y hy => ?_⟩, fun g hg => ?_, fun x => ?_⟩
      · cases List.mem_singleton.mp hx
        have := (h2 y hy).1
        show t.1 < y.1
        omega
      · rcases List.mem_append.mp hg with hg | hg
        · cases List.mem_singleton.mp hg
          exact ⟨Int.le_refl _, by show t.1 ≤ hi; omega⟩
        · have := h2 g hg; omega
      · rw [held_append, held_one, h3, held_cons]
        unfold hold
        dsimp only
        constructor
        · rintro (q | ⟨q1, q2⟩)
          · exact ⟨by omega, fun z => z.elim (fun w => by omega) fun w => by have := beh x w; omega⟩
          · exact ⟨by omega, fun z => z.elim (fun w => by omega) q2⟩
        · rintro ⟨q1, q2⟩
          rcases Int.lt_or_le x t.1 with z | z
          · exact .inl ⟨by omega, z⟩
          · refine .inr ⟨⟨?_, q1.2⟩, fun w => q2 (.inr w)⟩
            rcases Int.lt_or_le x t.2 with w | w
            · exact absurd (.inl ⟨z, w⟩) q2
            · exact w
    · rename_i h
      rw [List.nil_append]
      refine ⟨h1, fun g hg => by have := h2 g hg; omega, fun x => ?_⟩
      rw [h3, held_cons]
      unfold hold
      constructor
      · rintro ⟨q1, q2⟩
        exact ⟨by omega, fun z => z.elim (fun w => by omega) q2⟩
      · rintro ⟨q1, q2⟩
        refine ⟨⟨?_, q1.2⟩, fun w => q2 (.inr w)⟩
        rcases Int.lt_or_le x t.2 with w | w
        · exact absurd (.inl ⟨by omega, w⟩) q2
        · exact w
def leftOf (a b : List Sp2) : List Sp2 := a.flatMap fun s => gaps s.2 s.1 (meets s b)
theorem gaps_meets {s : Sp2} {b : List Sp2} (hs : s.1 < s.2) (hb : Sep b) : Sep (gaps s.2 s.1 (meets s b)) ∧ (∀ g ∈ gaps s.2 s.1 (meets s b), s.1 ≤ g.1 ∧ g.2 ≤ s.2) ∧ ∀ x, Held (gaps s.2 s.1 (meets s b)) x ↔ hold s x ∧ ¬ Held b x := by
  obtain ⟨h1, h2, h3⟩ := gaps_ok (hi := s.2) (lo := s.1) (by omega) (sep_meets hb hs) fun t ht => meets_in ht
  refine ⟨h1, h2, fun x => ?_⟩
  rw [h3, held_meets]
  unfold hold
  exact ⟨fun ⟨q1, q2⟩ => ⟨q1, fun z => q2 ⟨q1, z⟩⟩, fun ⟨q1, q2⟩ => ⟨q1, fun z => q2 z.2⟩⟩
theorem held_left {a b : List Sp2} (ha : Sep a) (hb : Sep b) {x : Int} : Held (leftOf a b) x ↔ Held a x ∧ ¬ Held b x := by
  constructor
  · rintro ⟨u, hu, hx⟩
    obtain ⟨s, hs, hu⟩ := List.mem_flatMap.mp hu
    obtain ⟨h1, h2⟩ := ((gaps_meets (ha.pos s hs) hb).2.2 x).mp ⟨u, hu, hx⟩
    exact ⟨⟨s, hs, h1⟩, h2⟩
  · rintro ⟨⟨s, hs, h1⟩, h2⟩
    obtain ⟨u, hu, hx⟩ := ((gaps_meets (ha.pos s hs) hb).2.2 x).mpr ⟨h1, h2⟩
    exact ⟨u, List.mem_flatMap.mpr ⟨s, hs, hu⟩, hx⟩
theorem sep_left : ∀ {a b : List Sp2}, Sep a → Sep b → Sep (leftOf a b)
  | [], b, _, _ => Sep.nil
  | s :: a, b, ha, hb => by
    show Sep (gaps s.2 s.1 (meets s b) ++ leftOf a b)
    obtain ⟨h1, h2, _⟩ := gaps_meets (ha.pos s List.mem_cons_self) hb
    refine sep_app.mpr ⟨h1, sep_left ha.tail hb, fun x hx y hy => ?_⟩
    obtain ⟨t, ht, hy⟩ := List.mem_flatMap.mp hy
    have q1 := (h2 x hx).2
    have q2 := ((gaps_meets (ha.pos t (List.mem_cons_of_mem _ ht)) hb).2.1 y hy).1
    have := (List.pairwise_cons.mp ha.apart).1 t ht
    omega
theorem gaps_len {hi : Int} : ∀ (ts : List Sp2) (lo : Int), (gaps hi lo ts).length ≤ ts.length + 1
  | [], lo => by unfold gaps; split <;> simp
  | t :: ts, lo => by
    have := gaps_len (hi := hi) ts t.2
    unfold gaps
    split <;> simp <;> omega
/-! ### the law's own pieces -/
def pairAt (es : List Int) (i : Nat) : Sp2 := (es.getD i 0, es.getD (i + 1) 0)
theorem zip_range (es : List Int) : es.zip (es.drop 1) = (List.range (es.length - 1)).map (pairAt es) := by
  apply List.ext_getElem
  · simp
  · intro i h1 h2
    have hi : i + 1 < es.length := by simp at h2; omega
    simp only [List.getElem_zip, List.getElem_map, List.getElem_range, List.getElem_drop, pairAt]
    rw [List.getD_eq_getElem?_getD, List.getD_eq_getElem?_getD, List.getElem?_eq_getElem hi, List.getElem?_eq_getElem (by omega : i < es.length)]
    simp [Nat.add_comm]
/-! pieces between the ends of two dicts' spans, put together -/
def ptsV (kv : Kv) : List Int := kv.flatMap fun p => [p.2.1.1, p.2.1.2]
def selW (kv kv2 : Kv) (w : Bool) (x : Int) : Bool := HB kv x && decide (HB kv2 x = w)
def esW (kv kv2 : Kv) : List Int := usort (ptsV kv ++ ptsV kv2)
def piecesW (kv kv2 : Kv) (w : Bool) : List Sp2 := (((esW kv kv2).zip ((esW kv kv2).drop 1)).filter fun s => selW kv kv2 w s.1).foldl pstep []
theorem pts_len (kv : Kv) : (ptsV kv).length = 2 * kv.length := by
  unfold ptsV
  induction kv with
  | nil => rfl
  | cons p kv ih => rw [List.flatMap_cons, List.length_append, ih]; show 2 + _ = _; rw [List.length_cons]; omega
theorem HB_held {kv : Kv} {x : Int} (nd : (kv.map (·.1)).Nodup) : HB kv x = true ↔ Held (spansV kv) x := by
  rw [held_perm (spansV_perm nd)]
  unfold HB
  rw [List.any_eq_true]
  constructor
  · rintro ⟨p, hp, h⟩
    exact ⟨p.2.1, List.mem_map.mpr ⟨p, hp, rfl⟩, holdB_iff.mp h⟩
  · rintro ⟨s, hs, h⟩
    obtain ⟨p, hp, rfl⟩ := List.mem_map.mp hs
    exact ⟨p, hp, holdB_iff.mpr h⟩
theorem pts_in {kv : Kv} (nd : (kv.map (·.1)).Nodup) {s : Sp2} (h : s ∈ spansV kv) : s.1 ∈ ptsV kv ∧ s.2 ∈ ptsV kv := by
  have := (spansV_perm nd).mem_iff.mp h
  obtain ⟨p, hp, rfl⟩ := List.mem_map.mp this
  exact ⟨List.mem_flatMap.mpr ⟨p, hp, by simp⟩, List.mem_flatMap.mpr ⟨p, hp, by simp⟩⟩
theorem pcs_zip (sel : Int → Bool) (es : List Int) : (es.zip (es.drop 1)).filter (fun s => sel s.1) = pcs sel es := by
  rw [zip_range, List.filter_map]
  rfl
theorem zip_pw {es : List Int} (h : es.Pairwise (· < ·)) : (es.zip (es.drop 1)).Pairwise (fun s t => s.2 ≤ t.1) ∧ ∀ s ∈ es.zip (es.drop 1), s.1 < s.2 := by
  rw [zip_range]
  constructor
  · rw [List.pairwise_map]
    refine List.Pairwise.imp_of_mem ?_ List.pairwise_lt_range
    intro i j hi hj hij
    have hj' := List.mem_range.mp hj
    show es.getD (i + 1) 0 ≤ es.getD j 0
    rcases Nat.lt_or_ge (i + 1) j with z | z
    · exact Int.le_of_lt (lt_getD h z (by omega))
    · rw [show i + 1 = j by omega]; exact Int.le_refl _
  · intro s hs
    obtain ⟨i, hi, rfl⟩ := List.mem_map.mp hs
    have := List.mem_range.mp hi
    exact lt_getD h (Nat.lt_succ_self i) (by omega)
theorem piecesW_ok {kv kv2 : Kv} {w : Bool} (nd : (kv.map (·.1)).Nodup) (nd2 : (kv2.map (·.1)).Nodup) (lt : ∀ s ∈ spansV kv, s.1 < s.2) : Sep (piecesW kv kv2 w) ∧ ∀ x, Held (piecesW kv kv2 w) x ↔ Held (spansV kv) x ∧ (HB kv2 x = w) := by
  have hu := usort_lt (ptsV kv ++ ptsV kv2)
  obtain ⟨z1, z2⟩ := zip_pw hu
  have ok := pcs_ok (sel := selW kv kv2 w) (P := fun x => Held (spansV kv) x ∧ (HB kv2 x = w)) hu (fun e _ => by
      unfold selW
      rw [Bool.and_eq_true, decide_eq_true_eq, HB_held nd]) (fun i x hi h1 h2 => by
      have c1 := held_const (c := spansV kv) hu (fun s hs => ⟨usort_mem.mpr (List.mem_append_left _ (pts_in nd hs).1), usort_mem.mpr (List.mem_append_left _ (pts_in nd hs).2)⟩) hi h1 h2
      have c2 := held_const (c := spansV kv2) hu (fun s hs => ⟨usort_mem.mpr (List.mem_append_right _ (pts_in nd2 hs).1), usort_mem.mpr (List.mem_append_right _ (pts_in nd2 hs).2)⟩) hi h1 h2
      have c3 : HB kv2 x = HB kv2 ((usort (ptsV kv ++ ptsV kv2)).getD i 0) := by
        rw [← HB_held nd2, ← HB_held nd2] at c2
        exact Bool.eq_iff_iff.mpr c2
      rw [c1, c3]) (fun x hx => by
      obtain ⟨s, hs, h1, h2⟩ := hx.1
      exact locate hu (usort_mem.mpr (List.mem_append_left _ (pts_in nd hs).1)) (usort_mem.mpr (List.mem_append_left _ (pts_in nd hs).2)) h1 h2)
  unfold piecesW esW
  rw [pcs_zip]
  have pf := pour_fold (c := []) (l := pcs (selW kv kv2 w) (usort (ptsV kv ++ ptsV kv2))) Sep.nil (fun s hs => (ok.1 s hs).1) (by
    rw [← pcs_zip]
    refine List.Pairwise.filter _ ?_
    refine List.Pairwise.imp_of_mem ?_ z1
    intro a b ha hb hab
    have := z2 a ha
    exact lexle_iff.mpr (by omega)) (fun a ha => nomatch ha)
  refine ⟨pf.1, fun x => ?_⟩
  rw [pf.2, ← ok.2 x]
  exact ⟨fun h => h.elim (fun z => absurd z held_nil) id, .inr⟩
theorem piecesW_shared {kv kv2 : Kv} (nd : (kv.map (·.1)).Nodup) (nd2 : (kv2.map (·.1)).Nodup) (lt : ∀ s ∈ spansV kv, s.1 < s.2) (lt2 : ∀ s ∈ spansV kv2, s.1 < s.2) : piecesW kv kv2 true = shared (pour (spansV kv)) (pour (spansV kv2)) := by
  obtain ⟨a1, a2⟩ := piecesW_ok (w := true) nd nd2 lt
  obtain ⟨b1, b2⟩ := pour_ok lt
  obtain ⟨c1, c2⟩ := pour_ok lt2
  refine Sep.uniq a1 (sep_shared b1 c1) fun x => ?_
  rw [a2, held_shared, b2, c2, HB_held nd2]
theorem piecesW_spare {kv kv2 : Kv} (nd : (kv.map (·.1)).Nodup) (nd2 : (kv2.map (·.1)).Nodup) (lt : ∀ s ∈ spansV kv, s.1 < s.2) (lt2 : ∀ s ∈ spansV kv2, s.1 < s.2) : piecesW kv kv2 false = leftOf (pour (spansV kv)) (pour (spansV kv2)) := by
  obtain ⟨a1, a2⟩ := piecesW_ok (w := false) nd nd2 lt
  obtain ⟨b1, b2⟩ := pour_ok lt
  obtain ⟨c1, c2⟩ := pour_ok lt2
  refine Sep.uniq a1 (sep_left b1 c1) fun x => ?_
  rw [a2, held_left b1 c1, b2, c2, ← HB_held nd2]
  simp
noncomputable def e_clashes : MS :=
  (sSeq (sSet 2 (cel (fLst aNil)))
    (sSeq (sFor (wList (dat (fMeth "Shelf" "names" f_Shelf_names (eVar 0) aNil))) (mName 3)
    (sFor (wList (dat (fMeth "Shelf" "names" f_Shelf_names (eVar 1) aNil))) (mName 4)
    (sIf (tst (pla (fCall0 f_touches (aCons (pla (fMethS "Shelf" "span" f_Shelf_span (eVar 0) (aCons (eVar 3) aNil))) (aCons (pla (fMethS "Shelf" "span" f_Shelf_span (eVar 1) (aCons (eVar 4) aNil))) aNil))))) (sExpr (eBM pAppend (eVar 2) (aCons (eTup (aCons (eVar 3) (aCons (eVar 4) aNil))) aNil))) sNext)))
    (sRet (eVar 2))))
noncomputable def f_clashes : FnS := fnOf 2 5 e_clashes
def clashV (a b : Kv) : List (Str × Str) := (namesV a).flatMap fun x => ((namesV b).filter fun y => touches (spanV a x) (spanV b y)).map fun y => (x, y)
def eN (p : Str × Str) : D := .tup [.str p.1, .str p.2]
theorem clashes_eq {m : Store} {k a b c k2 a2 b2 c2 : Nat} {kv kv2 : Kv} (h : SK m k a b c kv) (h2 : SK m k2 a2 b2 c2 kv2) (hl : kv.length < 64) (hl2 : kv2.length < 64) : f_clashes [.cell k, .cell k2] m = ret (.own ((clashV kv kv2).map eN)) m := by
  have hk : ∀ xs : List D, (m ++ [Cell.lst xs])[m.length]? = some (.lst xs) := fun xs => app_get
  have st1 : ∀ x y : Cell, (m ++ [x]).set m.length y = m ++ [y] := fun x y => by simp
  have h' : ∀ x : Cell, SK (m ++ [x]) k a b c kv := fun x => h.app
  have h2' : ∀ x : Cell, SK (m ++ [x]) k2 a2 b2 c2 kv2 := fun x => h2.app
  apply eq_of_wp
  unfold f_clashes e_clashes
  refine wp_fnI rfl ?_
  refine ws_step (δ' := [some (.cell k), some (.cell k2), some (.cell m.length), none, none]) (m' := m ++ [.lst []]) ?_ ?_
  · simp! only []
  refine ws_mid (I := fun δ m' => ∃ z3 z4, m' = m ++ [.lst ((clashV kv kv2).map eN)] ∧ δ = [some (.cell k), some (.cell k2), some (.cell m.length), z3, z4]) ?_ ?_
  · refine ws_forS (wk := ⟨(namesV kv).map D.str, []⟩) (m' := m ++ [.lst []]) ?_ ?_
    · simp! only [fMeth, (h' _).ins, sk_names, Shelf_names_eq (h' _) hl, srcOf_lst]
    refine ws_mono (forT (en := D.str) (I := fun l δ m' => (∀ x ∈ l, x ∈ kv.map (·.1)) ∧ ∃ (c0 : List (Str × Str)) (z3 z4 : Option D), m' = m ++ [.lst (c0.map eN)] ∧ c0.length + 64 * l.length ≤ 5000 ∧ c0 ++ (l.flatMap fun x => ((namesV kv2).filter fun y => touches (spanV kv x) (spanV kv2 y)).map fun y => (x, y)) = clashV kv kv2 ∧ δ = [some (.cell k), some (.cell k2), some (.cell m.length), z3, z4]) (fun _ _ _ _ => chk_nil) ?_ (l := namesV kv) ⟨fun x hx => namesV_mem.mp hx, [], _, _, rfl, by simp [namesV_len]; omega, rfl, rfl⟩) ?_
    · rintro x l δ m' ⟨hx, c0, z3, z4, rfl, hc, he, rfl⟩
      rw [List.length_cons] at hc
      have hx1 := hx x List.mem_cons_self
      refine ⟨[some (.cell k), some (.cell k2), some (.cell m.length), some (.str x), z4], rfl, ?_⟩
      refine ws_mono (R := Nx fun δ m' => ∃ z4, m' = m ++ [.lst ((c0 ++ ((namesV kv2).filter fun y => touches (spanV kv x) (spanV kv2 y)).map fun y => (x, y)).map eN)] ∧ δ = [some (.cell k), some (.cell k2), some (.cell m.length), some (.str x), z4]) ?_ ?_
      · refine ws_forS (wk := ⟨(namesV kv2).map D.str, []⟩) (m' := m ++ [.lst (c0.map eN)]) ?_ ?_
        · simp! only [fMeth, (h2' _).ins, sk_names, Shelf_names_eq (h2' _) hl2, srcOf_lst]
        refine ws_mono (forT (en := D.str) (I := fun L δ m' => (∀ y ∈ L, y ∈ kv2.map (·.1)) ∧ ∃ (c1 : List (Str × Str)) (z4 : Option D), m' = m ++ [.lst (c1.map eN)] ∧ c1.length + L.length ≤ 6000 ∧ c1 ++ ((L.filter fun y => touches (spanV kv x) (spanV kv2 y)).map fun y => (x, y)) = c0 ++ ((namesV kv2).filter fun y => touches (spanV kv x) (spanV kv2 y)).map (fun y => (x, y)) ∧ δ = [some (.cell k), some (.cell k2), some (.cell m.length), some (.str x), z4]) (fun _ _ _ _ => chk_nil) ?_ (l := namesV kv2) ⟨fun y hy => namesV_mem.mp hy, c0, _, rfl, by rw [namesV_len]; omega, rfl, rfl⟩) ?_
        · rintro y L δ m' ⟨hy, c1, z4, rfl, hc1, he1, rfl⟩
          rw [List.length_cons] at hc1
          have hy1 := hy y List.mem_cons_self
          have hc2 : c1.length < 100000 := by omega
          refine ⟨[some (.cell k), some (.cell k2), some (.cell m.length), some (.str x), some (.str y)], rfl, ?_⟩
          have t := touches_eq (spanV kv x) (spanV kv2 y) (m ++ [.lst (c1.map eN)])
          rw [List.filter_cons] at he1
          cases ht : touches (spanV kv x) (spanV kv2 y) with
          | true =>
            rw [ht] at t
            rw [ht, if_pos rfl] at he1
            refine ws_last (o := .nx [some (.cell k), some (.cell k2), some (.cell m.length), some (.str x), some (.str y)] (m ++ [.lst ((c1 ++ [(x, y)]).map eN)])) ?_ ⟨_, _, rfl, fun z hz => hy z (List.mem_cons_of_mem _ hz), c1 ++ [(x, y)], _, rfl, by simp; omega, by rw [← he1]; simp, rfl⟩
            simp! only [fMethS, (h' _).ins, (h2' _).ins, sk_span, Shelf_span_ok (h' _) hx1, Shelf_span_ok (h2' _) hy1, t, isLst_cell (hk _), cellL_cell (hk _), List.length_map, hc2, st1, List.map_append, eN]
          | false =>
            rw [ht] at t
            rw [ht, if_neg (by decide)] at he1
            refine ws_last (o := .nx [some (.cell k), some (.cell k2), some (.cell m.length), some (.str x), some (.str y)] (m ++ [.lst (c1.map eN)])) ?_ ⟨_, _, rfl, fun z hz => hy z (List.mem_cons_of_mem _ hz), c1, _, rfl, by omega, he1, rfl⟩
            simp! only [fMethS, (h' _).ins, (h2' _).ins, sk_span, Shelf_span_ok (h' _) hx1, Shelf_span_ok (h2' _) hy1, t]
        · rintro o ⟨δ, m', rfl, _, c1, z4, rfl, _, he1, rfl⟩
          rw [List.filter_nil, List.map_nil, List.append_nil] at he1
          exact ⟨_, _, rfl, z4, by rw [he1], rfl⟩
      · rintro o ⟨δ, m', rfl, z4, rfl, rfl⟩
        have fl := List.length_filter_le (fun y => touches (spanV kv x) (spanV kv2 y)) (namesV kv2)
        rw [namesV_len] at fl
        refine ⟨_, _, rfl, fun z hz => hx z (List.mem_cons_of_mem _ hz), _, _, _, rfl, by simp; omega, ?_, rfl⟩
        rw [← he, List.flatMap_cons, List.append_assoc]
    · rintro o ⟨δ, m', rfl, _, c0, z3, z4, rfl, _, he, rfl⟩
      rw [List.flatMap_nil, List.append_nil] at he
      exact ⟨_, _, rfl, z3, z4, by rw [he], rfl⟩
  rintro δ m' ⟨z3, z4, rfl, rfl⟩
  simp_arith only []
  rw [fin_own0 (unds_map (fun _ => rfl) _)]
  exact ⟨rfl, rfl⟩
noncomputable def e_law_meet_2 : MS :=
  (sRet (eAnd (eOp pLt (eOp pIxT (eVar 0) (eC (.int 0))) (eOp pIxT (eVar 1) (eC (.int 1)))) (eOp pLt (eOp pIxT (eVar 1) (eC (.int 0))) (eOp pIxT (eVar 0) (eC (.int 1))))))
noncomputable def f_law_meet_2 : FnS := fnOf 2 2 e_law_meet_2
theorem law_meet_2_eq (a b : Sp2) (m : Store) : f_law_meet_2 [eS a, eS b] m = ret (.pl (.bl (touches a b))) m := by
  unfold f_law_meet_2 e_law_meet_2 eS touches
  simp! only []
noncomputable def e_law_clashes : MS :=
  (sSeq (sSet 2 (cel (fLst aNil)))
    (sSeq (sFor (wList (dat (fCB pSortD (aCons (eVar 0) aNil)))) (mName 3)
    (sSet 2 (cel (fOp pCat (eVar 2) (dat (fLc (wList (dat (fCB pSortD (aCons (eVar 1) aNil)))) (mName 4) (tst (pla (fCall0 f_law_meet_2 (aCons (eOp pDGet (eVar 0) (eVar 3)) (aCons (eOp pDGet (eVar 1) (eVar 4)) aNil))))) (eTup (aCons (eVar 3) (aCons (eVar 4) aNil))) [4]))))))
    (sRet (eVar 2))))
noncomputable def f_law_clashes : FnS := fnOf 2 5 e_law_clashes
theorem law_clashes_eq {m : Store} {d d2 : Nat} {kv kv2 : Kv} (h : m[d]? = some (.dK (encS kv))) (h2 : m[d2]? = some (.dK (encS kv2))) (hl : kv.length < 64) (hl2 : kv2.length < 64) : f_law_clashes [.cell d, .cell d2] m = ret (.own ((clashV kv kv2).map eN)) m := by
  have ap : ∀ {k : Nat} {c : Cell} {l : Store}, m[k]? = some c → (m ++ l)[k]? = some c := fun {k c l} z => by rw [List.getElem?_append_left (List.getElem?_eq_some_iff.mp z).1]; exact z
  apply eq_of_wp
  unfold f_law_clashes e_law_clashes
  refine wp_fnI rfl ?_
  refine ws_step (δ' := [some (.cell d), some (.cell d2), some (.cell m.length), none, none]) (m' := m ++ [.lst []]) ?_ ?_
  · simp! only []
  refine ws_mid (I := fun δ m' => ∃ (z3 : Option D) (loc : Store) (i : Nat), m' = m ++ loc ∧ loc[i]? = some (.lst ((clashV kv kv2).map eN)) ∧ δ = [some (.cell d), some (.cell d2), some (.cell (m.length + i)), z3, none]) ?_ ?_
  · refine ws_forS (wk := ⟨(namesV kv).map D.str, []⟩) (m' := m ++ [.lst []]) ?_ ?_
    · simp! only [sortS (ap h) hl, srcOf_lst]
    refine ws_mono (forT (en := D.str) (I := fun l δ m' => (∀ x ∈ l, x ∈ kv.map (·.1)) ∧ ∃ (c0 : List (Str × Str)) (z3 : Option D) (loc : Store) (i : Nat), m' = m ++ loc ∧ loc[i]? = some (.lst (c0.map eN)) ∧ c0.length + 64 * l.length ≤ 5000 ∧ c0 ++ (l.flatMap fun x => ((namesV kv2).filter fun y => touches (spanV kv x) (spanV kv2 y)).map fun y => (x, y)) = clashV kv kv2 ∧ δ = [some (.cell d), some (.cell d2), some (.cell (m.length + i)), z3, none]) (fun _ _ _ _ => chk_nil) ?_ (l := namesV kv) ⟨fun x hx => namesV_mem.mp hx, [], _, _, 0, rfl, rfl, by simp [namesV_len]; omega, rfl, rfl⟩) ?_
    · rintro x l δ m' ⟨hx, c0, z3, loc, i, rfl, hi, hc, he, rfl⟩
      rw [List.length_cons] at hc
      have hx1 := hx x List.mem_cons_self
      have fl := List.length_filter_le (fun y => touches (spanV kv x) (spanV kv2 y)) (namesV kv2)
      rw [namesV_len] at fl
      have nl2 : (namesV kv2).length < 100000 := by rw [namesV_len]; omega
      have lc : lcM (mName 4) (tst (pla (fCall0 f_law_meet_2 (aCons (eOp pDGet (eVar 0) (eVar 3)) (aCons (eOp pDGet (eVar 1) (eVar 4)) aNil))))) (eTup (aCons (eVar 3) (aCons (eVar 4) aNil))) (Wk.mk ((namesV kv2).map D.str) []).chk [some (.cell d), some (.cell d2), some (.cell (m.length + i)), some (.str x), none] ((namesV kv2).map D.str) (m ++ loc) = ret (((namesV kv2).filter fun y => touches (spanV kv x) (spanV kv2 y)).map fun y => eN (x, y)) (m ++ loc) :=
        lcM_pure chk_nil D.str _ _ (namesV kv2) fun y hy => ⟨[some (.cell d), some (.cell d2), some (.cell (m.length + i)), some (.str x), some (.str y)], rfl, by
          simp! only [dgetX (cellR_sh (ap h)) hx1, dgetX (cellR_sh (ap h2)) (namesV_mem.mp hy), law_meet_2_eq], fun _ => by simp! only [eN]⟩
      refine ⟨[some (.cell d), some (.cell d2), some (.cell (m.length + i)), some (.str x), none], rfl, ?_⟩
      have gi : (m ++ loc)[m.length + i]? = some (.lst (c0.map eN)) := by rw [get_app]; exact hi
      refine ws_last (o := .nx [some (.cell d), some (.cell d2), some (.cell (m.length + loc.length)), some (.str x), none] (m ++ (loc ++ [.lst ((c0 ++ ((namesV kv2).filter fun y => touches (spanV kv x) (spanV kv2 y)).map fun y => (x, y)).map eN)]))) ?_ ⟨_, _, rfl, fun z hz => hx z (List.mem_cons_of_mem _ hz), c0 ++ ((namesV kv2).filter fun y => touches (spanV kv x) (spanV kv2 y)).map fun y => (x, y), _, loc ++ [.lst ((c0 ++ ((namesV kv2).filter fun y => touches (spanV kv x) (spanV kv2 y)).map fun y => (x, y)).map eN)], loc.length, rfl, by simp, by rw [List.length_append, List.length_map]; omega, by rw [← he, List.flatMap_cons, List.append_assoc], rfl⟩
      have le : c0.length + ((namesV kv2).filter fun y => touches (spanV kv x) (spanV kv2 y)).length ≤ 100000 := by omega
      simp! only [sortS (ap h2) hl2, srcOf_lst, List.length_map, nl2, wipeE, lc, rdL_cell gi, le, List.map_append, List.map_map, List.length_append, List.append_assoc]
      rfl
    · rintro o ⟨δ, m', rfl, _, c0, z3, loc, i, rfl, hi, _, he, rfl⟩
      rw [List.flatMap_nil, List.append_nil] at he
      exact ⟨_, _, rfl, z3, loc, i, rfl, by rw [← he]; exact hi, rfl⟩
  rintro δ m' ⟨z3, loc, i, rfl, hi, rfl⟩
  simp_arith only []
  rw [fin_own rfl (Tidy.refl _) hi (unds_map (fun _ => rfl) _)]
  exact ⟨rfl, rfl⟩
noncomputable def e_law_pieces_2 : MS :=
  (sSeq (sSet 3 (dat (fLst aNil)))
    (sSeq (sFor (wList (dat (fLst (aCons (eVar 0) (aCons (eVar 1) aNil))))) (mName 4)
    (sLock (eVar 4) (sFor (wKeys (eVar 4)) (mName 5)
    (sSet 3 (dat (fOp pCat (eVar 3) (dat (fLst (aCons (eOp pIxT (eOp pDGet (eVar 4) (eVar 5)) (eC (.int 0))) (aCons (eOp pIxT (eOp pDGet (eVar 4) (eVar 5)) (eC (.int 1))) aNil))))))))))
    (sSeq (sSet 3 (dat (fSortSet (eVar 3))))
    (sSeq (sSet 6 (cel (fLst aNil)))
    (sSeq (sFor (wZip (aCons (eVar 3) (aCons (dat (fSl (eVar 3) (oSome (eC (.int 1))) oNone)) aNil))) (mTup (msCons (mName 7) (msCons (mName 8) msNil)))
    (sIf (mAnd (tst (pla (fCall0 f_law_holds_3 (aCons (eVar 0) (aCons (eVar 7) aNil))))) (tst (eOp pEq (pla (fCall0 f_law_holds_3 (aCons (eVar 1) (aCons (eVar 7) aNil)))) (eVar 2)))) (sIf (mAnd (tst (eOp pNeD (eVar 6) (dat (fLst aNil)))) (tst (eOp pEq (eOp pIxT (eOp pIxL (eVar 6) (eUn pNeg (eC (.int 1)))) (eC (.int 1))) (eVar 7)))) (sSetI (eTup (aCons (eOp pIxT (eOp pIxL (eVar 6) (eUn pNeg (eC (.int 1)))) (eC (.int 0))) (aCons (eVar 8) aNil))) (eVar 6) (eUn pNeg (eC (.int 1)))) (sExpr (eBM pAppend (eVar 6) (aCons (eTup (aCons (eVar 7) (aCons (eVar 8) aNil))) aNil)))) sNext))
    (sRet (eVar 6)))))))
noncomputable def f_law_pieces_2 : FnS := fnOf 3 9 e_law_pieces_2
theorem law_pieces_2_eq {m : Store} {d d2 : Nat} {kv kv2 : Kv} {w : Bool} (h : m[d]? = some (.dK (encS kv))) (h2 : m[d2]? = some (.dK (encS kv2))) (hl : kv.length < 64) (hl2 : kv2.length < 64) (nd : (kv.map (·.1)).Nodup) (nd2 : (kv2.map (·.1)).Nodup) : f_law_pieces_2 [.cell d, .cell d2, .bl w] m = ret (.own ((piecesW kv kv2 w).map eS)) m := by
  have ap : ∀ {k : Nat} {c : Cell} {l : Store}, m[k]? = some c → (m ++ l)[k]? = some c := fun {k c l} z => by rw [List.getElem?_append_left (List.getElem?_eq_some_iff.mp z).1]; exact z
  apply eq_of_wp
  unfold f_law_pieces_2 e_law_pieces_2
  refine wp_fnI rfl ?_
  refine ws_step (δ' := [some (.cell d), some (.cell d2), some (.bl w), some (.lst (([] : List Int).map D.int)), none, none, none, none, none]) (m' := m) ?_ ?_
  · simp! only []
  refine ws_mid (I := fun δ m' => ∃ (z4 z5 : Option D), m' = m ∧ δ = [some (.cell d), some (.cell d2), some (.bl w), some (.lst ((ptsV kv ++ ptsV kv2).map D.int)), z4, z5, none, none, none]) ?_ ?_
  · refine ws_forS (wk := ⟨[(d, kv), (d2, kv2)].map fun p : Nat × Kv => D.cell p.1, []⟩) (m' := m) ?_ ?_
    · simp! only [srcOf_lst]
    refine ws_mono (forT (en := fun p : Nat × Kv => D.cell p.1) (I := fun l δ m' => (∀ p ∈ l, m[p.1]? = some (.dK (encS p.2)) ∧ p.2.length < 64 ∧ (p.2.map (·.1)).Nodup) ∧ ∃ (pts : List Int) (z4 z5 : Option D), m' = m ∧ pts.length + 130 * l.length ≤ 300 ∧ pts ++ l.flatMap (fun p => ptsV p.2) = ptsV kv ++ ptsV kv2 ∧ δ = [some (.cell d), some (.cell d2), some (.bl w), some (.lst (pts.map D.int)), z4, z5, none, none, none]) (fun _ _ _ _ => chk_nil) ?_ ⟨?_, [], _, _, rfl, by simp, by simp, rfl⟩) ?_
    · rintro ⟨d0, kv0⟩ l δ m' ⟨hp, pts, z4, z5, rfl, hlen, he, rfl⟩
      rw [List.length_cons] at hlen
      obtain ⟨h0, l0, n0⟩ := hp _ List.mem_cons_self
      dsimp only at h0 l0 n0
      have ld : d0 < m'.length := (List.getElem?_eq_some_iff.mp h0).1
      refine ⟨[some (.cell d), some (.cell d2), some (.bl w), some (.lst (pts.map D.int)), some (.cell d0), z5, none, none, none], rfl, ?_⟩
      refine ws_lock (m1 := m') (d := d0) (kvs := encS kv0) (by simp! only []) h0 ?_
      refine ws_forS (wk := ⟨kv0.map fun p : Str × Ent => D.str p.1, []⟩) (m' := m'.set d0 (.fz (encS kv0))) ?_ ?_
      · rw [wKeys_ok (m1 := m'.set d0 (.fz (encS kv0))) (d := d0) (kvs := encS kv0) (by simp! only []) (List.getElem?_set_self ld), encS_keys, List.map_map]
        rfl
      refine ws_mono (forT (en := fun p : Str × Ent => D.str p.1) (I := fun L δ m2 => (∀ p ∈ L, p ∈ kv0) ∧ ∃ (q : List Int) (z5 : Option D), m2 = m'.set d0 (.fz (encS kv0)) ∧ q.length + 2 * L.length ≤ 1000 ∧ q ++ ptsV L = pts ++ ptsV kv0 ∧ δ = [some (.cell d), some (.cell d2), some (.bl w), some (.lst (q.map D.int)), some (.cell d0), z5, none, none, none]) (fun _ _ _ _ => chk_nil) ?_ ⟨fun p hp => hp, pts, _, rfl, by omega, rfl, rfl⟩) ?_
      · rintro p L δ m2 ⟨hq, q, z5, rfl, hql, heq, rfl⟩
        rw [List.length_cons] at hql
        have hp0 := hq p List.mem_cons_self
        have dg : pDGet (.cell d0) (.str p.1) (m'.set d0 (.fz (encS kv0))) = ret (.tup [.int p.2.1.1, .int p.2.1.2]) (m'.set d0 (.fz (encS kv0))) := by
          rw [dgetX (cellR_fz (List.getElem?_set_self ld)) (List.mem_map.mpr ⟨p, hp0, rfl⟩)]
          unfold spanV
          rw [look_mem n0 (e := p.2) hp0]
          rfl
        have lq : q.length + 1 + 1 ≤ 100000 := by omega
        refine ⟨[some (.cell d), some (.cell d2), some (.bl w), some (.lst (q.map D.int)), some (.cell d0), some (.str p.1), none, none, none], rfl, ?_⟩
        refine ws_last (o := .nx [some (.cell d), some (.cell d2), some (.bl w), some (.lst ((q ++ [p.2.1.1, p.2.1.2]).map D.int)), some (.cell d0), some (.str p.1), none, none, none] (m'.set d0 (.fz (encS kv0)))) ?_ ⟨_, _, rfl, fun z hz => hq z (List.mem_cons_of_mem _ hz), q ++ [p.2.1.1, p.2.1.2], _, rfl, by rw [List.length_append]; show q.length + 2 + _ ≤ _; omega, by rw [← heq]; simp [ptsV], rfl⟩
        simp! only [dg, List.length_map, Nat.add_assoc, Nat.reduceAdd, show q.length + 2 ≤ 100000 by omega, List.map_append]
      · rintro o ⟨δ, m2, rfl, _, q, z5, rfl, _, heq, rfl⟩
        refine ⟨.nx [some (.cell d), some (.cell d2), some (.bl w), some (.lst (q.map D.int)), some (.cell d0), z5, none, none, none] m', by unfold OT.unlock; dsimp only; rw [unlock_back h0]; rfl, ?_⟩
        have hq : q = pts ++ ptsV kv0 := by simpa [ptsV] using heq
        refine ⟨_, _, rfl, fun z hz => hp z (List.mem_cons_of_mem _ hz), q, _, _, rfl, ?_, ?_, rfl⟩
        · rw [hq, List.length_append, pts_len]; omega
        · rw [hq, ← he, List.flatMap_cons, List.append_assoc]
    · intro p hp
      rcases List.mem_cons.mp hp with rfl | hp
      · exact ⟨h, hl, nd⟩
      · cases List.mem_singleton.mp hp; exact ⟨h2, hl2, nd2⟩
    · rintro o ⟨δ, m', rfl, _, pts, z4, z5, rfl, _, he, rfl⟩
      rw [List.flatMap_nil, List.append_nil] at he
      exact ⟨_, _, rfl, z4, z5, rfl, by rw [he]⟩
  rintro δ m' ⟨z4, z5, rfl, rfl⟩
  have pl : (ptsV kv ++ ptsV kv2).length ≤ 4000 := by rw [List.length_append, pts_len, pts_len]; omega
  refine ws_step (δ' := [some (.cell d), some (.cell d2), some (.bl w), some (.lst ((esW kv kv2).map D.int)), z4, z5, none, none, none]) (m' := m') ?_ ?_
  · simp! only [fSortSet, toInts_map, pl, esW]
  refine ws_step (δ' := [some (.cell d), some (.cell d2), some (.bl w), some (.lst ((esW kv kv2).map D.int)), z4, z5, some (.cell m'.length), none, none]) (m' := m' ++ [.lst (([] : List Sp2).map eS)]) ?_ ?_
  · simp! only []
  obtain ⟨z1, z2⟩ := zip_pw (usort_lt (ptsV kv ++ ptsV kv2))
  have ul : (esW kv kv2).length ≤ 1000 := by
    have : ∀ l : List Int, (undup l).length ≤ l.length := fun l => by
      induction l with
      | nil => simp [undup]
      | cons x l ih => unfold undup; split <;> simp <;> omega
    have := this (ptsV kv ++ ptsV kv2)
    unfold esW usort
    rw [(isort_perm _).length_eq]
    rw [List.length_append, pts_len, pts_len] at this
    omega
  have hk : ∀ xs : List D, (m' ++ [Cell.lst xs])[m'.length]? = some (.lst xs) := fun xs => app_get
  refine ws_mid (I := fun δ m2 => ∃ (z4 z5 z7 z8 : Option D), m2 = m' ++ [.lst ((piecesW kv kv2 w).map eS)] ∧ δ = [some (.cell d), some (.cell d2), some (.bl w), some (.lst ((esW kv kv2).map D.int)), z4, z5, some (.cell m'.length), z7, z8]) ?_ ?_
  · refine ws_forS (wk := ⟨((esW kv kv2).zip ((esW kv kv2).drop 1)).map eS, []⟩) (m' := m' ++ [.lst (([] : List Sp2).map eS)]) ?_ ?_
    · simp! only [srcOf_lst, cutD_1, ← List.map_drop, zipD_ints, List.nil_append]
    refine ws_mono (forT (en := eS) (I := fun l δ m2 => (∀ s ∈ l, s.1 < s.2) ∧ l.Pairwise (fun s t => s.2 ≤ t.1) ∧ ∃ (c : List Sp2) (z7 z8 : Option D), m2 = m' ++ [Cell.lst (c.map eS)] ∧ c.length + l.length ≤ 5000 ∧ (∀ t ∈ c, ∀ s ∈ l, t.2 ≤ s.1) ∧ (l.filter fun s => selW kv kv2 w s.1).foldl pstep c = piecesW kv kv2 w ∧ δ = [some (.cell d), some (.cell d2), some (.bl w), some (.lst ((esW kv kv2).map D.int)), z4, z5, some (.cell m'.length), z7, z8]) (fun _ _ _ _ => chk_nil) ?_ ⟨z2, z1, [], _, _, rfl, by simp; omega, (fun t ht => nomatch ht), rfl, rfl⟩) ?_
    · rintro x l δ m2 ⟨hs, hpw, c, z7, z8, rfl, hc, hct, hf, rfl⟩
      rw [List.length_cons] at hc
      obtain ⟨p1, p2⟩ := List.pairwise_cons.mp hpw
      have hx := hs x List.mem_cons_self
      have e1 := law_holds_3_eq (m := m' ++ [Cell.lst (c.map eS)]) (x := x.1) (ap h) hl nd
      have e2 := law_holds_3_eq (m := m' ++ [Cell.lst (c.map eS)]) (x := x.1) (ap h2) hl2 nd2
      have hlt : c.length < 100000 := by omega
      refine ⟨[some (.cell d), some (.cell d2), some (.bl w), some (.lst ((esW kv kv2).map D.int)), z4, z5, some (.cell m'.length), some (.int x.1), some (.int x.2)], rfl, ?_⟩
      have fin : ∀ (c' : List Sp2) (ds : List D), (if selW kv kv2 w x.1 = true then pstep c x else c) = c' → ds = c'.map eS → (∀ t ∈ c', t ∈ c ∨ t.2 = x.2) → Nx (fun δ m2 => (∀ s ∈ l, s.1 < s.2) ∧ l.Pairwise (fun s t => s.2 ≤ t.1) ∧ ∃ (c : List Sp2) (z7 z8 : Option D), m2 = m' ++ [Cell.lst (c.map eS)] ∧ c.length + l.length ≤ 5000 ∧ (∀ t ∈ c, ∀ s ∈ l, t.2 ≤ s.1) ∧ (l.filter fun s => selW kv kv2 w s.1).foldl pstep c = piecesW kv kv2 w ∧ δ = [some (.cell d), some (.cell d2), some (.bl w), some (.lst ((esW kv kv2).map D.int)), z4, z5, some (.cell m'.length), z7, z8]) (.nx [some (.cell d), some (.cell d2), some (.bl w), some (.lst ((esW kv kv2).map D.int)), z4, z5, some (.cell m'.length), some (.int x.1), some (.int x.2)] (m' ++ [Cell.lst ds])) := by
        rintro c' ds rfl rfl ht
        refine ⟨_, _, rfl, fun s hs' => hs s (List.mem_cons_of_mem _ hs'), p2, _, _, _, rfl, ?_, fun t hc' s hs' => ?_, ?_, rfl⟩
        · have := pstep_len c x
          split <;> omega
        · rcases ht t hc' with z | z
          · exact hct t z s (List.mem_cons_of_mem _ hs')
          · rw [z]; exact p1 s hs'
        · rw [← hf, List.filter_cons]
          split <;> rfl
      cases hsel : selW kv kv2 w x.1 with
      | false =>
        refine ws_last ?_ (fin c _ (by rw [hsel]; rfl) rfl fun t ht => .inl ht)
        have : (HB kv x.1 && decide (HB kv2 x.1 = w)) = false := hsel
        simp! only [e1, e2, this]
      | true =>
        have hand : (HB kv x.1 && decide (HB kv2 x.1 = w)) = true := hsel
        rcases List.eq_nil_or_concat c with rfl | ⟨c', t, rfl⟩
        · refine ws_last ?_ (fin [x] [eS x] (by rw [hsel]; rfl) rfl fun t ht => .inr (by cases List.mem_singleton.mp ht; rfl))
          simp only [List.map_nil] at e1 e2
          simp! only [e1, e2, hand, pNeD_nil (vw_cell (hk _)) sh_nil, List.isEmpty_nil, isLst_cell (hk _), cellL_cell (hk _), app_set]
          rfl
        · rw [List.concat_eq_append] at *
          have he : ((c' ++ [t]).map eS).isEmpty = false := by simp
          have hlen : (c' ++ [t]).length = c'.length + 1 := by simp
          have htx := hct t (by simp) x List.mem_cons_self
          have e : pstep (c' ++ [t]) x = if x.1 ≤ t.2 then c' ++ [(t.1, max x.2 t.2)] else c' ++ [t] ++ [x] := by
            unfold pstep
            rw [List.getLast?_append, List.dropLast_concat]; rfl
          by_cases hxt : t.2 = x.1
          · refine ws_last ?_ (fin (c' ++ [(t.1, x.2)]) ((c' ++ [(t.1, x.2)]).map eS) (by rw [hsel, if_pos rfl, e, if_pos (by omega), Int.max_eq_left (by omega)]) rfl fun u hu => ?_)
            · have set1 : ((c' ++ [t]).map eS).set c'.length (.tup [.int t.1, .int x.2]) = (c' ++ [(t.1, x.2)]).map eS := by
                rw [List.map_append, List.map_append, show c'.length = (c'.map eS).length by simp]
                exact set_lastL
              simp! only [e1, e2, hand, pNeD_nil (vw_cell (hk _)) sh_spans, he, rdQ_cell (hk _), map_last, eS, decide_eq_true hxt, cellL_cell (hk _), List.length_map, hlen, ixN_last, app_set]
              rw [← set1] <;> rfl
            · rcases List.mem_append.mp hu with z | z
              · exact .inl (List.mem_append_left _ z)
              · cases List.mem_singleton.mp z; exact .inr rfl
          · refine ws_last ?_ (fin (c' ++ [t] ++ [x]) ((c' ++ [t] ++ [x]).map eS) (by rw [hsel, if_pos rfl, e, if_neg (by omega)]) rfl fun u hu => ?_)
            · simp! only [e1, e2, hand, pNeD_nil (vw_cell (hk _)) sh_spans, he, rdQ_cell (hk _), map_last, eS, decide_eq_false hxt, isLst_cell (hk _), cellL_cell (hk _), List.length_map, hlt, app_set]
              rw [List.map_append (l₂ := [x])] <;> rfl
            · rcases List.mem_append.mp hu with z | z
              · exact .inl z
              · cases List.mem_singleton.mp z; exact .inr rfl
    · rintro o ⟨δ, m2, rfl, _, _, c, z7, z8, rfl, _, _, hf, rfl⟩
      exact ⟨_, _, rfl, z4, z5, z7, z8, by rw [← hf]; rfl, rfl⟩
  rintro δ m2 ⟨z4, z5, z7, z8, rfl, rfl⟩
  simp_arith only []
  rw [fin_own0 (unds_eS _ _)]
  exact ⟨rfl, rfl⟩
noncomputable def e_Shelf_cover : MS :=
  (sRet (cel (fCall0 f_poured (aCons (dat (fMeth "Shelf" "spans" f_Shelf_spans (eVar 0) aNil)) aNil))))
noncomputable def f_Shelf_cover : FnS := fnOf 1 1 e_Shelf_cover
theorem spansV_len (kv : Kv) : (spansV kv).length = kv.length := by unfold spansV; rw [List.length_map, namesV_len]
theorem Shelf_cover_eq {m : Store} {k a b c : Nat} {kv : Kv} (h : SK m k a b c kv) (hl : kv.length < 64) : f_Shelf_cover [.cell k] m = ret (.own ((pour (spansV kv)).map eS)) m := by
  have po := poured_eq (m := m) (Rd.lst (xs := (spansV kv).map eS)) (by rw [spansV_len]; omega)
  unfold f_Shelf_cover e_Shelf_cover
  simp! only [fMeth, h.ins, sk_spans, Shelf_spans_eq h hl, po]
  exact fin_own0 (unds_eS _ _)
noncomputable def e_shared_by : MS :=
  (sSeq (sSet 2 (cel (fLst aNil)))
    (sSeq (sSet 3 (eC (.int 0)))
    (sSeq (sFor (wList (eVar 0)) (mTup (msCons (mName 4) (msCons (mName 5) msNil)))
    (sSeq (sWhile (mAnd (tst (eOp pLt (eVar 3) (eCB pLen (aCons (eVar 1) aNil)))) (tst (eOp pLe (eOp pIxT (eOp pIxL (eVar 1) (eVar 3)) (eC (.int 1))) (eVar 4))))
    (sAug 3 (fun a b => a + b) (eC (.int 1))))
    (sSeq (sSet 6 (eVar 3))
    (sWhile (mAnd (tst (eOp pLt (eVar 6) (eCB pLen (aCons (eVar 1) aNil)))) (tst (eOp pLt (eOp pIxT (eOp pIxL (eVar 1) (eVar 6)) (eC (.int 0))) (eVar 5))))
    (sSeq (sExpr (eBM pAppend (eVar 2) (aCons (eTup (aCons (eCB pMax2 (aCons (eVar 4) (aCons (eOp pIxT (eOp pIxL (eVar 1) (eVar 6)) (eC (.int 0))) aNil))) (aCons (eCB pMin2 (aCons (eVar 5) (aCons (eOp pIxT (eOp pIxL (eVar 1) (eVar 6)) (eC (.int 1))) aNil))) aNil))) aNil)))
    (sAug 6 (fun a b => a + b) (eC (.int 1))))))))
    (sRet (eVar 2)))))
noncomputable def f_shared_by : FnS := fnOf 2 7 e_shared_by
theorem shared_by_eq {m : Store} {d1 d2 : D} {a b : List Sp2} (h1 : Rd m d1 (a.map eS)) (h2 : Rd m d2 (b.map eS)) (ha : Sep a) (hb : Sep b) (la : a.length ≤ 250) (lb : b.length ≤ 250) : f_shared_by [d1, d2] m = ret (.own ((shared a b).map eS)) m := by
  apply eq_of_wp
  unfold f_shared_by e_shared_by
  refine wp_fnI rfl ?_
  have r1 : ∀ xs, Rd (m ++ [Cell.lst xs]) d1 (a.map eS) := fun xs => h1.app
  have r2 : ∀ xs, Rd (m ++ [Cell.lst xs]) d2 (b.map eS) := fun xs => h2.app
  have hk : ∀ xs : List D, (m ++ [Cell.lst xs])[m.length]? = some (.lst xs) := fun xs => app_get
  have hx : ∀ (n : Nat) (hn : n < b.length), L2.atI (b.map eS) (n : Int) = some (eS b[n]) := fun n hn => by
    rw [atI_of (by omega) (by rw [List.length_map]; omega), List.getElem?_map, show ((n : Int)).toNat = n by omega, List.getElem?_eq_getElem hn]; rfl
  have unS : ∀ s : Sp2, eS s = .tup [.int s.1, .int s.2] := fun _ => rfl
  simp_arith only [(r1 _).q]
  refine ws_mono (forT (en := eS) (fun l δ m' => ∃ (f : List Sp2) (at_ : Nat) (pre : List Sp2), m' = m ++ [Cell.lst (f.map eS)] ∧ a = pre ++ l ∧ f = shared pre b ∧ f.length ≤ pre.length * b.length ∧ at_ ≤ b.length ∧ (∀ i (hi : i < b.length), i < at_ → ∀ s ∈ l, b[i].2 ≤ s.1) ∧ ∃ z1 z2 z3, δ = [some d1, some d2, some (.cell m.length), some (.int (at_ : Int)), z1, z2, z3]) (fun l δ m' ⟨f, _, _, e, _⟩ => e ▸ (r1 _).chk) ?_ ⟨[], 0, [], rfl, rfl, rfl, by simp, by omega, fun i hi z => by omega, _, _, _, rfl⟩) ?_
  · rintro s l δ m' ⟨f, at0, pre, rfl, ea, hf, hfl, hat, hlow, z1, z2, z3, rfl⟩
    refine ⟨_, rfl, ?_⟩
    have hpre : pre.length + (l.length + 1) = a.length := by rw [ea]; simp
    have hs : s.1 < s.2 := ha.pos s (by rw [ea]; simp)
    have hbl : (pre.length + 1) * b.length ≤ 62500 := by
      calc (pre.length + 1) * b.length ≤ 250 * 250 := Nat.mul_le_mul (by omega) lb
        _ = 62500 := rfl
    have hbl2 : pre.length * b.length + b.length ≤ 62500 := by rw [Nat.add_mul] at hbl; omega
    simp_arith only []
    -- the first while
    refine ws_mono (ws_while (R := Nx fun δ m' => ∃ (at_ : Nat), m' = m ++ [Cell.lst (f.map eS)] ∧ at_ ≤ b.length ∧ (∀ i (hi : i < b.length), i < at_ → b[i].2 ≤ s.1) ∧ (∀ (hi : at_ < b.length), s.1 < b[at_].2) ∧ δ = [some d1, some d2, some (.cell m.length), some (.int (at_ : Int)), some (.int s.1), some (.int s.2), z3])
      (fun n δ m' => ∃ (at_ : Nat), n = b.length - at_ ∧ m' = m ++ [Cell.lst (f.map eS)] ∧ at_ ≤ b.length ∧ (∀ i (hi : i < b.length), i < at_ → b[i].2 ≤ s.1) ∧ δ = [some d1, some d2, some (.cell m.length), some (.int (at_ : Int)), some (.int s.1), some (.int s.2), z3]) ?_ ⟨at0, rfl, rfl, hat, fun i hi z => hlow i hi z s List.mem_cons_self, rfl⟩) ?_
    · rintro n δ m' ⟨k, rfl, rfl, hk0, hlo, rfl⟩
      by_cases hlt : k < b.length
      · have hltI : (k : Int) < (b.length : Int) := by omega
        by_cases hle : b[k].2 ≤ s.1
        · simp_arith only [(r2 _).s, (r2 _).q, List.length_map, decide_eq_true hltI, hx k hlt, unS, decide_eq_true hle]
          refine ⟨b.length - (k + 1), by omega, k + 1, rfl, by trivial, by omega, fun i hi z => ?_, ?_⟩
          · rcases Nat.lt_or_ge i k with w | w
            · exact hlo i hi w
            · have : i = k := by omega
              subst this; exact hle
          · rw [show ((k + 1 : Nat) : Int) = (k : Int) + 1 by omega]
        · simp_arith only [(r2 _).s, (r2 _).q, List.length_map, decide_eq_true hltI, hx k hlt, unS, decide_eq_false hle]
          exact ⟨k, by trivial, hk0, hlo, fun _ => by omega, by trivial⟩
      · have hltI : ¬ (k : Int) < (b.length : Int) := by omega
        simp_arith only [(r2 _).s, List.length_map, decide_eq_false hltI]
        exact ⟨k, by trivial, hk0, hlo, fun z => absurd z hlt, by trivial⟩
    · rintro o ⟨δ, m', rfl, k, rfl, hk0, hlo, hge, rfl⟩
      simp_arith only []
      have all2 : ∀ i (hi : i < b.length), k ≤ i → s.1 < b[i].2 := fun i hi w => by
        rcases Nat.lt_or_ge k i with z | z
        · have := sep_lt hb z hi
          have := hge (by omega)
          have := hb.pos b[i] (List.getElem_mem _)
          omega
        · have : i = k := by omega
          subst this; exact hge hi
      refine ws_mono (ws_while (R := Nx fun δ m' => m' = m ++ [Cell.lst ((f ++ meets s b).map eS)] ∧ ∃ z, δ = [some d1, some d2, some (.cell m.length), some (.int (k : Int)), some (.int s.1), some (.int s.2), z])
        (fun n δ m' => ∃ (j : Nat), n = b.length - j ∧ k ≤ j ∧ j ≤ b.length ∧ m' = m ++ [Cell.lst ((f ++ ((b.take j).filter (touches s)).map (clip s)).map eS)] ∧ δ = [some d1, some d2, some (.cell m.length), some (.int (k : Int)), some (.int s.1), some (.int s.2), some (.int (j : Int))]) ?_ ⟨k, rfl, Nat.le_refl _, hk0, ?_, rfl⟩) ?_
      · rintro n δ m' ⟨j, rfl, hkj, hj, rfl, rfl⟩
        by_cases hlt : j < b.length
        · have hltI : (j : Int) < (b.length : Int) := by omega
          by_cases hle : b[j].1 < s.2
          · have tch : touches s b[j] = true := touches_iff.mpr ⟨all2 j hlt hkj, hle⟩
            have fl : (f ++ ((b.take j).filter (touches s)).map (clip s)).length < 100000 := by
              have := List.length_filter_le (touches s) (b.take j)
              rw [List.length_take] at this
              simp
              omega
            simp_arith only [(r2 _).s, (r2 _).q, List.length_map, decide_eq_true hltI, hx j hlt, unS, decide_eq_true hle, isLst_cell (hk _), cellL_cell (hk _), fl]
            refine ⟨b.length - (j + 1), by omega, j + 1, rfl, by omega, by omega, ?_, ?_⟩
            · congr 2
              rw [show b.take (j + 1) = b.take j ++ [b[j]] by rw [List.take_add_one, List.getElem?_eq_getElem hlt]; rfl, List.filter_append, List.map_append]
              simp [tch, clip, eS]
            · rw [show ((j + 1 : Nat) : Int) = (j : Int) + 1 by omega]
          · simp_arith only [(r2 _).s, (r2 _).q, List.length_map, decide_eq_true hltI, hx j hlt, unS, decide_eq_false hle]
            refine ⟨?_, _, rfl⟩
            congr 2
            unfold meets
            rw [filter_take_all]
            intro i hi w
            cases q : touches s b[i] with
            | false => rfl
            | true =>
              exfalso
              have := touches_iff.mp q
              rcases Nat.lt_or_ge j i with z | z
              · have := sep_lt hb z hi
                have := hb.pos b[j] (List.getElem_mem _)
                omega
              · have : i = j := by omega
                subst this; omega
        · have hltI : ¬ (j : Int) < (b.length : Int) := by omega
          simp_arith only [(r2 _).s, List.length_map, decide_eq_false hltI]
          refine ⟨?_, _, rfl⟩
          congr 2
          unfold meets
          rw [List.take_of_length_le (by omega)]
      · rw [filter_take_none (fun i hi z => ?_)]
        · simp
        · cases q : touches s b[i] with
          | false => rfl
          | true =>
            have := touches_iff.mp q
            have := hlo i hi z
            omega
      · rintro o ⟨δ, m', rfl, rfl, z, rfl⟩
        rw [nx_nx]
        have := meets_len s b
        refine ⟨f ++ meets s b, k, pre ++ [s], rfl, by rw [ea]; simp, ?_, ?_, hk0, fun i hi w t ht => ?_, _, _, _, rfl⟩
        · rw [hf]; unfold shared; rw [List.flatMap_append]; simp
        · simp only [List.length_append, List.length_cons, List.length_nil]
          rw [Nat.add_mul]; omega
        · have := hlo i hi w
          have h3 : s.2 < t.1 := by
            have := ha.apart
            rw [ea] at this
            exact (List.pairwise_cons.mp (List.pairwise_append.mp this).2.1).1 t ht
          omega
  · rintro o ⟨δ, m', rfl, f, at0, pre, rfl, ea, hf, _, _, _, z1, z2, z3, rfl⟩
    rw [List.append_nil] at ea
    subst ea
    simp_arith only []
    rw [hf, fin_own0 (unds_eS _ _)]
    exact ⟨rfl, rfl⟩
noncomputable def e_shared : MS :=
  (sRet (cel (fCall0 f_shared_by (aCons (dat (fMeth "Shelf" "cover" f_Shelf_cover (eVar 0) aNil)) (aCons (dat (fMeth "Shelf" "cover" f_Shelf_cover (eVar 1) aNil)) aNil)))))
noncomputable def f_shared : FnS := fnOf 2 2 e_shared
theorem shared_eq {m : Store} {k a b c k2 a2 b2 c2 : Nat} {kv kv2 : Kv} (h : SK m k a b c kv) (h2 : SK m k2 a2 b2 c2 kv2) (wf : Wf kv) (wf2 : Wf kv2) : f_shared [.cell k, .cell k2] m = ret (.own ((shared (pour (spansV kv)) (pour (spansV kv2))).map eS)) m := by
  have hl : kv.length < 64 := by have := wf.len; omega
  have hl2 : kv2.length < 64 := by have := wf2.len; omega
  have l1 : (pour (spansV kv)).length ≤ 250 := by
    have := pour_len (l := psort (spansV kv)) (c := [])
    rw [(psort_perm (spansV kv)).length_eq, spansV_len] at this
    unfold pour
    simp at this
    omega
  have l2 : (pour (spansV kv2)).length ≤ 250 := by
    have := pour_len (l := psort (spansV kv2)) (c := [])
    rw [(psort_perm (spansV kv2)).length_eq, spansV_len] at this
    unfold pour
    simp at this
    omega
  have e := shared_by_eq (m := m) (d1 := .lst ((pour (spansV kv)).map eS)) (d2 := .lst ((pour (spansV kv2)).map eS)) .lst .lst (pour_ok wf.lts).1 (pour_ok wf2.lts).1 l1 l2
  unfold f_shared e_shared
  simp! only [fMeth, h.ins, h2.ins, sk_cover, Shelf_cover_eq h hl, Shelf_cover_eq h2 hl2, e]
  exact fin_own0 (unds_eS _ _)
noncomputable def e_left_of : MS :=
  (sSeq (sSet 2 (cel (fLst aNil)))
    (sSeq (sFor (wList (eVar 0)) (mTup (msCons (mName 3) (msCons (mName 4) msNil)))
    (sSeq (sFor (wList (dat (fCall0 f_shared_by (aCons (dat (fLst (aCons (eTup (aCons (eVar 3) (aCons (eVar 4) aNil))) aNil))) (aCons (eVar 1) aNil))))) (mTup (msCons (mName 5) (msCons (mName 6) msNil)))
    (sSeq (sIf (tst (eOp pLt (eVar 3) (eVar 5))) (sExpr (eBM pAppend (eVar 2) (aCons (eTup (aCons (eVar 3) (aCons (eVar 5) aNil))) aNil))) sNext)
    (sSet 3 (eVar 6))))
    (sIf (tst (eOp pLt (eVar 3) (eVar 4))) (sExpr (eBM pAppend (eVar 2) (aCons (eTup (aCons (eVar 3) (aCons (eVar 4) aNil))) aNil))) sNext)))
    (sRet (eVar 2))))
noncomputable def f_left_of : FnS := fnOf 2 7 e_left_of
theorem left_of_eq {m : Store} {d1 d2 : D} {a b : List Sp2} (h1 : Rd m d1 (a.map eS)) (h2 : Rd m d2 (b.map eS)) (ha : Sep a) (hb : Sep b) (la : a.length ≤ 250) (lb : b.length ≤ 250) : f_left_of [d1, d2] m = ret (.own ((leftOf a b).map eS)) m := by
  apply eq_of_wp
  unfold f_left_of e_left_of
  refine wp_fnI rfl ?_
  have r1 : ∀ xs, Rd (m ++ [Cell.lst xs]) d1 (a.map eS) := fun xs => h1.app
  have r2 : ∀ xs, Rd (m ++ [Cell.lst xs]) d2 (b.map eS) := fun xs => h2.app
  have hk : ∀ xs : List D, (m ++ [Cell.lst xs])[m.length]? = some (.lst xs) := fun xs => app_get
  simp_arith only [(r1 _).q]
  refine ws_mono (forT (en := eS) (fun l δ m' => ∃ (f : List Sp2) (pre : List Sp2), m' = m ++ [Cell.lst (f.map eS)] ∧ a = pre ++ l ∧ f = leftOf pre b ∧ f.length ≤ pre.length * (b.length + 1) ∧ ∃ z1 z2 z3 z4, δ = [some d1, some d2, some (.cell m.length), z1, z2, z3, z4]) (fun l δ m' ⟨f, _, e, _⟩ => e ▸ (r1 _).chk) ?_ ⟨[], [], rfl, rfl, rfl, by simp, _, _, _, _, rfl⟩) ?_
  · rintro s l δ m' ⟨f, pre, rfl, ea, hf, hfl, z1, z2, z3, z4, rfl⟩
    refine ⟨_, rfl, ?_⟩
    have hpre : pre.length + (l.length + 1) = a.length := by rw [ea]; simp
    have hs : s.1 < s.2 := ha.pos s (by rw [ea]; simp)
    have hbl : (pre.length + 1) * (b.length + 1) ≤ 62750 := by
      calc (pre.length + 1) * (b.length + 1) ≤ 250 * 251 := Nat.mul_le_mul (by omega) (by omega)
        _ = 62750 := rfl
    have hbl2 : pre.length * (b.length + 1) + (b.length + 1) ≤ 62750 := by rw [Nat.add_mul] at hbl; omega
    have sone : Sep [s] := ⟨List.pairwise_singleton _ _, fun t ht => by cases List.mem_singleton.mp ht; exact hs⟩
    have e1 : f_shared_by [.lst [.tup [.int s.1, .int s.2]], d2] (m ++ [Cell.lst (f.map eS)]) = ret (.own ((meets s b).map eS)) (m ++ [Cell.lst (f.map eS)]) := by
      have := shared_by_eq (m := m ++ [Cell.lst (f.map eS)]) (d1 := .lst ([s].map eS)) (a := [s]) .lst (r2 _) sone hb (by simp) lb
      rw [show shared [s] b = meets s b by simp [shared]] at this
      exact this
    simp_arith only [e1, srcOf]
    have hml := meets_len s b
    refine ws_mono (forT (en := eS) (fun ts δ m' => ∃ (g : List Sp2) (lo : Int), m' = m ++ [Cell.lst (g.map eS)] ∧ g ++ gaps s.2 lo ts = f ++ gaps s.2 s.1 (meets s b) ∧ g.length + ts.length ≤ 62750 ∧ ∃ z3 z4, δ = [some d1, some d2, some (.cell m.length), some (.int lo), some (.int s.2), z3, z4]) (fun _ _ _ _ => chk_nil) ?_ ⟨f, s.1, rfl, rfl, by omega, _, _, rfl⟩) ?_
    · rintro t ts δ m' ⟨g, lo, rfl, hg, hgl, z3, z4, rfl⟩
      have hgl' : g.length + (ts.length + 1) ≤ 62750 := by simpa using hgl
      have gl : g.length < 100000 := by omega
      refine ⟨_, rfl, ?_⟩
      by_cases hlt : lo < t.1
      · simp_arith only [decide_eq_true hlt, isLst_cell (hk _), cellL_cell (hk _), List.length_map, gl]
        refine ⟨g ++ [(lo, t.1)], t.2, by rw [List.map_append]; rfl, ?_, by simp; omega, _, _, rfl⟩
        rw [← hg, List.append_assoc]
        conv => rhs; unfold gaps
        rw [if_pos hlt]
      · simp_arith only [decide_eq_false hlt]
        refine ⟨g, t.2, by trivial, ?_, by omega, _, _, rfl⟩
        rw [← hg]
        conv => rhs; unfold gaps
        rw [if_neg hlt, List.nil_append]
    · rintro o ⟨δ, m', rfl, g, lo, rfl, hg, hgl, z3, z4, rfl⟩
      have gl : g.length < 100000 := by simp at hgl; omega
      have fin : ∀ g' : List Sp2, g' = f ++ gaps s.2 s.1 (meets s b) → ∃ (f : List Sp2) (pre : List Sp2), m ++ [Cell.lst (g'.map eS)] = m ++ [Cell.lst (f.map eS)] ∧ a = pre ++ l ∧ f = leftOf pre b ∧ f.length ≤ pre.length * (b.length + 1) ∧ ∃ y1 y2 y3 y4, [some d1, some d2, some (D.cell m.length), some (.int lo), some (.int s.2), z3, z4] = [some d1, some d2, some (.cell m.length), y1, y2, y3, y4] := by
        rintro g' rfl
        refine ⟨_, pre ++ [s], rfl, by rw [ea]; simp, ?_, ?_, _, _, _, _, rfl⟩
        · rw [hf]; unfold leftOf; rw [List.flatMap_append]; simp
        · have := gaps_len (hi := s.2) (meets s b) s.1
          simp only [List.length_append, List.length_cons, List.length_nil]
          rw [Nat.add_mul]; omega
      by_cases hlt : lo < s.2
      · simp_arith only [decide_eq_true hlt, isLst_cell (hk _), cellL_cell (hk _), List.length_map, gl]
        have := fin (g ++ [(lo, s.2)]) (by rw [← hg]; unfold gaps; rw [if_pos hlt])
        rw [List.map_append] at this
        exact this
      · simp_arith only [decide_eq_false hlt]
        exact fin g (by rw [← hg]; unfold gaps; rw [if_neg hlt, List.append_nil])
  · rintro o ⟨δ, m', rfl, f, pre, rfl, ea, hf, _, z1, z2, z3, z4, rfl⟩
    rw [List.append_nil] at ea
    subst ea
    simp_arith only []
    rw [hf, fin_own0 (unds_eS _ _)]
    exact ⟨rfl, rfl⟩
noncomputable def e_spare : MS :=
  (sRet (cel (fCall0 f_left_of (aCons (dat (fMeth "Shelf" "cover" f_Shelf_cover (eVar 0) aNil)) (aCons (dat (fMeth "Shelf" "cover" f_Shelf_cover (eVar 1) aNil)) aNil)))))
noncomputable def f_spare : FnS := fnOf 2 2 e_spare
theorem spare_eq {m : Store} {k a b c k2 a2 b2 c2 : Nat} {kv kv2 : Kv} (h : SK m k a b c kv) (h2 : SK m k2 a2 b2 c2 kv2) (wf : Wf kv) (wf2 : Wf kv2) : f_spare [.cell k, .cell k2] m = ret (.own ((leftOf (pour (spansV kv)) (pour (spansV kv2))).map eS)) m := by
  have hl : kv.length < 64 := by have := wf.len; omega
  have hl2 : kv2.length < 64 := by have := wf2.len; omega
  have l1 : (pour (spansV kv)).length ≤ 250 := by
    have := pour_len (l := psort (spansV kv)) (c := [])
    rw [(psort_perm (spansV kv)).length_eq, spansV_len] at this
    unfold pour
    simp at this
    omega
  have l2 : (pour (spansV kv2)).length ≤ 250 := by
    have := pour_len (l := psort (spansV kv2)) (c := [])
    rw [(psort_perm (spansV kv2)).length_eq, spansV_len] at this
    unfold pour
    simp at this
    omega
  have e := left_of_eq (m := m) (d1 := .lst ((pour (spansV kv)).map eS)) (d2 := .lst ((pour (spansV kv2)).map eS)) .lst .lst (pour_ok wf.lts).1 (pour_ok wf2.lts).1 l1 l2
  unfold f_spare e_spare
  simp! only [fMeth, h.ins, h2.ins, sk_cover, Shelf_cover_eq h hl, Shelf_cover_eq h2 hl2, e]
  exact fin_own0 (unds_eS _ _)
noncomputable def e_law_right_10 : MS :=
  (sSeq (sSet 2 (dat (fCall0 f_law_clashes (aCons (eOp pIxT (eVar 0) (eC (.int 1))) (aCons (eOp pIxT (eVar 1) (eC (.int 1))) aNil)))))
    (sSeq (sSet 3 (dat (fLst (aCons (dat (fCall0 f_law_pieces_2 (aCons (eOp pIxT (eVar 0) (eC (.int 1))) (aCons (eOp pIxT (eVar 1) (eC (.int 1))) (aCons (eC (.bl true)) aNil))))) (aCons (dat (fCall0 f_law_pieces_2 (aCons (eOp pIxT (eVar 0) (eC (.int 1))) (aCons (eOp pIxT (eVar 1) (eC (.int 1))) (aCons (eC (.bl false)) aNil))))) aNil)))))
    (sSeq (sFor (wRng1 (aCons (eC (.int 3)) aNil)) (mName 4)
    (sSeq (sSet 5 (dat (fLst (aCons (cel (fCall f_clashes (aCons (eOp pIxT (eVar 0) (eC (.int 0))) (aCons (eOp pIxT (eVar 1) (eC (.int 0))) aNil)))) (aCons (cel (fCall0 f_shared (aCons (eOp pIxT (eVar 0) (eC (.int 0))) (aCons (eOp pIxT (eVar 1) (eC (.int 0))) aNil)))) (aCons (cel (fCall0 f_spare (aCons (eOp pIxT (eVar 0) (eC (.int 0))) (aCons (eOp pIxT (eVar 1) (eC (.int 0))) aNil)))) aNil))))))
    (sSeq (sIf (mOr (tst (eOp pNeT (eVar 5) (dat (fOp pCat (dat (fLst (aCons (eVar 2) aNil))) (eVar 3))))) (tst (eOp pGt (eCB pLen (aCons (dat (fLc (wList (eVar 5)) (mName 6) (mNot (tst (eIsT "list" (eVar 6)))) (eVar 6) [6])) aNil)) (eC (.int 0))))) (sRet (eC (.bl false))) sNext)
    (sSeq (sFor (wList (eVar 5)) (mName 6)
    (sExpr (eBM pAppend (eVar 6) (aCons (eC .non) aNil))))
    (sFor (wList (dat (fLst (aCons (eVar 0) (aCons (eVar 1) aNil))))) (mTup (msCons (mName 7) (msCons (mName 8) msNil)))
    (sSeq (sIf (tst (eOp pNeD (dat (fMeth "Shelf" "names" f_Shelf_names (eVar 7) aNil)) (dat (fCB pSortD (aCons (eVar 8) aNil))))) (sRet (eC (.bl false))) sNext)
    (sIf (tst (eOp pGt (eCB pLen (aCons (dat (fLock (eVar 8) (fLc (wKeys (eVar 8)) (mName 9) (tst (eOp pNeD (pla (fMeth "Shelf" "span" f_Shelf_span (eVar 7) (aCons (eVar 9) aNil))) (eOp pDGet (eVar 8) (eVar 9)))) (eVar 9) [9]))) aNil)) (eC (.int 0)))) (sRet (eC (.bl false))) sNext)))))))
    (sRet (eC (.bl true))))))
noncomputable def f_law_right_10 : FnS := fnOf 2 10 e_law_right_10
/-- a shelf and the dict beside it -/
structure ShD (m : Store) (k dd : Nat) (kv : Kv) : Prop where
  sk : ∃ a b c, SK m k a b c kv ∧ a ≠ dd
  hd : m[dd]? = some (.dK (encS kv))
  wf : Wf kv
theorem ShD.app {m l : Store} {k dd : Nat} {kv : Kv} (h : ShD m k dd kv) : ShD (m ++ l) k dd kv := by
  obtain ⟨a, b, c, sk, hn⟩ := h.sk
  exact ⟨⟨a, b, c, sk.app, hn⟩, by rw [List.getElem?_append_left (List.getElem?_eq_some_iff.mp h.hd).1]; exact h.hd, h.wf⟩
theorem sh_eN {n : Nat} {p : Str × Str} (h1 : PyData.strOk p.1 = true) (h2 : PyData.strOk p.2 = true) : Sh (n + 1) (eN p) := sh_two (sh_str h1) (sh_str h2)
theorem clash_sh {kv kv2 : Kv} (wf : Wf kv) (wf2 : Wf kv2) {n : Nat} : Sh (n + 2) (.lst ((clashV kv kv2).map eN)) := by
  intro x hx
  obtain ⟨p, hp, rfl⟩ := List.mem_map.mp hx
  unfold clashV at hp
  obtain ⟨y, hy, hp⟩ := List.mem_flatMap.mp hp
  obtain ⟨z, hz, rfl⟩ := List.mem_map.mp hp
  exact sh_eN (wf.str _ (namesV_mem.mp hy)) (wf2.str _ (namesV_mem.mp (List.mem_filter.mp hz).1))
theorem pNeT_same {m : Store} {d e x : D} (h1 : dvw m d = some x) (h2 : dvw m e = some x) (s : Sh 60 x) : pNeT d e m = ret (.bl false) m := by
  unfold pNeT
  rw [h1, h2]
  simp only [Option.bind_some]
  rw [if_pos ⟨s, s⟩, eqb_self]; rfl
theorem dvw_three {m : Store} {A B C : List D} : dvw (m ++ [.lst A, .lst B, .lst C]) (.lst [.cell m.length, .cell (m.length + 1), .cell (m.length + 2)]) = some (.lst [.lst A, .lst B, .lst C]) := by
  have g0 : (m ++ [Cell.lst A, .lst B, .lst C])[m.length]? = some (.lst A) := get_app0 _ _
  have g1 : (m ++ [Cell.lst A, .lst B, .lst C])[m.length + 1]? = some (.lst B) := get_app _ _ 1
  have g2 : (m ++ [Cell.lst A, .lst B, .lst C])[m.length + 2]? = some (.lst C) := get_app _ _ 2
  simp only [dvw, dvws, g0, g1, g2, Option.bind_some, Option.map_some]
theorem shared_len2 (a b : List Sp2) {n : Nat} (h : b.length ≤ n) : (shared a b).length ≤ n * a.length := by
  unfold shared
  induction a with
  | nil => simp
  | cons x a ih =>
    rw [List.flatMap_cons, List.length_append, List.length_cons, Nat.mul_add]
    have := meets_len x b
    omega
theorem left_len2 (a b : List Sp2) {n : Nat} (h : b.length ≤ n) : (leftOf a b).length ≤ (n + 1) * a.length := by
  unfold leftOf
  induction a with
  | nil => simp
  | cons x a ih =>
    rw [List.flatMap_cons, List.length_append, List.length_cons, Nat.mul_add]
    have := meets_len x b
    have := gaps_len (hi := x.2) (meets x b) x.1
    omega
theorem law_right_10_eq {m : Store} {k dd k2 dd2 : Nat} {kv kv2 : Kv} (h : ShD m k dd kv) (h2 : ShD m k2 dd2 kv2) : f_law_right_10 [.tup [.cell k, .cell dd], .tup [.cell k2, .cell dd2]] m = ret (.pl (.bl true)) m := by
  have hl : kv.length < 64 := by have := h.wf.len; omega
  have hl2 : kv2.length < 64 := by have := h2.wf.len; omega
  obtain ⟨S, hS⟩ : ∃ S, S = (shared (pour (spansV kv)) (pour (spansV kv2))).map eS := ⟨_, rfl⟩
  obtain ⟨P, hP⟩ : ∃ P, P = (leftOf (pour (spansV kv)) (pour (spansV kv2))).map eS := ⟨_, rfl⟩
  obtain ⟨C, hC⟩ : ∃ C, C = (clashV kv kv2).map eN := ⟨_, rfl⟩
  have e1 := law_clashes_eq h.hd h2.hd hl hl2
  have e2 := law_pieces_2_eq (w := true) h.hd h2.hd hl hl2 h.wf.nd h2.wf.nd
  have e3 := law_pieces_2_eq (w := false) h.hd h2.hd hl hl2 h.wf.nd h2.wf.nd
  rw [piecesW_shared h.wf.nd h2.wf.nd h.wf.lts h2.wf.lts, ← hS] at e2
  rw [piecesW_spare h.wf.nd h2.wf.nd h.wf.lts h2.wf.lts, ← hP] at e3
  rw [← hC] at e1
  have shC : Sh 59 (.lst C) := by rw [hC]; exact clash_sh h.wf h2.wf
  have shS : Sh 59 (.lst S) := by rw [hS]; exact sh_spans
  have shP : Sh 59 (.lst P) := by rw [hP]; exact sh_spans
  have sh3 : Sh 60 (.lst [.lst C, .lst S, .lst P]) := by
    intro x hx
    rcases List.mem_cons.mp hx with rfl | hx
    · exact shC
    · rcases List.mem_cons.mp hx with rfl | hx
      · exact shS
      · cases List.mem_singleton.mp hx; exact shP
  have LC : C.length ≤ 5000 := by
    rw [hC, List.length_map]
    unfold clashV
    have : ∀ l : List Str, (l.flatMap fun x => ((namesV kv2).filter fun y => touches (spanV kv x) (spanV kv2 y)).map fun y => (x, y)).length ≤ 64 * l.length := fun l => by
      induction l with
      | nil => simp
      | cons x l ih =>
        rw [List.flatMap_cons, List.length_append, List.length_map, List.length_cons]
        have := List.length_filter_le (fun y => touches (spanV kv x) (spanV kv2 y)) (namesV kv2)
        rw [namesV_len] at this
        omega
    have := this (namesV kv)
    rw [namesV_len] at this
    omega
  have LS : S.length ≤ 20000 := by
    rw [hS, List.length_map]
    have := shared_len2 (pour (spansV kv)) (pour (spansV kv2)) (n := 64) (by have := pour_length (spansV kv2); rw [spansV_len] at this; omega)
    have := pour_length (spansV kv)
    rw [spansV_len] at this
    omega
  have LP : P.length ≤ 20000 := by
    rw [hP, List.length_map]
    have := left_len2 (pour (spansV kv)) (pour (spansV kv2)) (n := 64) (by have := pour_length (spansV kv2); rw [spansV_len] at this; omega)
    have := pour_length (spansV kv)
    rw [spansV_len] at this
    omega
  apply eq_of_wp
  unfold f_law_right_10 e_law_right_10
  refine wp_fnI rfl ?_
  refine ws_step (δ' := [some (.tup [.cell k, .cell dd]), some (.tup [.cell k2, .cell dd2]), some (.lst C), none, none, none, none, none, none, none]) (m' := m) ?_ ?_
  · simp! only [e1]
  refine ws_step (δ' := [some (.tup [.cell k, .cell dd]), some (.tup [.cell k2, .cell dd2]), some (.lst C), some (.lst [.lst S, .lst P]), none, none, none, none, none, none]) (m' := m) ?_ ?_
  · simp! only [e2, e3]
  refine ws_mid (I := fun δ m' => ∃ loc, m' = m ++ loc) ?_ ?_
  · refine ws_forS (wk := ⟨(List.range 3).map fun i : Nat => D.int (i : Int), []⟩) (m' := m) ?_ ?_
    · have r1 : Rg62 3 := rg62 (by omega) (by omega)
      have rr : rng 0 3 = (List.range 3).map fun i : Nat => D.int (i : Int) := rng_0 (n := 3)
      simp! only [wRng1, r1, rr]
    refine ws_mono (forT (en := fun i : Nat => D.int (i : Int)) (I := fun l δ m' => ∃ (loc : Store) (z4 z5 z6 z7 z8 z9 : Option D), m' = m ++ loc ∧ δ = [some (.tup [.cell k, .cell dd]), some (.tup [.cell k2, .cell dd2]), some (.lst C), some (.lst [.lst S, .lst P]), z4, z5, z6, z7, z8, z9]) (fun _ _ _ _ => chk_nil) ?_ ⟨[], _, _, _, _, _, _, by rw [List.append_nil], rfl⟩) ?_
    · rintro x l δ m' ⟨loc, z4, z5, z6, z7, z8, z9, rfl, rfl⟩
      refine ⟨[some (.tup [.cell k, .cell dd]), some (.tup [.cell k2, .cell dd2]), some (.lst C), some (.lst [.lst S, .lst P]), some (.int x), z5, z6, z7, z8, z9], rfl, ?_⟩
      obtain ⟨M, hM⟩ : ∃ M, M = m ++ loc := ⟨_, rfl⟩
      have hh : ShD M k dd kv := by rw [hM]; exact h.app
      have hh2 : ShD M k2 dd2 kv2 := by rw [hM]; exact h2.app
      rw [← hM]
      obtain ⟨a, b, c, sk, hn⟩ := hh.sk
      obtain ⟨a2, b2, c2, sk2, hn2⟩ := hh2.sk
      have c1 := clashes_eq sk sk2 hl hl2
      have c2' := shared_eq (m := M ++ [.lst C]) sk.app sk2.app h.wf h2.wf
      have c3 := spare_eq (m := M ++ [.lst C, .lst S]) sk.app sk2.app h.wf h2.wf
      rw [← hC] at c1
      rw [← hS] at c2'
      rw [← hP] at c3
      refine ws_step (δ' := [some (.tup [.cell k, .cell dd]), some (.tup [.cell k2, .cell dd2]), some (.lst C), some (.lst [.lst S, .lst P]), some (.int x), some (.lst [.cell M.length, .cell (M.length + 1), .cell (M.length + 2)]), z6, z7, z8, z9]) (m' := M ++ [.lst C, .lst S, .lst P]) ?_ ?_
      · simp! only [c1, c2', c3, List.length_append, Nat.add_assoc, List.append_assoc]
        try rfl
      have ne : pNeT (.lst [.cell M.length, .cell (M.length + 1), .cell (M.length + 2)]) (.lst [.lst C, .lst S, .lst P]) (M ++ [.lst C, .lst S, .lst P]) = ret (.bl false) (M ++ [.lst C, .lst S, .lst P]) := pNeT_same dvw_three (dvw_sh (n := 60) _ sh3) sh3
      have g : ∀ i ∈ [M.length, M.length + 1, M.length + 2], ∃ ys, (M ++ [Cell.lst C, .lst S, .lst P])[i]? = some (.lst ys) := fun i hi => by
        rcases List.mem_cons.mp hi with rfl | hi
        · exact ⟨_, get_app0 _ _⟩
        · rcases List.mem_cons.mp hi with rfl | hi
          · exact ⟨_, get_app _ _ 1⟩
          · cases List.mem_singleton.mp hi; exact ⟨_, get_app _ _ 2⟩
      have lc : lcM (mName 6) (mNot (tst (eIsT "list" (eVar 6)))) (eVar 6) (Wk.mk [D.cell M.length, .cell (M.length + 1), .cell (M.length + 2)] []).chk [some (.tup [.cell k, .cell dd]), some (.tup [.cell k2, .cell dd2]), some (.lst C), some (.lst [.lst S, .lst P]), some (.int x), some (.lst [.cell M.length, .cell (M.length + 1), .cell (M.length + 2)]), none, z7, z8, z9] [D.cell M.length, .cell (M.length + 1), .cell (M.length + 2)] (M ++ [.lst C, .lst S, .lst P]) = ret [] (M ++ [.lst C, .lst S, .lst P]) := by
        have := lcM_pure (g := mName 6) (t := mNot (tst (eIsT "list" (eVar 6)))) (e := eVar 6) (c := (Wk.mk [D.cell M.length, .cell (M.length + 1), .cell (M.length + 2)] []).chk) (δ := [some (.tup [.cell k, .cell dd]), some (.tup [.cell k2, .cell dd2]), some (.lst C), some (.lst [.lst S, .lst P]), some (.int x), some (.lst [.cell M.length, .cell (M.length + 1), .cell (M.length + 2)]), none, z7, z8, z9]) (m := M ++ [.lst C, .lst S, .lst P]) chk_nil D.cell (fun _ => false) D.cell [M.length, M.length + 1, M.length + 2] (fun i hi => ⟨[some (.tup [.cell k, .cell dd]), some (.tup [.cell k2, .cell dd2]), some (.lst C), some (.lst [.lst S, .lst P]), some (.int x), some (.lst [.cell M.length, .cell (M.length + 1), .cell (M.length + 2)]), some (.cell i), z7, z8, z9], rfl, by
          obtain ⟨ys, hy⟩ := g i hi
          have it : isTy "list" "list" = true := by decide
          simp! only [hy, it], fun z => by cases z⟩)
        rw [List.filter_eq_nil_iff.mpr (fun _ _ h => by cases h)] at this
        exact this
      refine ws_step (δ' := [some (.tup [.cell k, .cell dd]), some (.tup [.cell k2, .cell dd2]), some (.lst C), some (.lst [.lst S, .lst P]), some (.int x), some (.lst [.cell M.length, .cell (M.length + 1), .cell (M.length + 2)]), z6, z7, z8, z9]) (m' := M ++ [.lst C, .lst S, .lst P]) ?_ ?_
      · simp! only [ne, wipeE, lc, srcOf_lst, List.length_cons, List.length_nil, Nat.reduceLT, show decide ((0 : Int) < ((0 : Nat) : Int)) = false from rfl]
      refine ws_mid (I := fun δ m' => ∃ (xs : Store) (z6 : Option D), m' = M ++ xs ∧ δ = [some (.tup [.cell k, .cell dd]), some (.tup [.cell k2, .cell dd2]), some (.lst C), some (.lst [.lst S, .lst P]), some (.int x), some (.lst [.cell M.length, .cell (M.length + 1), .cell (M.length + 2)]), z6, z7, z8, z9]) ?_ ?_
      · refine ws_forS (wk := ⟨[0, 1, 2].map fun i : Nat => D.cell (M.length + i), []⟩) (m' := M ++ [.lst C, .lst S, .lst P]) ?_ ?_
        · simp! only [srcOf_lst]
          try rfl
        refine ws_mono (forT (en := fun i : Nat => D.cell (M.length + i)) (I := fun l δ m' => (∀ i ∈ l, i < 3) ∧ ∃ (xs : Store) (z6 : Option D), m' = M ++ xs ∧ xs.length = 3 ∧ (∀ i, i < 3 → ∃ ys, xs[i]? = some (.lst ys) ∧ ys.length + l.length ≤ 90000) ∧ δ = [some (.tup [.cell k, .cell dd]), some (.tup [.cell k2, .cell dd2]), some (.lst C), some (.lst [.lst S, .lst P]), some (.int x), some (.lst [.cell M.length, .cell (M.length + 1), .cell (M.length + 2)]), z6, z7, z8, z9]) (fun _ _ _ _ => chk_nil) ?_ ⟨by decide, [.lst C, .lst S, .lst P], _, rfl, rfl, ?_, rfl⟩) ?_
        · rintro i l δ m' ⟨hi, xs, z6, rfl, hx, hy, rfl⟩
          have i3 := hi i List.mem_cons_self
          obtain ⟨ys, h1, h2'⟩ := hy i i3
          rw [List.length_cons] at h2'
          have gi : (M ++ xs)[M.length + i]? = some (.lst ys) := by rw [get_app]; exact h1
          have ylt : ys.length < 100000 := by omega
          refine ⟨[some (.tup [.cell k, .cell dd]), some (.tup [.cell k2, .cell dd2]), some (.lst C), some (.lst [.lst S, .lst P]), some (.int x), some (.lst [.cell M.length, .cell (M.length + 1), .cell (M.length + 2)]), some (.cell (M.length + i)), z7, z8, z9], rfl, ?_⟩
          refine ws_last (o := .nx [some (.tup [.cell k, .cell dd]), some (.tup [.cell k2, .cell dd2]), some (.lst C), some (.lst [.lst S, .lst P]), some (.int x), some (.lst [.cell M.length, .cell (M.length + 1), .cell (M.length + 2)]), some (.cell (M.length + i)), z7, z8, z9] (M ++ xs.set i (.lst (ys ++ [.non])))) ?_ ⟨_, _, rfl, fun j hj => hi j (List.mem_cons_of_mem _ hj), xs.set i (.lst (ys ++ [.non])), _, rfl, by rw [List.length_set]; exact hx, fun j hj => ?_, rfl⟩
          · simp! only [isLst_cell gi, cellL_cell gi, ylt, set_app]
          · by_cases hij : i = j
            · subst hij
              exact ⟨_, List.getElem?_set_self (by omega), by simp; omega⟩
            · obtain ⟨ys', q1, q2⟩ := hy j hj
              rw [List.length_cons] at q2
              exact ⟨ys', by rw [List.getElem?_set_ne hij]; exact q1, by omega⟩
        · intro i hi
          have : i = 0 ∨ i = 1 ∨ i = 2 := by omega
          rcases this with rfl | rfl | rfl
          · exact ⟨C, rfl, by show C.length + 3 ≤ _; omega⟩
          · exact ⟨S, rfl, by show S.length + 3 ≤ _; omega⟩
          · exact ⟨P, rfl, by show P.length + 3 ≤ _; omega⟩
        · rintro o ⟨δ, m', rfl, _, xs, z6, rfl, _, _, rfl⟩
          exact ⟨_, _, rfl, xs, z6, rfl, rfl⟩
      rintro δ m' ⟨xs, z6, rfl, rfl⟩
      refine ws_forS (wk := ⟨[(k, dd, kv), (k2, dd2, kv2)].map fun q : Nat × Nat × Kv => D.tup [.cell q.1, .cell q.2.1], []⟩) (m' := M ++ xs) ?_ ?_
      · simp! only [srcOf_lst]
      refine ws_mono (forT (en := fun q : Nat × Nat × Kv => D.tup [.cell q.1, .cell q.2.1]) (I := fun l δ m' => (∀ q ∈ l, ShD (M ++ xs) q.1 q.2.1 q.2.2) ∧ m' = M ++ xs ∧ ∃ (z7 z8 z9 : Option D), δ = [some (.tup [.cell k, .cell dd]), some (.tup [.cell k2, .cell dd2]), some (.lst C), some (.lst [.lst S, .lst P]), some (.int x), some (.lst [.cell M.length, .cell (M.length + 1), .cell (M.length + 2)]), z6, z7, z8, z9]) (fun _ _ _ _ => chk_nil) ?_ ⟨?_, rfl, _, _, _, rfl⟩) ?_
      · rintro ⟨k0, d0, kv0⟩ l δ m' ⟨hq, rfl, z7, z8, z9, rfl⟩
        have h0 := hq _ List.mem_cons_self
        dsimp only at h0
        obtain ⟨a0, b0, c0, sk0, hn0⟩ := h0.sk
        have hl0 : kv0.length < 64 := by have := h0.wf.len; omega
        have n1 := Shelf_names_eq sk0 hl0
        have n2 := sortS h0.hd hl0
        have ne0 : pNeD (.lst ((namesV kv0).map D.str)) (.lst ((namesV kv0).map D.str)) (M ++ xs) = ret (.bl false) (M ++ xs) := ne_self vw_lst vw_lst (fun y hy => by
          obtain ⟨z, hz, rfl⟩ := List.mem_map.mp hy
          exact sh_str (h0.wf.str _ (namesV_mem.mp hz)))
        have ld : d0 < (M ++ xs).length := (List.getElem?_eq_some_iff.mp h0.hd).1
        have dk : d0 ≠ k0 := fun z => by have := h0.hd; rw [z, sk0.hk] at this; cases this
        have skl : SK ((M ++ xs).set d0 (.fz (encS kv0))) k0 a0 b0 c0 kv0 := sk0.set dk (fun z => hn0 z.symm)
        have lcq : lcM (mName 9) (tst (eOp pNeD (pla (fMeth "Shelf" "span" f_Shelf_span (eVar 7) (aCons (eVar 9) aNil))) (eOp pDGet (eVar 8) (eVar 9)))) (eVar 9) (Wk.mk ((encS kv0).map fun p => keyOf p.1) []).chk [some (.tup [.cell k, .cell dd]), some (.tup [.cell k2, .cell dd2]), some (.lst C), some (.lst [.lst S, .lst P]), some (.int x), some (.lst [.cell M.length, .cell (M.length + 1), .cell (M.length + 2)]), z6, some (.cell k0), some (.cell d0), none] ((encS kv0).map fun p => keyOf p.1) ((M ++ xs).set d0 (.fz (encS kv0))) = ret [] ((M ++ xs).set d0 (.fz (encS kv0))) := by
          rw [encS_keys]
          have := lcM_pure (g := mName 9) (t := tst (eOp pNeD (pla (fMeth "Shelf" "span" f_Shelf_span (eVar 7) (aCons (eVar 9) aNil))) (eOp pDGet (eVar 8) (eVar 9)))) (e := eVar 9) (c := (Wk.mk ((kv0.map (·.1)).map D.str) []).chk) (δ := [some (.tup [.cell k, .cell dd]), some (.tup [.cell k2, .cell dd2]), some (.lst C), some (.lst [.lst S, .lst P]), some (.int x), some (.lst [.cell M.length, .cell (M.length + 1), .cell (M.length + 2)]), z6, some (.cell k0), some (.cell d0), none]) (m := (M ++ xs).set d0 (.fz (encS kv0))) chk_nil D.str (fun _ => false) D.str (kv0.map (·.1)) (fun y hy => ⟨[some (.tup [.cell k, .cell dd]), some (.tup [.cell k2, .cell dd2]), some (.lst C), some (.lst [.lst S, .lst P]), some (.int x), some (.lst [.cell M.length, .cell (M.length + 1), .cell (M.length + 2)]), z6, some (.cell k0), some (.cell d0), some (.str y)], rfl, by
            have q1 := Shelf_span_ok skl hy
            have q2 := dgetX (m := (M ++ xs).set d0 (.fz (encS kv0))) (cellR_fz (List.getElem?_set_self ld)) hy
            have q3 : pNeD (eS (spanV kv0 y)) (eS (spanV kv0 y)) ((M ++ xs).set d0 (.fz (encS kv0))) = ret (.bl false) ((M ++ xs).set d0 (.fz (encS kv0))) := ne_self rfl rfl sh_eS
            simp! only [fMeth, skl.ins, sk_span, q1, q2, q3], fun z => by cases z⟩)
          rw [List.filter_eq_nil_iff.mpr (fun _ _ h => by cases h)] at this
          exact this
        have fl := fLockLc (e := eVar 8) (g := mName 9) (vs := [9]) (δ := [some (.tup [.cell k, .cell dd]), some (.tup [.cell k2, .cell dd2]), some (.lst C), some (.lst [.lst S, .lst P]), some (.int x), some (.lst [.cell M.length, .cell (M.length + 1), .cell (M.length + 2)]), z6, some (.cell k0), some (.cell d0), z9]) (fun _ => rfl) h0.hd (by rw [encS_len]; omega) lcq
        refine ⟨[some (.tup [.cell k, .cell dd]), some (.tup [.cell k2, .cell dd2]), some (.lst C), some (.lst [.lst S, .lst P]), some (.int x), some (.lst [.cell M.length, .cell (M.length + 1), .cell (M.length + 2)]), z6, some (.cell k0), some (.cell d0), z9], rfl, ?_⟩
        refine ws_step (δ' := [some (.tup [.cell k, .cell dd]), some (.tup [.cell k2, .cell dd2]), some (.lst C), some (.lst [.lst S, .lst P]), some (.int x), some (.lst [.cell M.length, .cell (M.length + 1), .cell (M.length + 2)]), z6, some (.cell k0), some (.cell d0), z9]) (m' := M ++ xs) ?_ ?_
        · simp! only [fMeth, sk0.ins, sk_names, n1, n2, ne0]
        refine ws_last (o := .nx [some (.tup [.cell k, .cell dd]), some (.tup [.cell k2, .cell dd2]), some (.lst C), some (.lst [.lst S, .lst P]), some (.int x), some (.lst [.cell M.length, .cell (M.length + 1), .cell (M.length + 2)]), z6, some (.cell k0), some (.cell d0), z9] (M ++ xs)) ?_ ⟨_, _, rfl, fun z hz => hq z (List.mem_cons_of_mem _ hz), rfl, _, _, _, rfl⟩
        simp! only [fl, show decide ((0 : Int) < ((0 : Nat) : Int)) = false from rfl]
      · intro q hq
        rcases List.mem_cons.mp hq with rfl | hq
        · exact hh.app
        · cases List.mem_singleton.mp hq; exact hh2.app
      · rintro o ⟨δ, m', rfl, _, rfl, z7, z8, z9, rfl⟩
        exact ⟨_, _, rfl, loc ++ xs, _, _, _, _, _, _, by rw [hM, List.append_assoc], rfl⟩
    · rintro o ⟨δ, m', rfl, loc, z4, z5, z6, z7, z8, z9, rfl, rfl⟩
      exact ⟨_, _, rfl, loc, rfl⟩
  rintro δ m' ⟨loc, rfl⟩
  refine ws_last (o := .rt (.bl true) (m ++ loc)) ?_ ?_
  · simp! only []
  · simp_arith only []
    rw [fin_plain rfl (Tidy.refl _) res_bl]
    exact ⟨rfl, rfl⟩
/-! the row of clashes: in order, turned about, by names, and empty -/
theorem ltCps_lt : ∀ a b : List Nat, PySem.Spec.ltCps a b = decide (a < b)
  | [], [] => by simp [PySem.Spec.ltCps]
  | [], _ :: _ => by simp [PySem.Spec.ltCps]
  | _ :: _, [] => by simp [PySem.Spec.ltCps]
  | x :: a, y :: b => by
    have ih := ltCps_lt a b
    unfold PySem.Spec.ltCps
    rw [ih, Bool.eq_iff_iff, Bool.or_eq_true, Bool.and_eq_true, decide_eq_true_eq, decide_eq_true_eq, decide_eq_true_eq, beq_iff_eq, List.cons_lt_cons_iff]
theorem leS_ltN {a b : Str} : leS a b ↔ SrtQ.ltN b a = false := by
  unfold leS SrtQ.ltN
  rw [ltCps_lt]
theorem names_nd {kv : Kv} (wf : Wf kv) : (namesV kv).Nodup := (ssort_perm _).nodup_iff.mpr wf.nd
theorem names_lt {kv : Kv} (wf : Wf kv) : (namesV kv).Pairwise fun x y => SrtQ.ltN y x = false ∧ x ≠ y :=
  have h1 : (namesV kv).Pairwise leS := ssort_le _
  (h1.imp fun h => leS_ltN.mp h).and (names_nd wf)
theorem clash_mem {a b : Kv} {p : Str × Str} : p ∈ clashV a b ↔ p.1 ∈ a.map (·.1) ∧ p.2 ∈ b.map (·.1) ∧ touches (spanV a p.1) (spanV b p.2) = true := by
  unfold clashV
  rw [List.mem_flatMap]
  constructor
  · rintro ⟨x, hx, hp⟩
    obtain ⟨y, hy, rfl⟩ := List.mem_map.mp hp
    obtain ⟨h1, h2⟩ := List.mem_filter.mp hy
    exact ⟨namesV_mem.mp hx, namesV_mem.mp h1, h2⟩
  · rintro ⟨h1, h2, h3⟩
    exact ⟨p.1, namesV_mem.mpr h1, List.mem_map.mpr ⟨p.2, List.mem_filter.mpr ⟨namesV_mem.mpr h2, h3⟩, rfl⟩⟩
theorem clash_rise {a b : Kv} (wf : Wf a) (wf2 : Wf b) : (clashV a b).Pairwise fun p q => qle p q = true ∧ p ≠ q := by
  unfold clashV
  rw [List.pairwise_flatMap]
  refine ⟨fun x hx => ?_, (names_lt wf).imp fun {x y} h p hp q hq => ?_⟩
  · rw [List.pairwise_map]
    refine ((names_lt wf2).sublist List.filter_sublist).imp fun {y z} h => ⟨?_, fun e => h.2 (Prod.mk.inj e).2⟩
    unfold qle SrtQ.ltQ
    rw [if_pos rfl, h.1]; rfl
  · obtain ⟨y1, _, rfl⟩ := List.mem_map.mp hp
    obtain ⟨y2, _, rfl⟩ := List.mem_map.mp hq
    refine ⟨?_, fun e => h.2 (Prod.mk.inj e).1⟩
    unfold qle SrtQ.ltQ
    rw [if_neg (fun e => h.2 e.symm), h.1]; rfl
theorem clash_nd {a b : Kv} (wf : Wf a) (wf2 : Wf b) : (clashV a b).Nodup := (clash_rise wf wf2).imp fun h => h.2
theorem touches_sym {s t : Sp2} : touches s t = touches t s := by
  unfold touches
  rw [Bool.and_comm]
theorem clash_turn {a b : Kv} (wf : Wf a) (wf2 : Wf b) : qsort ((clashV a b).map fun p => (p.2, p.1)) = clashV b a := by
  refine (qsort_uniq ?_ ((clash_rise wf2 wf).imp fun h => h.1)).symm
  refine (List.perm_ext_iff_of_nodup (clash_nd wf2 wf) ?_).mpr fun p => ?_
  · unfold List.Nodup
    rw [List.pairwise_map]
    exact (clash_nd wf wf2).imp fun {p q} h e => h (Prod.ext (Prod.mk.inj e).2 (Prod.mk.inj e).1)
  · rw [clash_mem]
    constructor
    · rintro ⟨h1, h2, h3⟩
      exact List.mem_map.mpr ⟨(p.2, p.1), clash_mem.mpr ⟨h2, h1, by rw [touches_sym]; exact h3⟩, rfl⟩
    · intro hp
      obtain ⟨q, hq, rfl⟩ := List.mem_map.mp hp
      obtain ⟨h1, h2, h3⟩ := clash_mem.mp hq
      exact ⟨h2, h1, by rw [touches_sym]; exact h3⟩
noncomputable def e_law_k70 : MS :=
  (sSeq (sSet 1 (cel (fCall0 f_law_purse (aCons (eVar 0) (aCons (eC (.int 0)) aNil)))))
    (sSeq (sSet 2 (dat (fCall0 f_law_names (aCons (eVar 1) (aCons (eC (.int 8)) aNil)))))
    (sSeq (sSet 3 (cel (fLst aNil)))
    (sSeq (sSet 4 (dat (fCall0 f_law_shelf (aCons (eVar 1) (aCons (eVar 2) (aCons (eVar 3) aNil))))))
    (sSeq (sSet 5 (dat (fCall0 f_law_shelf (aCons (eVar 1) (aCons (dat (fOp pCat (eVar 2) (dat (fLst (aCons (eC (.str "zzzzzzzz")) aNil))))) (aCons (eVar 3) aNil))))))
    (sSeq (sIf (mOr (mNot (tst (pla (fCall0 f_law_right_10 (aCons (eVar 4) (aCons (eVar 5) aNil)))))) (mOr (mNot (tst (pla (fCall0 f_law_right_10 (aCons (eVar 5) (aCons (eVar 4) aNil)))))) (mNot (tst (pla (fCall0 f_law_right_10 (aCons (eVar 4) (aCons (eVar 4) aNil)))))))) (sRet (eC (.bl false))) sNext)
    (sSeq (sSet 8 (dat (fCB pSortQ (aCons (dat (fLc (wList (dat (fCall0 f_clashes (aCons (eOp pIxT (eVar 5) (eC (.int 0))) (aCons (eOp pIxT (eVar 4) (eC (.int 0))) aNil))))) (mTup (msCons (mName 6) (msCons (mName 7) msNil))) mYes (eTup (aCons (eVar 7) (aCons (eVar 6) aNil))) [6, 7])) aNil))))
    (sSeq (sIf (tst (eOp pNeD (eVar 8) (dat (fCall0 f_clashes (aCons (eOp pIxT (eVar 4) (eC (.int 0))) (aCons (eOp pIxT (eVar 5) (eC (.int 0))) aNil)))))) (sRet (eC (.bl false))) sNext)
    (sSeq (sSet 9 (dat (fCall0 f_clashes (aCons (eOp pIxT (eVar 4) (eC (.int 0))) (aCons (eOp pIxT (eVar 4) (eC (.int 0))) aNil)))))
    (sRet (eAnd (eOp pEq (eCB pLen (aCons (dat (fLock (eOp pIxT (eVar 4) (eC (.int 1))) (fLc (wKeys (eOp pIxT (eVar 4) (eC (.int 1)))) (mName 10) (tst (eOp (pInD true) (eTup (aCons (eVar 10) (aCons (eVar 10) aNil))) (eVar 9))) (eVar 10) [10]))) aNil)) (eC (.int 0))) (pla (fCall0 f_law_right_10 (aCons (eVar 4) (aCons (eTup (aCons (eMake "Shelf" f_Shelf___init__ aNil) (aCons eDNew aNil))) aNil)))))))))))))))
noncomputable def f_law_k70 : FnS := fnOf 1 11 e_law_k70
theorem law_true (ns : List Int) (hl : ns.length ≤ 63) : ∃ m', f_law_k70 [.scr ns] [] = some (.ok (.pl (.bl true)), m') := by
  have key : wp (f_law_k70 [.scr ns] []) (fun r m' => r = .ok (.pl (.bl true))) := by
    unfold f_law_k70 e_law_k70
    refine wp_fnI rfl ?_
    obtain ⟨p, e, hp⟩ := law_purse_ok ns 0 (by omega) []
    replace e : f_law_purse [.scr ns, .int 0] [] = ret (.own [.int p.a, .int p.b, .int p.c]) [] := e
    refine ws_step (δ' := [some (.scr ns), some (.cell 0), none, none, none, none, none, none, none, none, none]) (m' := [ePu p]) ?_ ?_
    · simp! only [e]
      rfl
    obtain ⟨xs, p1, e1, lxs, ndx, hxs, hx7, hp1⟩ := law_names_ok7 (m := [ePu p]) (k := 0) (b := 1000) (n := 8) rfl (by omega) (hp.mono (by omega))
    replace e1 : f_law_names [.cell 0, .int 8] [ePu p] = ret (.own (xs.map D.str)) [ePu p1] := e1
    refine ws_step (δ' := [some (.scr ns), some (.cell 0), some (.lst (xs.map D.str)), none, none, none, none, none, none, none, none]) (m' := [ePu p1]) ?_ ?_
    · simp! only [e1]
    refine ws_step (δ' := [some (.scr ns), some (.cell 0), some (.lst (xs.map D.str)), some (.cell 1), none, none, none, none, none, none, none]) (m' := [ePu p1, .lst (([] : List Int).map D.int)]) ?_ ?_
    · simp! only []
    obtain ⟨m1, p2, en1, k, dd, kv, e2, md, g0, g1, hen1, hin1, hkl1, hp2⟩ := law_shelf_ok (m := [ePu p1, .lst (([] : List Int).map D.int)]) (p := 0) (e := 1) (b := 900) (xs := xs) (ends := []) (by decide) rfl rfl ndx hxs (by omega) (by simp) (hp1.mono (by omega))
    replace e2 : f_law_shelf [.cell 0, .lst (xs.map D.str), .cell 1] [ePu p1, .lst []] = ret (.pl (.tup [.cell k, .cell dd])) m1 := e2
    refine ws_step (δ' := [some (.scr ns), some (.cell 0), some (.lst (xs.map D.str)), some (.cell 1), some (.tup [.cell k, .cell dd]), none, none, none, none, none, none]) (m' := m1) ?_ ?_
    · simp! only [e2]
    have hz : ∀ x ∈ xs, x ≠ ("zzzzzzzz" : Str) := fun x hx h => by
      have h7 := hx7 x hx
      rw [h] at h7
      exact absurd h7 (by decide +kernel)
    have hzn : isNm ("zzzzzzzz" : Str) = true := by decide +kernel
    obtain ⟨m2, p3, en2, k2, dd2, kv2, e3, md2, g2, g3, hen2, hin2, hkl2, hp3⟩ := law_shelf_ok (m := m1) (p := 0) (e := 1) (b := 800) (xs := xs ++ (["zzzzzzzz"] : List Str)) (ends := en1) (by decide) g0 g1 (List.nodup_append.mpr ⟨ndx, by simp, fun x hx y hy h => by cases List.mem_singleton.mp hy; exact hz x hx h⟩) (fun x hx => by
      rcases List.mem_append.mp hx with z | z
      · exact hxs x z
      · cases List.mem_singleton.mp z; exact hzn) (by simp; omega) (by simp at hen1; omega) (hp2.mono (by omega))
    have lx : xs.length ≤ 99999 := by omega
    refine ws_step (δ' := [some (.scr ns), some (.cell 0), some (.lst (xs.map D.str)), some (.cell 1), some (.tup [.cell k, .cell dd]), some (.tup [.cell k2, .cell dd2]), none, none, none, none, none]) (m' := m2) ?_ ?_
    · rw [List.map_append] at e3
      replace e3 : f_law_shelf [.cell 0, .lst (xs.map D.str ++ [.str "zzzzzzzz"]), .cell 1] m1 = ret (.pl (.tup [.cell k2, .cell dd2])) m2 := e3
      simp! only [List.length_map, lx, e3]
    have old : ∀ j, 2 ≤ j → j < m1.length → m2[j]? = m1[j]? := fun j h1 h2 => md2.at' j h2 (by omega) (by omega)
    have s1 : ShD m2 k dd kv := by
      obtain ⟨a, b, c, sk, ha, hn⟩ := md.sk
      have la : a < m1.length := (List.getElem?_eq_some_iff.mp sk.ha).1
      have lk : k < m1.length := (List.getElem?_eq_some_iff.mp sk.hk).1
      have ld : dd < m1.length := (List.getElem?_eq_some_iff.mp md.hd).1
      have h2 := md.hk
      have h3 := md.hdd
      simp only [List.length_cons, List.length_nil] at ha h2 h3
      exact ⟨⟨a, b, c, ⟨by rw [old k (by omega) lk]; exact sk.hk, by rw [old a (by omega) la]; exact sk.ha⟩, hn⟩, by rw [old dd (by omega) ld]; exact md.hd, md.wf⟩
    have s2 : ShD m2 k2 dd2 kv2 := by
      obtain ⟨a, b, c, sk, ha, hn⟩ := md2.sk
      exact ⟨⟨a, b, c, sk, hn⟩, md2.hd, md2.wf⟩
    have r12 := law_right_10_eq s1 s2
    have r21 := law_right_10_eq s2 s1
    have r11 := law_right_10_eq s1 s1
    refine ws_step (δ' := [some (.scr ns), some (.cell 0), some (.lst (xs.map D.str)), some (.cell 1), some (.tup [.cell k, .cell dd]), some (.tup [.cell k2, .cell dd2]), none, none, none, none, none]) (m' := m2) ?_ ?_
    · simp! only [r12, r21, r11]
    obtain ⟨a, b, c, sk, hn⟩ := s1.sk
    obtain ⟨a2, b2, c2, sk2, hn2⟩ := s2.sk
    have hl1 : kv.length < 64 := by omega
    have hl2 : kv2.length < 64 := by omega
    have c12 := clashes_eq sk sk2 hl1 hl2
    have c21 := clashes_eq sk2 sk hl2 hl1
    have c11 := clashes_eq sk sk hl1 hl1
    have clen : ∀ {k1 k2 : Kv}, k1.length ≤ 9 → k2.length ≤ 9 → (clashV k1 k2).length ≤ 100 := fun {k1 k2} h1 h2 => by
      unfold clashV
      have : ∀ l : List Str, (l.flatMap fun x => ((namesV k2).filter fun y => touches (spanV k1 x) (spanV k2 y)).map fun y => (x, y)).length ≤ 9 * l.length := fun l => by
        induction l with
        | nil => simp
        | cons x l ih =>
          rw [List.flatMap_cons, List.length_append, List.length_map, List.length_cons]
          have := List.length_filter_le (fun y => touches (spanV k1 x) (spanV k2 y)) (namesV k2)
          rw [namesV_len] at this
          omega
      have := this (namesV k1)
      rw [namesV_len] at this
      omega
    have L21 : (clashV kv2 kv).length < 100000 := by have := clen hkl2 hkl1; omega
    have lc : lcM (mTup (msCons (mName 6) (msCons (mName 7) msNil))) mYes (eTup (aCons (eVar 7) (aCons (eVar 6) aNil))) (Wk.mk ((clashV kv2 kv).map eN) []).chk [some (.scr ns), some (.cell 0), some (.lst (xs.map D.str)), some (.cell 1), some (.tup [.cell k, .cell dd]), some (.tup [.cell k2, .cell dd2]), none, none, none, none, none] ((clashV kv2 kv).map eN) m2 = ret (((clashV kv2 kv).map fun p => (p.2, p.1)).map eN) m2 := by
      rw [List.map_map]
      exact lcM_map chk_nil eN _ (clashV kv2 kv) fun q _ => ⟨[some (.scr ns), some (.cell 0), some (.lst (xs.map D.str)), some (.cell 1), some (.tup [.cell k, .cell dd]), some (.tup [.cell k2, .cell dd2]), some (.str q.1), some (.str q.2), none, none, none], rfl, by simp! only []; rfl⟩
    have tq : toQs (((clashV kv2 kv).map fun p => (p.2, p.1)).map eN) = some ((clashV kv2 kv).map fun p => (p.2, p.1)) := by
      have : ∀ l : List (Str × Str), toQs (l.map eN) = some l := fun l => by
        induction l with
        | nil => rfl
        | cons q l ih =>
          show (toQs (l.map eN)).map (fun ps => (q.1, q.2) :: ps) = _
          rw [ih]; rfl
      exact this _
    have turned : qsort ((clashV kv2 kv).map fun p => (p.2, p.1)) = clashV kv kv2 := clash_turn s2.wf s1.wf
    have eqn : (fun p => eQ p) = eN := rfl
    refine ws_step (δ' := [some (.scr ns), some (.cell 0), some (.lst (xs.map D.str)), some (.cell 1), some (.tup [.cell k, .cell dd]), some (.tup [.cell k2, .cell dd2]), none, none, some (.lst ((clashV kv kv2).map eN)), none, none]) (m' := m2) ?_ ?_
    · simp! only [c21, srcOf_lst, List.length_map, L21, wipeE, lc, pSortQ, tq, turned]
      rfl
    have ne : pNeD (.lst ((clashV kv kv2).map eN)) (.lst ((clashV kv kv2).map eN)) m2 = ret (.bl false) m2 := ne_self vw_lst vw_lst (clash_sh (n := 58) s1.wf s2.wf)
    refine ws_step (δ' := [some (.scr ns), some (.cell 0), some (.lst (xs.map D.str)), some (.cell 1), some (.tup [.cell k, .cell dd]), some (.tup [.cell k2, .cell dd2]), none, none, some (.lst ((clashV kv kv2).map eN)), none, none]) (m' := m2) ?_ ?_
    · simp! only [c12, ne]
    refine ws_step (δ' := [some (.scr ns), some (.cell 0), some (.lst (xs.map D.str)), some (.cell 1), some (.tup [.cell k, .cell dd]), some (.tup [.cell k2, .cell dd2]), none, none, some (.lst ((clashV kv kv2).map eN)), some (.lst ((clashV kv kv).map eN)), none]) (m' := m2) ?_ ?_
    · simp! only [c11]
    have ld : dd < m2.length := (List.getElem?_eq_some_iff.mp s1.hd).1
    have lcq : lcM (mName 10) (tst (eOp (pInD true) (eTup (aCons (eVar 10) (aCons (eVar 10) aNil))) (eVar 9))) (eVar 10) (Wk.mk ((encS kv).map fun p => keyOf p.1) []).chk [some (.scr ns), some (.cell 0), some (.lst (xs.map D.str)), some (.cell 1), some (.tup [.cell k, .cell dd]), some (.tup [.cell k2, .cell dd2]), none, none, some (.lst ((clashV kv kv2).map eN)), some (.lst ((clashV kv kv).map eN)), none] ((encS kv).map fun p => keyOf p.1) (m2.set dd (.fz (encS kv))) = ret [] (m2.set dd (.fz (encS kv))) := by
      rw [encS_keys]
      have := lcM_pure (g := mName 10) (t := tst (eOp (pInD true) (eTup (aCons (eVar 10) (aCons (eVar 10) aNil))) (eVar 9))) (e := eVar 10) (c := (Wk.mk ((kv.map (·.1)).map D.str) []).chk) (δ := [some (.scr ns), some (.cell 0), some (.lst (xs.map D.str)), some (.cell 1), some (.tup [.cell k, .cell dd]), some (.tup [.cell k2, .cell dd2]), none, none, some (.lst ((clashV kv kv2).map eN)), some (.lst ((clashV kv kv).map eN)), none]) (m := m2.set dd (.fz (encS kv))) chk_nil D.str (fun _ => false) D.str (kv.map (·.1)) (fun y hy => ⟨[some (.scr ns), some (.cell 0), some (.lst (xs.map D.str)), some (.cell 1), some (.tup [.cell k, .cell dd]), some (.tup [.cell k2, .cell dd2]), none, none, some (.lst ((clashV kv kv2).map eN)), some (.lst ((clashV kv kv).map eN)), some (.str y)], rfl, by
        have hy1 := namesV_mem.mpr hy
        have hsp := s1.wf.lts _ (List.mem_map.mpr ⟨y, hy1, rfl⟩)
        have hm : (y, y) ∈ clashV kv kv := clash_mem.mpr ⟨hy, hy, by unfold touches; simp; omega⟩
        have hd : pInD true (.tup [.str y, .str y]) (.lst ((clashV kv kv).map eN)) (m2.set dd (.fz (encS kv))) = ret (.bl false) (m2.set dd (.fz (encS kv))) := by
          unfold pInD
          rw [vw_tup, vw_lst]
          simp only [Option.bind_some]
          rw [if_pos ⟨sh_eN (n := 59) (p := (y, y)) (s1.wf.str _ hy) (s1.wf.str _ hy), clash_sh (n := 58) s1.wf s1.wf⟩]
          have : ((clashV kv kv).map eN).any (fun z => eqb z (.tup [.str y, .str y])) = true := List.any_eq_true.mpr ⟨eN (y, y), List.mem_map.mpr ⟨_, hm, rfl⟩, eqb_self _⟩
          rw [this]; rfl
        simp! only [hd], fun z => by cases z⟩)
      rw [List.filter_eq_nil_iff.mpr (fun _ _ h => by cases h)] at this
      exact this
    have fl := fLockLc (e := eOp pIxT (eVar 4) (eC (.int 1))) (g := mName 10) (vs := [10]) (δ := [some (.scr ns), some (.cell 0), some (.lst (xs.map D.str)), some (.cell 1), some (.tup [.cell k, .cell dd]), some (.tup [.cell k2, .cell dd2]), none, none, some (.lst ((clashV kv kv2).map eN)), some (.lst ((clashV kv kv).map eN)), none]) (fun _ => by simp! only []) s1.hd (by rw [encS_len]; omega) lcq
    have ini := Shelf___init___eq (m := m2)
    obtain ⟨M3, hM3⟩ : ∃ M3, M3 = m2 ++ [.ins "Shelf" (shF (m2.length + 1) (m2.length + 2) (m2.length + 3)), .dK (encV []), .lst [], .lst [], .dK (encS [])] := ⟨_, rfl⟩
    have s3 : ShD M3 m2.length (m2.length + 4) [] := by
      rw [hM3]
      exact ⟨⟨m2.length + 1, m2.length + 2, m2.length + 3, ⟨get_app0 _ _, get_app _ _ 1⟩, by omega⟩, get_app _ _ 4, Wf.nil⟩
    have s1' : ShD M3 k dd kv := by rw [hM3]; exact s1.app
    have r13 := law_right_10_eq s1' s3
    refine ws_last (o := .rt (.bl true) M3) ?_ ?_
    · have app4 : m2 ++ [Cell.ins "Shelf" (shF (m2.length + 1) (m2.length + 2) (m2.length + 3)), .dK (encV []), .lst [], .lst []] ++ [.dK []] = M3 := by rw [hM3, List.append_assoc]; rfl
      have len4 : (m2 ++ [Cell.ins "Shelf" (shF (m2.length + 1) (m2.length + 2) (m2.length + 3)), .dK (encV []), .lst [], .lst []]).length = m2.length + 4 := by simp
      simp! only [fl, eMake, ini, eDNew, app4, len4, r13, show decide (((0 : Nat) : Int) = 0) = true from rfl]
    · simp_arith only []
      exact (fin_top (m' := M3) (b := true)).symm ▸ rfl
  obtain ⟨r, m', e, rfl⟩ := wp_get key
  exact ⟨m', e⟩
end DL
open DL
namespace LW
open PySem PySem.Spec PyProof.Rows L2 DL
structure KC (K : PySem.W.Frag) : Prop where
  c_Shelf : Cls K (He.ga K "Shelf")
  n_Shelf_kept : NoAttr K (He.ga K "Shelf") "kept"
  n_Shelf_behind : NoAttr K (He.ga K "Shelf") "behind"
  n_Shelf_ahead : NoAttr K (He.ga K "Shelf") "ahead"
structure Txt (K : PySem.W.Frag) (mg : Str → Option Value) : Prop where
  n_len : mg "len" = none
  n_max : mg "max" = none
  n_range : mg "range" = none
  n_list : mg "list" = none
  n_min : mg "min" = none
  n_dict : mg "dict" = none
  n_all : mg "all" = none
  n_sorted : mg "sorted" = none
  n_set : mg "set" = none
  n_zip : mg "zip" = none
  n_isinstance : mg "isinstance" = none
  c_BEYOND : ∃ t, mg "BEYOND" = some (.int 1000000000000 t)
  c_MOST_WEIGHT : ∃ t, mg "MOST_WEIGHT" = some (.int 1000000000 t)
  c_MOST_SPANS : ∃ t, mg "MOST_SPANS" = some (.int 60 t)
  c_MOST_LETTERS : ∃ t, mg "MOST_LETTERS" = some (.int 8 t)
  c_LETTERS : ∃ t, mg "LETTERS" = some (.str "abcdefghijklmnopqrstuvwxyz" t)
  xs : Xs K xnames
  kc : KC K
  x_ShelfError : XCls K xnames "ShelfError"
  g_ShelfError : mg "ShelfError" = some (.ref (ga K "ShelfError"))
  x_NoSpan : XCls K xnames "NoSpan"
  g_NoSpan : mg "NoSpan" = some (.ref (ga K "NoSpan"))
  x_NoPlace : XCls K xnames "NoPlace"
  g_NoPlace : mg "NoPlace" = some (.ref (ga K "NoPlace"))
  x_NoWeight : XCls K xnames "NoWeight"
  g_NoWeight : mg "NoWeight" = some (.ref (ga K "NoWeight"))
  x_NoCount : XCls K xnames "NoCount"
  g_NoCount : mg "NoCount" = some (.ref (ga K "NoCount"))
  x_NoName : XCls K xnames "NoName"
  g_NoName : mg "NoName" = some (.ref (ga K "NoName"))
  x_Twice : XCls K xnames "Twice"
  g_Twice : mg "Twice" = some (.ref (ga K "Twice"))
  x_Full : XCls K xnames "Full"
  g_Full : mg "Full" = some (.ref (ga K "Full"))
def t_law_at (K : PySem.W.Frag) (W : WX) : TS :=
  (tSeq (tIfS (tTest (tOp oLt (tVar 1) (tCB (Evl.rLenS K) (tCons (tVar 0) tNil)))) (tRet (tOp (rIxL K) (tVar 0) (tVar 1))) tNext)
    (tRet (tC (.int 0))))
theorem so_law_at {K : PySem.W.Frag} (xs : Xs K xnames) (kc : KC K) : SS K (t_law_at K) e_law_at :=
  (ss_seq (ss_if (fun W => (so_test (so_op s2_pLt so_var (so_eCB sc_pLen (so_acons so_var so_anil))))) (ss_ret (fun W => (so_op s2_pIxL so_var so_var))) ss_next)
    (ss_ret (fun W => so_cint)))
def t_law_purse (K : PySem.W.Frag) (W : WX) : TS :=
  (tSeq (tAsg (tCall (spF K f_law_at) [] E0 (tCons (tVar 0) (tCons (tVar 1) tNil))) (gName 2))
    (tRet (tLst (tCons (tCB Evl.rMax2 (tCons (tOp oSub (tVar 2) (tOp oPow (tC (.int 10)) (tC (.int 18)))) (tCons (tC (.int 0)) tNil))) (tCons (tOp oMod (tVar 2) (tC (.int 2147483647))) (tCons (tOp oMul (tC (.int 1000)) (tVar 1)) tNil))))))
theorem so_law_purse {K : PySem.W.Frag} (xs : Xs K xnames) (kc : KC K) : SS K (t_law_purse K) e_law_purse :=
  (ss_seq (ss_set (fun W => (so_pla (so_call0 (so_acons so_var (so_acons so_var so_anil))))))
    (ss_ret (fun W => (so_cel (so_lst (so_acons (so_eCB sc_pMax2 (so_acons (so_op s2_pSub so_var (so_op s2_pPow so_cint so_cint)) (so_acons so_cint so_anil))) (so_acons (so_op s2_pMod so_var so_cint) (so_acons (so_op s2_pMul so_cint so_var) so_anil))))))))
def t_law_mixed (K : PySem.W.Frag) (W : WX) : TS :=
  (tSeq (tAsg (tOp oMod (tOp oAdd (tOp oAdd (tOp oAdd (tOp oMul (tVar 0) (tC (.int 1103515245))) (tOp oMul (tOp oMul (tC (.int 7919)) (tVar 1)) (tVar 1))) (tVar 1)) (tC (.int 1))) (tC (.int 2147483647))) (gName 2))
    (tSeq (tAsg (tOp oMod (tOp oAdd (tOp oMul (tVar 2) (tVar 2)) (tC (.int 69621))) (tC (.int 2147483629))) (gName 2))
    (tRet (tOp oMod (tOp oMul (tVar 2) (tC (.int 48271))) (tC (.int 2147483587))))))
theorem so_law_mixed {K : PySem.W.Frag} (xs : Xs K xnames) (kc : KC K) : SS K (t_law_mixed K) e_law_mixed :=
  (ss_seq (ss_set (fun W => (so_op s2_pMod (so_op s2_pAdd (so_op s2_pAdd (so_op s2_pAdd (so_op s2_pMul so_var so_cint) (so_op s2_pMul (so_op s2_pMul so_cint so_var) so_var)) so_var) so_cint) so_cint)))
    (ss_seq (ss_set (fun W => (so_op s2_pMod (so_op s2_pAdd (so_op s2_pMul so_var so_var) so_cint) so_cint)))
    (ss_ret (fun W => (so_op s2_pMod (so_op s2_pMul so_var so_cint) so_cint)))))
def t_law_draw (K : PySem.W.Frag) (W : WX) : TS :=
  (tSeq (tIfS (tTest (tOp oGt (tOp (rIxL K) (tVar 0) (tC (.int 0))) (tC (.int 0)))) (tSeq (tAsg (tOp oMod (tOp (rIxL K) (tVar 0) (tC (.int 0))) (tVar 1)) (gName 2))
    (tSeq (tAsg (tOp oDiv (tOp (rIxL K) (tVar 0) (tC (.int 0))) (tVar 1)) (gSub (tVar 0) (tC (.int 0)) rSetL))
    (tRet (tVar 2)))) tNext)
    (tSeq (tAsg (tC (.int 0)) (gName 3))
    (tSeq (tFor (iRng1 (tCons (tOp oAdd (tC (.int 1)) (tOp oDiv (tBits (tVar 1)) (tC (.int 30)))) tNil)) (gName 4)
    ((tSeq (tAsg (tOp oAdd (tOp (rIxL K) (tVar 0) (tC (.int 2))) (tC (.int 1))) (gSub (tVar 0) (tC (.int 2)) rSetL))
    (tAsg (tOp oAdd (tOp oMul (tVar 3) (tC (.int 2147483587))) (tCall (spF K f_law_mixed) [] E0 (tCons (tOp (rIxL K) (tVar 0) (tC (.int 1))) (tCons (tOp (rIxL K) (tVar 0) (tC (.int 2))) tNil)))) (gName 3)))))
    (tRet (tOp oMod (tVar 3) (tVar 1))))))
theorem so_law_draw {K : PySem.W.Frag} (xs : Xs K xnames) (kc : KC K) : SS K (t_law_draw K) e_law_draw :=
  (ss_seq (ss_if (fun W => (so_test (so_op s2_pGt (so_op s2_pIxL so_var so_cint) so_cint))) (ss_seq (ss_set (fun W => (so_op s2_pMod (so_op s2_pIxL so_var so_cint) so_var)))
    (ss_seq (ss_setI (fun W => (so_op s2_pDiv (so_op s2_pIxL so_var so_cint) so_var)) (fun W => so_var) (fun W => so_cint))
    (ss_ret (fun W => so_var)))) ss_next)
    (ss_seq (ss_set (fun W => so_cint))
    (ss_seq (ss_for (fun W => (so_wRng1 (so_acons (so_op s2_pAdd so_cint (so_op s2_pDiv (so_bits so_var) so_cint)) so_anil))) sg_name
    (ss_seq (ss_setI (fun W => (so_op s2_pAdd (so_op s2_pIxL so_var so_cint) so_cint)) (fun W => so_var) (fun W => so_cint))
    (ss_set (fun W => (so_op s2_pAdd (so_op s2_pMul so_var so_cint) (so_pla (so_call0 (so_acons (so_op s2_pIxL so_var so_cint) (so_acons (so_op s2_pIxL so_var so_cint) so_anil)))))))))
    (ss_ret (fun W => (so_op s2_pMod so_var so_var))))))
def t_law_names (K : PySem.W.Frag) (W : WX) : TS :=
  (tSeq (tAsg (tC (.str "abcdefghijklmnopqrstuvwxyz")) (gName 2))
    (tSeq (tAsg (tM1 (rJoin K) (tC (.str "")) (tLc (iRng1 (tCons (tCall (spF K f_law_draw) [] E0 (tCons (tVar 0) (tCons (tC (.int 7)) tNil))) tNil)) (gName 3) tYes (tOp rIxS (tVar 2) (tCall (spF K f_law_draw) [] E0 (tCons (tVar 0) (tCons (tC (.int 26)) tNil)))) [3])) (gName 4))
    (tSeq (tAsg (tCall (spF K f_law_draw) [] E0 (tCons (tVar 0) (tCons (tOp oAdd (tCB rLenTx (tCons (tVar 4) tNil)) (tC (.int 1))) tNil))) (gName 5))
    (tSeq (tAsg (tCall (spF K f_law_draw) [] E0 (tCons (tVar 0) (tCons (tC (.int 26)) tNil))) (gName 6))
    (tSeq (tAsg (tLc (iRng1 (tCons (tVar 1) tNil)) (gName 3) tYes (tOp oAddS (tOp oAddS (tSl rSlS (tVar 4) tNoPart (tPart (tVar 5))) (tOp rIxS (tVar 2) (tOp oMod (tOp oAdd (tVar 6) (tOp oMul (tC (.int 7)) (tVar 3))) (tC (.int 26))))) (tSl rSlS (tVar 4) (tPart (tVar 5)) tNoPart)) [3]) (gName 7))
    (tRet (tVar 7)))))))
theorem so_law_names {K : PySem.W.Frag} (xs : Xs K xnames) (kc : KC K) : SS K (t_law_names K) e_law_names :=
  (ss_seq (ss_set (fun W => so_cstr))
    (ss_seq (ss_set (fun W => (so_join so_cstr (so_dat (so_lc (vs := [3]) (so_wRng1 (so_acons (so_pla (so_call0 (so_acons so_var (so_acons so_cint so_anil)))) so_anil)) (sgw_name (by decide)) so_yes (so_op s2_pIxS so_var (so_pla (so_call0 (so_acons so_var (so_acons so_cint so_anil))))))))))
    (ss_seq (ss_set (fun W => (so_pla (so_call0 (so_acons so_var (so_acons (so_op s2_pAdd (so_eCB sc_pLenS (so_acons so_var so_anil)) so_cint) so_anil))))))
    (ss_seq (ss_set (fun W => (so_pla (so_call0 (so_acons so_var (so_acons so_cint so_anil))))))
    (ss_seq (ss_set (fun W => (so_cel (so_lc (vs := [3]) (so_wRng1 (so_acons so_var so_anil)) (sgw_name (by decide)) so_yes (so_op s2_pAddS (so_op s2_pAddS (so_slS so_var so_none (so_some so_var)) (so_op s2_pIxS so_var (so_op s2_pMod (so_op s2_pAdd so_var (so_op s2_pMul so_cint so_var)) so_cint))) (so_slS so_var (so_some so_var) so_none))))))
    (ss_ret (fun W => so_var)))))))
def t_Shelf___init__ (K : PySem.W.Frag) (W : WX) : TS :=
  (tSeq (sFld K (tVar 0) tDNewK "kept")
    (tSeq (sFld K (tVar 0) (tLst tNil) "behind")
    (sFld K (tVar 0) (tLst tNil) "ahead")))
theorem so_Shelf___init__ {K : PySem.W.Frag} (xs : Xs K xnames) (kc : KC K) : SS K (t_Shelf___init__ K) e_Shelf___init__ :=
  (ss_seq (ss_fld kc.c_Shelf kc.n_Shelf_kept (fun W => so_dnew) (fun W => so_var))
    (ss_seq (ss_fld kc.c_Shelf kc.n_Shelf_behind (fun W => (so_cel (so_lst so_anil))) (fun W => so_var))
    (ss_fld kc.c_Shelf kc.n_Shelf_ahead (fun W => (so_cel (so_lst so_anil))) (fun W => so_var))))
def t_law_order (K : PySem.W.Frag) (W : WX) : TS :=
  (tSeq (tAsg (tCB (Evl.rListS K) (tCons (tVar 1) tNil)) (gName 2))
    (tSeq (tAsg (tLst tNil) (gName 3))
    (tSeq (tWhile (tTest (tOp (rNeD K) (tVar 2) (tLst tNil)))
    ((tDrop (tBM K "list" rAppend (tVar 3) (tCons (tBM K "list" rPopAt (tVar 2) (tCons (tCall (spF K f_law_draw) [] E0 (tCons (tVar 0) (tCons (tCB (Evl.rLenS K) (tCons (tVar 2) tNil)) tNil))) tNil)) tNil)))))
    (tRet (tVar 3)))))
theorem so_law_order {K : PySem.W.Frag} (xs : Xs K xnames) (kc : KC K) : SS K (t_law_order K) e_law_order :=
  (ss_seq (ss_set (fun W => (so_cel (so_fCB sc_pList (so_acons so_var so_anil)))))
    (ss_seq (ss_set (fun W => (so_cel (so_lst so_anil))))
    (ss_seq (ss_while (fun W => (so_test (so_op s2_pNeD so_var (so_dat (so_lst so_anil)))))
    (ss_expr (fun W => (so_bm sm_pAppend so_var (so_acons (so_bm sm_pPopAt so_var (so_acons (so_pla (so_call0 (so_acons so_var (so_acons (so_eCB sc_pLen (so_acons so_var so_anil)) so_anil)))) so_anil)) so_anil)))))
    (ss_ret (fun W => so_var)))))
def t_law_number (K : PySem.W.Frag) (W : WX) : TS :=
  (tSeq (tAsg (tOp (rIxL K) (tLst (tCons (tC (.int 1)) (tCons (tC (.int 4)) (tCons (tC (.int 30)) (tCons (tVar 1) tNil))))) (tCall (spF K f_law_draw) [] E0 (tCons (tVar 0) (tCons (tC (.int 4)) tNil)))) (gName 2))
    (tRet (tOp oSub (tCall (spF K f_law_draw) [] E0 (tCons (tVar 0) (tCons (tOp oAdd (tOp oMul (tC (.int 2)) (tVar 2)) (tC (.int 1))) tNil))) (tVar 2))))
theorem so_law_number {K : PySem.W.Frag} (xs : Xs K xnames) (kc : KC K) : SS K (t_law_number K) e_law_number :=
  (ss_seq (ss_set (fun W => (so_op s2_pIxL (so_dat (so_lst (so_acons so_cint (so_acons so_cint (so_acons so_cint (so_acons so_var so_anil)))))) (so_pla (so_call0 (so_acons so_var (so_acons so_cint so_anil)))))))
    (ss_ret (fun W => (so_op s2_pSub (so_pla (so_call0 (so_acons so_var (so_acons (so_op s2_pAdd (so_op s2_pMul so_cint so_var) so_cint) so_anil)))) so_var))))
def t_law_end (K : PySem.W.Frag) (W : WX) : TS :=
  (tSeq (tIfS (tAnd (tTest (tOp (rNeD K) (tVar 1) (tLst tNil))) (tTest (tOp oGt (tCall (spF K f_law_draw) [] E0 (tCons (tVar 0) (tCons (tC (.int 3)) tNil))) (tC (.int 0))))) (tSeq (tAsg (tOp oSub (tOp oAdd (tOp (rIxL K) (tVar 1) (tCall (spF K f_law_draw) [] E0 (tCons (tVar 0) (tCons (tCB (Evl.rLenS K) (tCons (tVar 1) tNil)) tNil)))) (tCall (spF K f_law_draw) [] E0 (tCons (tVar 0) (tCons (tC (.int 3)) tNil)))) (tC (.int 1))) (gName 3))
    (tRet (tCB Evl.rMax2 (tCons (tOp oSub (tC (.int 0)) (tVar 2)) (tCons (tCB rMin2 (tCons (tVar 2) (tCons (tVar 3) tNil))) tNil))))) tNext)
    (tRet (tCall (spF K f_law_number) [] E0 (tCons (tVar 0) (tCons (tVar 2) tNil)))))
theorem so_law_end {K : PySem.W.Frag} (xs : Xs K xnames) (kc : KC K) : SS K (t_law_end K) e_law_end :=
  (ss_seq (ss_if (fun W => (so_mAnd (so_test (so_op s2_pNeD so_var (so_dat (so_lst so_anil)))) (so_test (so_op s2_pGt (so_pla (so_call0 (so_acons so_var (so_acons so_cint so_anil)))) so_cint)))) (ss_seq (ss_set (fun W => (so_op s2_pSub (so_op s2_pAdd (so_op s2_pIxL so_var (so_pla (so_call0 (so_acons so_var (so_acons (so_eCB sc_pLen (so_acons so_var so_anil)) so_anil))))) (so_pla (so_call0 (so_acons so_var (so_acons so_cint so_anil))))) so_cint)))
    (ss_ret (fun W => (so_eCB sc_pMax2 (so_acons (so_op s2_pSub so_cint so_var) (so_acons (so_eCB sc_pMin2 (so_acons so_var (so_acons so_var so_anil))) so_anil)))))) ss_next)
    (ss_ret (fun W => (so_pla (so_call0 (so_acons so_var (so_acons so_var so_anil)))))))
def t_law_span (K : PySem.W.Frag) (W : WX) : TS :=
  (tSeq (tAsg (tCall (spF K f_law_end) [] E0 (tCons (tVar 0) (tCons (tVar 1) (tCons (tVar 2) tNil)))) (gName 3))
    (tSeq (tAsg (tCall (spF K f_law_end) [] E0 (tCons (tVar 0) (tCons (tOp rCat (tVar 1) (tLst (tCons (tVar 3) tNil))) (tCons (tVar 2) tNil)))) (gName 4))
    (tSeq (tAsg (tCB (rNuC3 nuMin3) (tCons (tVar 3) (tCons (tVar 4) (tCons (tOp oSub (tVar 2) (tC (.int 1))) tNil)))) (gName 5))
    (tSeq (tAsg (tCB (rNuC3 nuMax3) (tCons (tVar 3) (tCons (tVar 4) (tCons (tOp oAdd (tVar 5) (tC (.int 1))) tNil)))) (gName 6))
    (tSeq (tDrop (tBM K "list" rAppend (tVar 1) (tCons (tVar 5) tNil)))
    (tSeq (tDrop (tBM K "list" rAppend (tVar 1) (tCons (tVar 6) tNil)))
    (tRet (tTup (tCons (tVar 5) (tCons (tVar 6) tNil))))))))))
theorem so_law_span {K : PySem.W.Frag} (xs : Xs K xnames) (kc : KC K) : SS K (t_law_span K) e_law_span :=
  (ss_seq (ss_set (fun W => (so_pla (so_call0 (so_acons so_var (so_acons so_var (so_acons so_var so_anil)))))))
    (ss_seq (ss_set (fun W => (so_pla (so_call0 (so_acons so_var (so_acons (so_dat (so_fop s2_pCat so_var (so_dat (so_lst (so_acons so_var so_anil))))) (so_acons so_var so_anil)))))))
    (ss_seq (ss_set (fun W => (so_eCB sc_pMin3 (so_acons so_var (so_acons so_var (so_acons (so_op s2_pSub so_var so_cint) so_anil))))))
    (ss_seq (ss_set (fun W => (so_eCB sc_pMax3 (so_acons so_var (so_acons so_var (so_acons (so_op s2_pAdd so_var so_cint) so_anil))))))
    (ss_seq (ss_expr (fun W => (so_bm sm_pAppend so_var (so_acons so_var so_anil))))
    (ss_seq (ss_expr (fun W => (so_bm sm_pAppend so_var (so_acons so_var so_anil))))
    (ss_ret (fun W => (so_tup (so_acons so_var (so_acons so_var so_anil)))))))))))
def t_is_place (K : PySem.W.Frag) (W : WX) : TS :=
  (tRet (tChain oLt oLt (tOp oSub (tC (.int 0)) (tC (.int 1000000000000))) (tVar 0) (tC (.int 1000000000000))))
theorem so_is_place {K : PySem.W.Frag} (xs : Xs K xnames) (kc : KC K) : SS K (t_is_place K) e_is_place :=
  (ss_ret (fun W => (so_chain s2_pLt s2_pLt (so_op s2_pSub so_cint so_cint) so_var so_cint)))
def t_is_span (K : PySem.W.Frag) (W : WX) : TS :=
  (tRet (tAndV (tCall (spF K f_is_place) [] E0 (tCons (tOp (rIxT K) (tVar 0) (tC (.int 0))) tNil)) (tAndV (tCall (spF K f_is_place) [] E0 (tCons (tOp (rIxT K) (tVar 0) (tC (.int 1))) tNil)) (tOp oLt (tOp (rIxT K) (tVar 0) (tC (.int 0))) (tOp (rIxT K) (tVar 0) (tC (.int 1)))))))
theorem so_is_span {K : PySem.W.Frag} (xs : Xs K xnames) (kc : KC K) : SS K (t_is_span K) e_is_span :=
  (ss_ret (fun W => (so_and (so_pla (so_call0 (so_acons (so_op s2_pIxT so_var so_cint) so_anil))) (so_and (so_pla (so_call0 (so_acons (so_op s2_pIxT so_var so_cint) so_anil))) (so_op s2_pLt (so_op s2_pIxT so_var so_cint) (so_op s2_pIxT so_var so_cint))))))
def t_must_span (K : PySem.W.Frag) (W : WX) : TS :=
  (tIfS (tNot (tB (tCall (spF K f_is_span) [] E0 (tCons (tVar 0) tNil)))) (tRaise W (.ref (ga K "NoSpan"))) tNext)
theorem so_must_span {K : PySem.W.Frag} (xs : Xs K xnames) (kc : KC K) : SS K (t_must_span K) e_must_span :=
  (ss_if (fun W => (so_mNot (so_B (so_pla (so_call0 (so_acons so_var so_anil)))))) ss_raise ss_next)
def t_must_weight (K : PySem.W.Frag) (W : WX) : TS :=
  (tIfS (tNot (tTest (tChain oLe oLe (tC (.int 0)) (tVar 0) (tC (.int 1000000000))))) (tRaise W (.ref (ga K "NoWeight"))) tNext)
theorem so_must_weight {K : PySem.W.Frag} (xs : Xs K xnames) (kc : KC K) : SS K (t_must_weight K) e_must_weight :=
  (ss_if (fun W => (so_mNot (so_test (so_chain s2_pLe s2_pLe so_cint so_var so_cint)))) ss_raise ss_next)
def t_must_room (K : PySem.W.Frag) (W : WX) : TS :=
  (tIfS (tTest (tOp oGt (tVar 0) (tC (.int 60)))) (tRaise W (.ref (ga K "Full"))) tNext)
theorem so_must_room {K : PySem.W.Frag} (xs : Xs K xnames) (kc : KC K) : SS K (t_must_room K) e_must_room :=
  (ss_if (fun W => (so_test (so_op s2_pGt so_var so_cint))) ss_raise ss_next)
def t_Shelf_change (K : PySem.W.Frag) (W : WX) : TS :=
  (tSeq (tDrop (tBM K "list" rAppend (tFld K (tVar 0) "behind") (tCons (tFld K (tVar 0) "kept") tNil)))
    (tSeq (sFld K (tVar 0) (tLst tNil) "ahead")
    (sFld K (tVar 0) (tVar 1) "kept")))
theorem so_Shelf_change {K : PySem.W.Frag} (xs : Xs K xnames) (kc : KC K) : SS K (t_Shelf_change K) e_Shelf_change :=
  (ss_seq (ss_expr (fun W => (so_bm sm_pAppend (so_fld kc.c_Shelf kc.n_Shelf_behind so_var) (so_acons (so_fld kc.c_Shelf kc.n_Shelf_kept so_var) so_anil))))
    (ss_seq (ss_fld kc.c_Shelf kc.n_Shelf_ahead (fun W => (so_cel (so_lst so_anil))) (fun W => so_var))
    (ss_fld kc.c_Shelf kc.n_Shelf_kept (fun W => so_var) (fun W => so_var))))
def t_Shelf_set_one (K : PySem.W.Frag) (W : WX) : TS :=
  (tSeq (tAsg (tCB rDictD (tCons (tFld K (tVar 0) "kept") tNil)) (gName 4))
    (tSeq (sDPut (tVar 4) (tVar 1) (tTup (tCons (tVar 2) (tCons (tVar 3) tNil))))
    (tDrop (tMeth (He.ga K "Shelf") "change" (spF K f_Shelf_change) [] E0 (tVar 0) (tCons (tVar 4) tNil)))))
theorem so_Shelf_set_one {K : PySem.W.Frag} (xs : Xs K xnames) (kc : KC K) : SS K (t_Shelf_set_one K) e_Shelf_set_one :=
  (ss_seq (ss_set (fun W => (so_eCB sc_pDictD (so_acons (so_fld kc.c_Shelf kc.n_Shelf_kept so_var) so_anil))))
    (ss_seq (ss_dput (fun W => (so_tup (so_acons so_var (so_acons so_var so_anil)))) (fun W => so_var) (fun W => so_var))
    (ss_expr (fun W => (so_pla (so_meth so_var (so_acons so_var so_anil)))))))
def t_is_name (K : PySem.W.Frag) (W : WX) : TS :=
  (tRet (tAndV (tChain oLe oLe (tC (.int 1)) (tCB rLenTx (tCons (tVar 0) tNil)) (tC (.int 8))) (tCB (rAll K) (tCons (tLc (iStr (tVar 0)) (gName 1) tYes (tOp (rInSg false) (tVar 1) (tC (.str "abcdefghijklmnopqrstuvwxyz"))) [1]) tNil))))
theorem so_is_name {K : PySem.W.Frag} (xs : Xs K xnames) (kc : KC K) : SS K (t_is_name K) e_is_name :=
  (ss_ret (fun W => (so_and (so_chain s2_pLe s2_pLe so_cint (so_eCB sc_pLenS (so_acons so_var so_anil)) so_cint) (so_eCB sc_pAll (so_acons (so_dat (so_lc (vs := [1]) (so_wStr so_var) (sgw_name (by decide)) so_yes (so_op s2_pInSg so_var so_cstr))) so_anil)))))
def t_Shelf_put (K : PySem.W.Frag) (W : WX) : TS :=
  (tSeq (tIfS (tNot (tB (tCall (spF K f_is_name) [] E0 (tCons (tVar 1) tNil)))) (tRaise W (.ref (ga K "NoName"))) tNext)
    (tSeq (tIfS (tB (tOp (rDIn false) (tVar 1) (tFld K (tVar 0) "kept"))) (tRaise W (.ref (ga K "Twice"))) tNext)
    (tSeq (tDrop (tCallS (spF K f_must_span) (WE W) (tCons (tVar 2) tNil)))
    (tSeq (tDrop (tCallS (spF K f_must_weight) (WE W) (tCons (tVar 3) tNil)))
    (tSeq (tDrop (tCallS (spF K f_must_room) (WE W) (tCons (tOp oAdd (tCB rLenDK (tCons (tFld K (tVar 0) "kept") tNil)) (tC (.int 1))) tNil)))
    (tDrop (tMeth (He.ga K "Shelf") "set_one" (spF K f_Shelf_set_one) [] E0 (tVar 0) (tCons (tVar 1) (tCons (tVar 2) (tCons (tVar 3) tNil))))))))))
theorem so_Shelf_put {K : PySem.W.Frag} (xs : Xs K xnames) (kc : KC K) : SS K (t_Shelf_put K) e_Shelf_put :=
  (ss_seq (ss_if (fun W => (so_mNot (so_B (so_pla (so_call0 (so_acons so_var so_anil)))))) ss_raise ss_next)
    (ss_seq (ss_if (fun W => (so_B (so_op s2_pDIn so_var (so_fld kc.c_Shelf kc.n_Shelf_kept so_var)))) ss_raise ss_next)
    (ss_seq (ss_expr (fun W => (so_pla (so_call (so_acons so_var so_anil)))))
    (ss_seq (ss_expr (fun W => (so_pla (so_call (so_acons so_var so_anil)))))
    (ss_seq (ss_expr (fun W => (so_pla (so_call (so_acons (so_op s2_pAdd (so_eCB sc_pLenD (so_acons (so_fld kc.c_Shelf kc.n_Shelf_kept so_var) so_anil)) so_cint) so_anil)))))
    (ss_expr (fun W => (so_pla (so_meth so_var (so_acons so_var (so_acons so_var (so_acons so_var so_anil))))))))))))
def t_law_shelf (K : PySem.W.Frag) (W : WX) : TS :=
  (tSeq (tAsg (tMake (He.ga K "Shelf") (spF K f_Shelf___init__) [] E0 tNil) (gName 3))
    (tSeq (tAsg tDNewK (gName 4))
    (tSeq (tFor (iList K (tSl (rSlL K) (tCall (spF K f_law_order) [] E0 (tCons (tVar 0) (tCons (tVar 1) tNil))) tNoPart (tPart (tCall (spF K f_law_draw) [] E0 (tCons (tVar 0) (tCons (tC (.int 9)) tNil)))))) (gName 5)
    ((tSeq (sDPut (tVar 4) (tVar 5) (tCall (spF K f_law_span) [] E0 (tCons (tVar 0) (tCons (tVar 2) (tCons (tOp (rIxL K) (tLst (tCons (tC (.int 12)) (tCons (tOp oSub (tOp oPow (tC (.int 10)) (tC (.int 12))) (tC (.int 1))) tNil))) (tCall (spF K f_law_draw) [] E0 (tCons (tVar 0) (tCons (tC (.int 2)) tNil)))) tNil)))))
    (tDrop (tMethX (He.ga K "Shelf") "put" (spF K f_Shelf_put) (WE W) (tVar 3) (tCons (tVar 5) (tCons (tOp rDGet (tVar 4) (tVar 5)) (tCons (tCall (spF K f_law_draw) [] E0 (tCons (tVar 0) (tCons (tC (.int 9)) tNil))) tNil))))))))
    (tRet (tTup (tCons (tVar 3) (tCons (tVar 4) tNil)))))))
theorem so_law_shelf {K : PySem.W.Frag} (xs : Xs K xnames) (kc : KC K) : SS K (t_law_shelf K) e_law_shelf :=
  (ss_seq (ss_set (fun W => (so_make so_anil)))
    (ss_seq (ss_set (fun W => so_dnew))
    (ss_seq (ss_for (fun W => (so_wList (so_dat (so_sl (so_dat (so_call0 (so_acons so_var (so_acons so_var so_anil)))) so_none (so_some (so_pla (so_call0 (so_acons so_var (so_acons so_cint so_anil))))))))) sg_name
    (ss_seq (ss_dput (fun W => (so_pla (so_call0 (so_acons so_var (so_acons so_var (so_acons (so_op s2_pIxL (so_dat (so_lst (so_acons so_cint (so_acons (so_op s2_pSub (so_op s2_pPow so_cint so_cint) so_cint) so_anil)))) (so_pla (so_call0 (so_acons so_var (so_acons so_cint so_anil))))) so_anil)))))) (fun W => so_var) (fun W => so_var))
    (ss_expr (fun W => (so_pla (so_methS so_var (so_acons so_var (so_acons (so_op s2_pDGet so_var so_var) (so_acons (so_pla (so_call0 (so_acons so_var (so_acons so_cint so_anil)))) so_anil)))))))))
    (ss_ret (fun W => (so_tup (so_acons so_var (so_acons so_var so_anil))))))))
def t_Shelf_names (K : PySem.W.Frag) (W : WX) : TS :=
  (tRet (tCB rSortDK (tCons (tFld K (tVar 0) "kept") tNil)))
theorem so_Shelf_names {K : PySem.W.Frag} (xs : Xs K xnames) (kc : KC K) : SS K (t_Shelf_names K) e_Shelf_names :=
  (ss_ret (fun W => (so_cel (so_fCB sc_pSortD (so_acons (so_fld kc.c_Shelf kc.n_Shelf_kept so_var) so_anil)))))
def t_touches (K : PySem.W.Frag) (W : WX) : TS :=
  (tRet (tAndV (tOp oLt (tOp (rIxT K) (tVar 0) (tC (.int 0))) (tOp (rIxT K) (tVar 1) (tC (.int 1)))) (tOp oLt (tOp (rIxT K) (tVar 1) (tC (.int 0))) (tOp (rIxT K) (tVar 0) (tC (.int 1))))))
theorem so_touches {K : PySem.W.Frag} (xs : Xs K xnames) (kc : KC K) : SS K (t_touches K) e_touches :=
  (ss_ret (fun W => (so_and (so_op s2_pLt (so_op s2_pIxT so_var so_cint) (so_op s2_pIxT so_var so_cint)) (so_op s2_pLt (so_op s2_pIxT so_var so_cint) (so_op s2_pIxT so_var so_cint)))))
def t_Shelf_must_have (K : PySem.W.Frag) (W : WX) : TS :=
  (tIfS (tB (tOp (rDIn true) (tVar 1) (tFld K (tVar 0) "kept"))) (tRaise W (.ref (ga K "NoName"))) tNext)
theorem so_Shelf_must_have {K : PySem.W.Frag} (xs : Xs K xnames) (kc : KC K) : SS K (t_Shelf_must_have K) e_Shelf_must_have :=
  (ss_if (fun W => (so_B (so_op s2_pDIn so_var (so_fld kc.c_Shelf kc.n_Shelf_kept so_var)))) ss_raise ss_next)
def t_Shelf_span (K : PySem.W.Frag) (W : WX) : TS :=
  (tSeq (tDrop (tMethX (He.ga K "Shelf") "must_have" (spF K f_Shelf_must_have) (WE W) (tVar 0) (tCons (tVar 1) tNil)))
    (tRet (tOp (rIxT K) (tOp rDGet (tFld K (tVar 0) "kept") (tVar 1)) (tC (.int 0)))))
theorem so_Shelf_span {K : PySem.W.Frag} (xs : Xs K xnames) (kc : KC K) : SS K (t_Shelf_span K) e_Shelf_span :=
  (ss_seq (ss_expr (fun W => (so_pla (so_methS so_var (so_acons so_var so_anil)))))
    (ss_ret (fun W => (so_op s2_pIxT (so_op s2_pDGet (so_fld kc.c_Shelf kc.n_Shelf_kept so_var) so_var) so_cint))))
def t_clashes (K : PySem.W.Frag) (W : WX) : TS :=
  (tSeq (tAsg (tLst tNil) (gName 2))
    (tSeq (tFor (iList K (tMeth (He.ga K "Shelf") "names" (spF K f_Shelf_names) [] E0 (tVar 0) tNil)) (gName 3)
    ((tFor (iList K (tMeth (He.ga K "Shelf") "names" (spF K f_Shelf_names) [] E0 (tVar 1) tNil)) (gName 4)
    ((tIfS (tB (tCall (spF K f_touches) [] E0 (tCons (tMethX (He.ga K "Shelf") "span" (spF K f_Shelf_span) (WE W) (tVar 0) (tCons (tVar 3) tNil)) (tCons (tMethX (He.ga K "Shelf") "span" (spF K f_Shelf_span) (WE W) (tVar 1) (tCons (tVar 4) tNil)) tNil)))) (tDrop (tBM K "list" rAppend (tVar 2) (tCons (tTup (tCons (tVar 3) (tCons (tVar 4) tNil))) tNil))) tNext)))))
    (tRet (tVar 2))))
theorem so_clashes {K : PySem.W.Frag} (xs : Xs K xnames) (kc : KC K) : SS K (t_clashes K) e_clashes :=
  (ss_seq (ss_set (fun W => (so_cel (so_lst so_anil))))
    (ss_seq (ss_for (fun W => (so_wList (so_dat (so_meth so_var so_anil)))) sg_name
    (ss_for (fun W => (so_wList (so_dat (so_meth so_var so_anil)))) sg_name
    (ss_if (fun W => (so_B (so_pla (so_call0 (so_acons (so_pla (so_methS so_var (so_acons so_var so_anil))) (so_acons (so_pla (so_methS so_var (so_acons so_var so_anil))) so_anil)))))) (ss_expr (fun W => (so_bm sm_pAppend so_var (so_acons (so_tup (so_acons so_var (so_acons so_var so_anil))) so_anil)))) ss_next)))
    (ss_ret (fun W => so_var))))
def t_law_meet (K : PySem.W.Frag) (W : WX) : TS :=
  (tRet (tAndV (tOp oLt (tOp (rIxT K) (tVar 0) (tC (.int 0))) (tOp (rIxT K) (tVar 1) (tC (.int 1)))) (tOp oLt (tOp (rIxT K) (tVar 1) (tC (.int 0))) (tOp (rIxT K) (tVar 0) (tC (.int 1))))))
theorem so_law_meet {K : PySem.W.Frag} (xs : Xs K xnames) (kc : KC K) : SS K (t_law_meet K) e_law_meet_2 :=
  (ss_ret (fun W => (so_and (so_op s2_pLt (so_op s2_pIxT so_var so_cint) (so_op s2_pIxT so_var so_cint)) (so_op s2_pLt (so_op s2_pIxT so_var so_cint) (so_op s2_pIxT so_var so_cint)))))
def t_law_clashes (K : PySem.W.Frag) (W : WX) : TS :=
  (tSeq (tAsg (tLst tNil) (gName 2))
    (tSeq (tFor (iList K (tCB rSortDK (tCons (tVar 0) tNil))) (gName 3)
    ((tAsg (tOp rCat (tVar 2) (tLc (iList K (tCB rSortDK (tCons (tVar 1) tNil))) (gName 4) (tB (tCall (spF K f_law_meet_2) [] E0 (tCons (tOp rDGet (tVar 0) (tVar 3)) (tCons (tOp rDGet (tVar 1) (tVar 4)) tNil)))) (tTup (tCons (tVar 3) (tCons (tVar 4) tNil))) [4])) (gName 2))))
    (tRet (tVar 2))))
theorem so_law_clashes {K : PySem.W.Frag} (xs : Xs K xnames) (kc : KC K) : SS K (t_law_clashes K) e_law_clashes :=
  (ss_seq (ss_set (fun W => (so_cel (so_lst so_anil))))
    (ss_seq (ss_for (fun W => (so_wList (so_dat (so_fCB sc_pSortD (so_acons so_var so_anil))))) sg_name
    (ss_set (fun W => (so_cel (so_fop s2_pCat so_var (so_dat (so_lc (vs := [4]) (so_wList (so_dat (so_fCB sc_pSortD (so_acons so_var so_anil)))) (sgw_name (by decide)) (so_B (so_pla (so_call0 (so_acons (so_op s2_pDGet so_var so_var) (so_acons (so_op s2_pDGet so_var so_var) so_anil))))) (so_tup (so_acons so_var (so_acons so_var so_anil))))))))))
    (ss_ret (fun W => so_var))))
def t_law_holds (K : PySem.W.Frag) (W : WX) : TS :=
  (tRet (tOp oGt (tCB (Evl.rLenS K) (tCons (tLockE (tLc (iKeys (tVar 0)) (gName 2) (tTest (tChain oLe oLt (tOp (rIxT K) (tOp rDGet (tVar 0) (tVar 2)) (tC (.int 0))) (tVar 1) (tOp (rIxT K) (tOp rDGet (tVar 0) (tVar 2)) (tC (.int 1))))) (tVar 2) [2])) tNil)) (tC (.int 0))))
theorem so_law_holds {K : PySem.W.Frag} (xs : Xs K xnames) (kc : KC K) : SS K (t_law_holds K) e_law_holds_3 :=
  (ss_ret (fun W => (so_op s2_pGt (so_eCB sc_pLen (so_acons (so_dat (so_fLock (e := (eVar 0)) (so_lc (vs := [2]) (so_wKeys so_var) (sgw_name (by decide)) (so_test (so_chain s2_pLe s2_pLt (so_op s2_pIxT (so_op s2_pDGet so_var so_var) so_cint) so_var (so_op s2_pIxT (so_op s2_pDGet so_var so_var) so_cint))) so_var))) so_anil)) so_cint)))
def t_law_pieces (K : PySem.W.Frag) (W : WX) : TS :=
  (tSeq (tAsg (tLst tNil) (gName 3))
    (tSeq (tFor (iList K (tLst (tCons (tVar 0) (tCons (tVar 1) tNil)))) (gName 4)
    ((tLockX (fun W => (tFor (iKeys (tVar 4)) (gName 5)
    ((tAsg (tOp rCat (tVar 3) (tLst (tCons (tOp (rIxT K) (tOp rDGet (tVar 4) (tVar 5)) (tC (.int 0))) (tCons (tOp (rIxT K) (tOp rDGet (tVar 4) (tVar 5)) (tC (.int 1))) tNil)))) (gName 3))))) W)))
    (tSeq (tAsg (tSortSet K (tVar 3)) (gName 3))
    (tSeq (tAsg (tLst tNil) (gName 6))
    (tSeq (tFor (iZip K (tCons (tVar 3) (tCons (tSl (rSlL K) (tVar 3) (tPart (tC (.int 1))) tNoPart) tNil))) (gTup K 2 (gCons (gName 7) (gCons (gName 8) gNil)))
    ((tIfS (tAnd (tB (tCall (spF K f_law_holds_3) [] E0 (tCons (tVar 0) (tCons (tVar 7) tNil)))) (tTest (tOp rEq (tCall (spF K f_law_holds_3) [] E0 (tCons (tVar 1) (tCons (tVar 7) tNil))) (tVar 2)))) (tIfS (tAnd (tTest (tOp (rNeD K) (tVar 6) (tLst tNil))) (tTest (tOp rEq (tOp (rIxT K) (tOp (rIxL K) (tVar 6) (tUn oNeg (tC (.int 1)))) (tC (.int 1))) (tVar 7)))) (tAsg (tTup (tCons (tOp (rIxT K) (tOp (rIxL K) (tVar 6) (tUn oNeg (tC (.int 1)))) (tC (.int 0))) (tCons (tVar 8) tNil))) (gSub (tVar 6) (tUn oNeg (tC (.int 1))) rSetL)) (tDrop (tBM K "list" rAppend (tVar 6) (tCons (tTup (tCons (tVar 7) (tCons (tVar 8) tNil))) tNil)))) tNext)))
    (tRet (tVar 6)))))))
theorem so_law_pieces {K : PySem.W.Frag} (xs : Xs K xnames) (kc : KC K) : SS K (t_law_pieces K) e_law_pieces_2 :=
  (ss_seq (ss_set (fun W => (so_dat (so_lst so_anil))))
    (ss_seq (ss_for (fun W => (so_wList (so_dat (so_lst (so_acons so_var (so_acons so_var so_anil)))))) sg_name
    (ss_lockX (e := (eVar 4)) (ss_for (fun W => (so_wKeys so_var)) sg_name
    (ss_set (fun W => (so_dat (so_fop s2_pCat so_var (so_dat (so_lst (so_acons (so_op s2_pIxT (so_op s2_pDGet so_var so_var) so_cint) (so_acons (so_op s2_pIxT (so_op s2_pDGet so_var so_var) so_cint) so_anil)))))))))))
    (ss_seq (ss_set (fun W => (so_dat (so_sortSet so_var))))
    (ss_seq (ss_set (fun W => (so_cel (so_lst so_anil))))
    (ss_seq (ss_for (fun W => (so_wZip (so_acons so_var (so_acons (so_dat (so_sl so_var (so_some so_cint) so_none)) so_anil)))) (sg_tup (.cons (.cons .nil)) (sgs_cons sg_name (sgs_cons sg_name sgs_nil)))
    (ss_if (fun W => (so_mAnd (so_B (so_pla (so_call0 (so_acons so_var (so_acons so_var so_anil))))) (so_test (so_op s2_pEq (so_pla (so_call0 (so_acons so_var (so_acons so_var so_anil)))) so_var)))) (ss_if (fun W => (so_mAnd (so_test (so_op s2_pNeD so_var (so_dat (so_lst so_anil)))) (so_test (so_op s2_pEq (so_op s2_pIxT (so_op s2_pIxL so_var (so_un s1_pNeg so_cint)) so_cint) so_var)))) (ss_setI (fun W => (so_tup (so_acons (so_op s2_pIxT (so_op s2_pIxL so_var (so_un s1_pNeg so_cint)) so_cint) (so_acons so_var so_anil)))) (fun W => so_var) (fun W => (so_un s1_pNeg so_cint))) (ss_expr (fun W => (so_bm sm_pAppend so_var (so_acons (so_tup (so_acons so_var (so_acons so_var so_anil))) so_anil))))) ss_next))
    (ss_ret (fun W => so_var)))))))
def t_shared_by (K : PySem.W.Frag) (W : WX) : TS :=
  (tSeq (tAsg (tLst tNil) (gName 2))
    (tSeq (tAsg (tC (.int 0)) (gName 3))
    (tSeq (tFor (iList K (tVar 0)) (gTup K 2 (gCons (gName 4) (gCons (gName 5) gNil)))
    ((tSeq (tWhile (tAnd (tTest (tOp oLt (tVar 3) (tCB (Evl.rLenS K) (tCons (tVar 1) tNil)))) (tTest (tOp oLe (tOp (rIxT K) (tOp (rIxL K) (tVar 1) (tVar 3)) (tC (.int 1))) (tVar 4))))
    ((tAug 3 (tC (.int 1)) (ipI (fun a b => a + b)))))
    (tSeq (tAsg (tVar 3) (gName 6))
    (tWhile (tAnd (tTest (tOp oLt (tVar 6) (tCB (Evl.rLenS K) (tCons (tVar 1) tNil)))) (tTest (tOp oLt (tOp (rIxT K) (tOp (rIxL K) (tVar 1) (tVar 6)) (tC (.int 0))) (tVar 5))))
    ((tSeq (tDrop (tBM K "list" rAppend (tVar 2) (tCons (tTup (tCons (tCB Evl.rMax2 (tCons (tVar 4) (tCons (tOp (rIxT K) (tOp (rIxL K) (tVar 1) (tVar 6)) (tC (.int 0))) tNil))) (tCons (tCB rMin2 (tCons (tVar 5) (tCons (tOp (rIxT K) (tOp (rIxL K) (tVar 1) (tVar 6)) (tC (.int 1))) tNil))) tNil))) tNil)))
    (tAug 6 (tC (.int 1)) (ipI (fun a b => a + b))))))))))
    (tRet (tVar 2)))))
theorem so_shared_by {K : PySem.W.Frag} (xs : Xs K xnames) (kc : KC K) : SS K (t_shared_by K) e_shared_by :=
  (ss_seq (ss_set (fun W => (so_cel (so_lst so_anil))))
    (ss_seq (ss_set (fun W => so_cint))
    (ss_seq (ss_for (fun W => (so_wList so_var)) (sg_tup (.cons (.cons .nil)) (sgs_cons sg_name (sgs_cons sg_name sgs_nil)))
    (ss_seq (ss_while (fun W => (so_mAnd (so_test (so_op s2_pLt so_var (so_eCB sc_pLen (so_acons so_var so_anil)))) (so_test (so_op s2_pLe (so_op s2_pIxT (so_op s2_pIxL so_var so_var) so_cint) so_var))))
    (ss_aug (fun W => so_cint)))
    (ss_seq (ss_set (fun W => so_var))
    (ss_while (fun W => (so_mAnd (so_test (so_op s2_pLt so_var (so_eCB sc_pLen (so_acons so_var so_anil)))) (so_test (so_op s2_pLt (so_op s2_pIxT (so_op s2_pIxL so_var so_var) so_cint) so_var))))
    (ss_seq (ss_expr (fun W => (so_bm sm_pAppend so_var (so_acons (so_tup (so_acons (so_eCB sc_pMax2 (so_acons so_var (so_acons (so_op s2_pIxT (so_op s2_pIxL so_var so_var) so_cint) so_anil))) (so_acons (so_eCB sc_pMin2 (so_acons so_var (so_acons (so_op s2_pIxT (so_op s2_pIxL so_var so_var) so_cint) so_anil))) so_anil))) so_anil))))
    (ss_aug (fun W => so_cint)))))))
    (ss_ret (fun W => so_var)))))
def t_poured (K : PySem.W.Frag) (W : WX) : TS :=
  (tSeq (tAsg (tLst tNil) (gName 1))
    (tSeq (tFor (iList K (tCB (rSortedPO K) (tCons (tVar 0) tNil))) (gTup K 2 (gCons (gName 2) (gCons (gName 3) gNil)))
    ((tIfS (tAnd (tTest (tOp (rNeD K) (tVar 1) (tLst tNil))) (tTest (tOp oLe (tVar 2) (tOp (rIxT K) (tOp (rIxL K) (tVar 1) (tUn oNeg (tC (.int 1)))) (tC (.int 1)))))) (tAsg (tTup (tCons (tOp (rIxT K) (tOp (rIxL K) (tVar 1) (tUn oNeg (tC (.int 1)))) (tC (.int 0))) (tCons (tCB Evl.rMax2 (tCons (tVar 3) (tCons (tOp (rIxT K) (tOp (rIxL K) (tVar 1) (tUn oNeg (tC (.int 1)))) (tC (.int 1))) tNil))) tNil))) (gSub (tVar 1) (tUn oNeg (tC (.int 1))) rSetL)) (tDrop (tBM K "list" rAppend (tVar 1) (tCons (tTup (tCons (tVar 2) (tCons (tVar 3) tNil))) tNil))))))
    (tRet (tVar 1))))
theorem so_poured {K : PySem.W.Frag} (xs : Xs K xnames) (kc : KC K) : SS K (t_poured K) e_poured :=
  (ss_seq (ss_set (fun W => (so_cel (so_lst so_anil))))
    (ss_seq (ss_for (fun W => (so_wList (so_dat (so_fCB sc_pSortP (so_acons so_var so_anil))))) (sg_tup (.cons (.cons .nil)) (sgs_cons sg_name (sgs_cons sg_name sgs_nil)))
    (ss_if (fun W => (so_mAnd (so_test (so_op s2_pNeD so_var (so_dat (so_lst so_anil)))) (so_test (so_op s2_pLe so_var (so_op s2_pIxT (so_op s2_pIxL so_var (so_un s1_pNeg so_cint)) so_cint))))) (ss_setI (fun W => (so_tup (so_acons (so_op s2_pIxT (so_op s2_pIxL so_var (so_un s1_pNeg so_cint)) so_cint) (so_acons (so_eCB sc_pMax2 (so_acons so_var (so_acons (so_op s2_pIxT (so_op s2_pIxL so_var (so_un s1_pNeg so_cint)) so_cint) so_anil))) so_anil)))) (fun W => so_var) (fun W => (so_un s1_pNeg so_cint))) (ss_expr (fun W => (so_bm sm_pAppend so_var (so_acons (so_tup (so_acons so_var (so_acons so_var so_anil))) so_anil))))))
    (ss_ret (fun W => so_var))))
def t_Shelf_spans (K : PySem.W.Frag) (W : WX) : TS :=
  (tRet (tLc (iList K (tMeth (He.ga K "Shelf") "names" (spF K f_Shelf_names) [] E0 (tVar 0) tNil)) (gName 1) tYes (tOp (rIxT K) (tOp rDGet (tFld K (tVar 0) "kept") (tVar 1)) (tC (.int 0))) [1]))
theorem so_Shelf_spans {K : PySem.W.Frag} (xs : Xs K xnames) (kc : KC K) : SS K (t_Shelf_spans K) e_Shelf_spans :=
  (ss_ret (fun W => (so_cel (so_lc (vs := [1]) (so_wList (so_dat (so_meth so_var so_anil))) (sgw_name (by decide)) so_yes (so_op s2_pIxT (so_op s2_pDGet (so_fld kc.c_Shelf kc.n_Shelf_kept so_var) so_var) so_cint)))))
def t_Shelf_cover (K : PySem.W.Frag) (W : WX) : TS :=
  (tRet (tCall (spF K f_poured) [] E0 (tCons (tMeth (He.ga K "Shelf") "spans" (spF K f_Shelf_spans) [] E0 (tVar 0) tNil) tNil)))
theorem so_Shelf_cover {K : PySem.W.Frag} (xs : Xs K xnames) (kc : KC K) : SS K (t_Shelf_cover K) e_Shelf_cover :=
  (ss_ret (fun W => (so_cel (so_call0 (so_acons (so_dat (so_meth so_var so_anil)) so_anil)))))
def t_shared (K : PySem.W.Frag) (W : WX) : TS :=
  (tRet (tCall (spF K f_shared_by) [] E0 (tCons (tMeth (He.ga K "Shelf") "cover" (spF K f_Shelf_cover) [] E0 (tVar 0) tNil) (tCons (tMeth (He.ga K "Shelf") "cover" (spF K f_Shelf_cover) [] E0 (tVar 1) tNil) tNil))))
theorem so_shared {K : PySem.W.Frag} (xs : Xs K xnames) (kc : KC K) : SS K (t_shared K) e_shared :=
  (ss_ret (fun W => (so_cel (so_call0 (so_acons (so_dat (so_meth so_var so_anil)) (so_acons (so_dat (so_meth so_var so_anil)) so_anil))))))
def t_left_of (K : PySem.W.Frag) (W : WX) : TS :=
  (tSeq (tAsg (tLst tNil) (gName 2))
    (tSeq (tFor (iList K (tVar 0)) (gTup K 2 (gCons (gName 3) (gCons (gName 4) gNil)))
    ((tSeq (tFor (iList K (tCall (spF K f_shared_by) [] E0 (tCons (tLst (tCons (tTup (tCons (tVar 3) (tCons (tVar 4) tNil))) tNil)) (tCons (tVar 1) tNil)))) (gTup K 2 (gCons (gName 5) (gCons (gName 6) gNil)))
    ((tSeq (tIfS (tTest (tOp oLt (tVar 3) (tVar 5))) (tDrop (tBM K "list" rAppend (tVar 2) (tCons (tTup (tCons (tVar 3) (tCons (tVar 5) tNil))) tNil))) tNext)
    (tAsg (tVar 6) (gName 3)))))
    (tIfS (tTest (tOp oLt (tVar 3) (tVar 4))) (tDrop (tBM K "list" rAppend (tVar 2) (tCons (tTup (tCons (tVar 3) (tCons (tVar 4) tNil))) tNil))) tNext))))
    (tRet (tVar 2))))
theorem so_left_of {K : PySem.W.Frag} (xs : Xs K xnames) (kc : KC K) : SS K (t_left_of K) e_left_of :=
  (ss_seq (ss_set (fun W => (so_cel (so_lst so_anil))))
    (ss_seq (ss_for (fun W => (so_wList so_var)) (sg_tup (.cons (.cons .nil)) (sgs_cons sg_name (sgs_cons sg_name sgs_nil)))
    (ss_seq (ss_for (fun W => (so_wList (so_dat (so_call0 (so_acons (so_dat (so_lst (so_acons (so_tup (so_acons so_var (so_acons so_var so_anil))) so_anil))) (so_acons so_var so_anil)))))) (sg_tup (.cons (.cons .nil)) (sgs_cons sg_name (sgs_cons sg_name sgs_nil)))
    (ss_seq (ss_if (fun W => (so_test (so_op s2_pLt so_var so_var))) (ss_expr (fun W => (so_bm sm_pAppend so_var (so_acons (so_tup (so_acons so_var (so_acons so_var so_anil))) so_anil)))) ss_next)
    (ss_set (fun W => so_var))))
    (ss_if (fun W => (so_test (so_op s2_pLt so_var so_var))) (ss_expr (fun W => (so_bm sm_pAppend so_var (so_acons (so_tup (so_acons so_var (so_acons so_var so_anil))) so_anil)))) ss_next)))
    (ss_ret (fun W => so_var))))
def t_spare (K : PySem.W.Frag) (W : WX) : TS :=
  (tRet (tCall (spF K f_left_of) [] E0 (tCons (tMeth (He.ga K "Shelf") "cover" (spF K f_Shelf_cover) [] E0 (tVar 0) tNil) (tCons (tMeth (He.ga K "Shelf") "cover" (spF K f_Shelf_cover) [] E0 (tVar 1) tNil) tNil))))
theorem so_spare {K : PySem.W.Frag} (xs : Xs K xnames) (kc : KC K) : SS K (t_spare K) e_spare :=
  (ss_ret (fun W => (so_cel (so_call0 (so_acons (so_dat (so_meth so_var so_anil)) (so_acons (so_dat (so_meth so_var so_anil)) so_anil))))))
def t_law_right (K : PySem.W.Frag) (W : WX) : TS :=
  (tSeq (tAsg (tCall (spF K f_law_clashes) [] E0 (tCons (tOp (rIxT K) (tVar 0) (tC (.int 1))) (tCons (tOp (rIxT K) (tVar 1) (tC (.int 1))) tNil))) (gName 2))
    (tSeq (tAsg (tLst (tCons (tCall (spF K f_law_pieces_2) [] E0 (tCons (tOp (rIxT K) (tVar 0) (tC (.int 1))) (tCons (tOp (rIxT K) (tVar 1) (tC (.int 1))) (tCons (tC (.bl true)) tNil)))) (tCons (tCall (spF K f_law_pieces_2) [] E0 (tCons (tOp (rIxT K) (tVar 0) (tC (.int 1))) (tCons (tOp (rIxT K) (tVar 1) (tC (.int 1))) (tCons (tC (.bl false)) tNil)))) tNil))) (gName 3))
    (tSeq (tFor (iRng1 (tCons (tC (.int 3)) tNil)) (gName 4)
    ((tSeq (tAsg (tLst (tCons (tCallS (spF K f_clashes) (WE W) (tCons (tOp (rIxT K) (tVar 0) (tC (.int 0))) (tCons (tOp (rIxT K) (tVar 1) (tC (.int 0))) tNil))) (tCons (tCall (spF K f_shared) [] E0 (tCons (tOp (rIxT K) (tVar 0) (tC (.int 0))) (tCons (tOp (rIxT K) (tVar 1) (tC (.int 0))) tNil))) (tCons (tCall (spF K f_spare) [] E0 (tCons (tOp (rIxT K) (tVar 0) (tC (.int 0))) (tCons (tOp (rIxT K) (tVar 1) (tC (.int 0))) tNil))) tNil)))) (gName 5))
    (tSeq (tIfS (tOr (tTest (tOp (rNeD K) (tVar 5) (tOp rCat (tLst (tCons (tVar 2) tNil)) (tVar 3)))) (tTest (tOp oGt (tCB (Evl.rLenS K) (tCons (tLc (iList K (tVar 5)) (gName 6) (tNot (tB (tCB (rIsi K) (tCons (tVar 6) (tCons (tC (.ty "list")) tNil))))) (tVar 6) [6]) tNil)) (tC (.int 0))))) (tRet (tC (.bl false))) tNext)
    (tSeq (tFor (iList K (tVar 5)) (gName 6)
    ((tDrop (tBM K "list" rAppend (tVar 6) (tCons (tC .non) tNil)))))
    (tFor (iList K (tLst (tCons (tVar 0) (tCons (tVar 1) tNil)))) (gTup K 2 (gCons (gName 7) (gCons (gName 8) gNil)))
    ((tSeq (tIfS (tTest (tOp (rNeD K) (tMeth (He.ga K "Shelf") "names" (spF K f_Shelf_names) [] E0 (tVar 7) tNil) (tCB rSortDK (tCons (tVar 8) tNil)))) (tRet (tC (.bl false))) tNext)
    (tIfS (tTest (tOp oGt (tCB (Evl.rLenS K) (tCons (tLockE (tLc (iKeys (tVar 8)) (gName 9) (tTest (tOp (rNeD K) (tMeth (He.ga K "Shelf") "span" (spF K f_Shelf_span) [] E0 (tVar 7) (tCons (tVar 9) tNil)) (tOp rDGet (tVar 8) (tVar 9)))) (tVar 9) [9])) tNil)) (tC (.int 0)))) (tRet (tC (.bl false))) tNext)))))))))
    (tRet (tC (.bl true))))))
theorem so_law_right {K : PySem.W.Frag} (xs : Xs K xnames) (kc : KC K) : SS K (t_law_right K) e_law_right_10 :=
  (ss_seq (ss_set (fun W => (so_dat (so_call0 (so_acons (so_op s2_pIxT so_var so_cint) (so_acons (so_op s2_pIxT so_var so_cint) so_anil))))))
    (ss_seq (ss_set (fun W => (so_dat (so_lst (so_acons (so_dat (so_call0 (so_acons (so_op s2_pIxT so_var so_cint) (so_acons (so_op s2_pIxT so_var so_cint) (so_acons so_cbl so_anil))))) (so_acons (so_dat (so_call0 (so_acons (so_op s2_pIxT so_var so_cint) (so_acons (so_op s2_pIxT so_var so_cint) (so_acons so_cbl so_anil))))) so_anil))))))
    (ss_seq (ss_for (fun W => (so_wRng1 (so_acons so_cint so_anil))) sg_name
    (ss_seq (ss_set (fun W => (so_dat (so_lst (so_acons (so_cel (so_call (so_acons (so_op s2_pIxT so_var so_cint) (so_acons (so_op s2_pIxT so_var so_cint) so_anil)))) (so_acons (so_cel (so_call0 (so_acons (so_op s2_pIxT so_var so_cint) (so_acons (so_op s2_pIxT so_var so_cint) so_anil)))) (so_acons (so_cel (so_call0 (so_acons (so_op s2_pIxT so_var so_cint) (so_acons (so_op s2_pIxT so_var so_cint) so_anil)))) so_anil)))))))
    (ss_seq (ss_if (fun W => (so_mOr (so_test (so_op s2_pNeT so_var (so_dat (so_fop s2_pCat (so_dat (so_lst (so_acons so_var so_anil))) so_var)))) (so_test (so_op s2_pGt (so_eCB sc_pLen (so_acons (so_dat (so_lc (vs := [6]) (so_wList so_var) (sgw_name (by decide)) (so_mNot (so_B (so_isT ka_list so_var))) so_var)) so_anil)) so_cint)))) (ss_ret (fun W => so_cbl)) ss_next)
    (ss_seq (ss_for (fun W => (so_wList so_var)) sg_name
    (ss_expr (fun W => (so_bm sm_pAppend so_var (so_acons so_cnon so_anil)))))
    (ss_for (fun W => (so_wList (so_dat (so_lst (so_acons so_var (so_acons so_var so_anil)))))) (sg_tup (.cons (.cons .nil)) (sgs_cons sg_name (sgs_cons sg_name sgs_nil)))
    (ss_seq (ss_if (fun W => (so_test (so_op s2_pNeD (so_dat (so_meth so_var so_anil)) (so_dat (so_fCB sc_pSortD (so_acons so_var so_anil)))))) (ss_ret (fun W => so_cbl)) ss_next)
    (ss_if (fun W => (so_test (so_op s2_pGt (so_eCB sc_pLen (so_acons (so_dat (so_fLock (e := (eVar 8)) (so_lc (vs := [9]) (so_wKeys so_var) (sgw_name (by decide)) (so_test (so_op s2_pNeD (so_pla (so_meth so_var (so_acons so_var so_anil))) (so_op s2_pDGet so_var so_var))) so_var))) so_anil)) so_cint))) (ss_ret (fun W => so_cbl)) ss_next)))))))
    (ss_ret (fun W => so_cbl)))))
def t_law (K : PySem.W.Frag) (W : WX) : TS :=
  (tSeq (tAsg (tCall (spF K f_law_purse) [] E0 (tCons (tVar 0) (tCons (tC (.int 0)) tNil))) (gName 1))
    (tSeq (tAsg (tCall (spF K f_law_names) [] E0 (tCons (tVar 1) (tCons (tC (.int 8)) tNil))) (gName 2))
    (tSeq (tAsg (tLst tNil) (gName 3))
    (tSeq (tAsg (tCall (spF K f_law_shelf) [] E0 (tCons (tVar 1) (tCons (tVar 2) (tCons (tVar 3) tNil)))) (gName 4))
    (tSeq (tAsg (tCall (spF K f_law_shelf) [] E0 (tCons (tVar 1) (tCons (tOp rCat (tVar 2) (tLst (tCons (tC (.str "zzzzzzzz")) tNil))) (tCons (tVar 3) tNil)))) (gName 5))
    (tSeq (tIfS (tOr (tNot (tB (tCall (spF K f_law_right_10) [] E0 (tCons (tVar 4) (tCons (tVar 5) tNil))))) (tOr (tNot (tB (tCall (spF K f_law_right_10) [] E0 (tCons (tVar 5) (tCons (tVar 4) tNil))))) (tNot (tB (tCall (spF K f_law_right_10) [] E0 (tCons (tVar 4) (tCons (tVar 4) tNil))))))) (tRet (tC (.bl false))) tNext)
    (tSeq (tAsg (tCB (rSortedQ K) (tCons (tLc (iList K (tCall (spF K f_clashes) [] E0 (tCons (tOp (rIxT K) (tVar 5) (tC (.int 0))) (tCons (tOp (rIxT K) (tVar 4) (tC (.int 0))) tNil)))) (gTup K 2 (gCons (gName 6) (gCons (gName 7) gNil))) tYes (tTup (tCons (tVar 7) (tCons (tVar 6) tNil))) [6, 7]) tNil)) (gName 8))
    (tSeq (tIfS (tTest (tOp (rNeD K) (tVar 8) (tCall (spF K f_clashes) [] E0 (tCons (tOp (rIxT K) (tVar 4) (tC (.int 0))) (tCons (tOp (rIxT K) (tVar 5) (tC (.int 0))) tNil))))) (tRet (tC (.bl false))) tNext)
    (tSeq (tAsg (tCall (spF K f_clashes) [] E0 (tCons (tOp (rIxT K) (tVar 4) (tC (.int 0))) (tCons (tOp (rIxT K) (tVar 4) (tC (.int 0))) tNil))) (gName 9))
    (tRet (tAndV (tOp rEq (tCB (Evl.rLenS K) (tCons (tLockE (tLc (iKeys (tOp (rIxT K) (tVar 4) (tC (.int 1)))) (gName 10) (tTest (tOp (rInDn K true) (tTup (tCons (tVar 10) (tCons (tVar 10) tNil))) (tVar 9))) (tVar 10) [10])) tNil)) (tC (.int 0))) (tCall (spF K f_law_right_10) [] E0 (tCons (tVar 4) (tCons (tTup (tCons (tMake (He.ga K "Shelf") (spF K f_Shelf___init__) [] E0 tNil) (tCons tDNewK tNil))) tNil))))))))))))))
theorem so_law {K : PySem.W.Frag} (xs : Xs K xnames) (kc : KC K) : SS K (t_law K) e_law_k70 :=
  (ss_seq (ss_set (fun W => (so_cel (so_call0 (so_acons so_var (so_acons so_cint so_anil))))))
    (ss_seq (ss_set (fun W => (so_dat (so_call0 (so_acons so_var (so_acons so_cint so_anil))))))
    (ss_seq (ss_set (fun W => (so_cel (so_lst so_anil))))
    (ss_seq (ss_set (fun W => (so_dat (so_call0 (so_acons so_var (so_acons so_var (so_acons so_var so_anil)))))))
    (ss_seq (ss_set (fun W => (so_dat (so_call0 (so_acons so_var (so_acons (so_dat (so_fop s2_pCat so_var (so_dat (so_lst (so_acons so_cstr so_anil))))) (so_acons so_var so_anil)))))))
    (ss_seq (ss_if (fun W => (so_mOr (so_mNot (so_B (so_pla (so_call0 (so_acons so_var (so_acons so_var so_anil)))))) (so_mOr (so_mNot (so_B (so_pla (so_call0 (so_acons so_var (so_acons so_var so_anil)))))) (so_mNot (so_B (so_pla (so_call0 (so_acons so_var (so_acons so_var so_anil))))))))) (ss_ret (fun W => so_cbl)) ss_next)
    (ss_seq (ss_set (fun W => (so_dat (so_fCB sc_pSortQ (so_acons (so_dat (so_lc (vs := [6, 7]) (so_wList (so_dat (so_call0 (so_acons (so_op s2_pIxT so_var so_cint) (so_acons (so_op s2_pIxT so_var so_cint) so_anil))))) (sgw_tup (.cons (.cons .nil)) (sgws_cons (sgw_name (by decide)) (sgws_cons (sgw_name (by decide)) sgws_nil))) so_yes (so_tup (so_acons so_var (so_acons so_var so_anil))))) so_anil)))))
    (ss_seq (ss_if (fun W => (so_test (so_op s2_pNeD so_var (so_dat (so_call0 (so_acons (so_op s2_pIxT so_var so_cint) (so_acons (so_op s2_pIxT so_var so_cint) so_anil))))))) (ss_ret (fun W => so_cbl)) ss_next)
    (ss_seq (ss_set (fun W => (so_dat (so_call0 (so_acons (so_op s2_pIxT so_var so_cint) (so_acons (so_op s2_pIxT so_var so_cint) so_anil))))))
    (ss_ret (fun W => (so_and (so_op s2_pEq (so_eCB sc_pLen (so_acons (so_dat (so_fLock (e := (eOp pIxT (eVar 4) (eC (.int 1)))) (so_lc (vs := [10]) (so_wKeys (so_op s2_pIxT so_var so_cint)) (sgw_name (by decide)) (so_test (so_op s2_pInD (so_tup (so_acons so_var (so_acons so_var so_anil))) so_var)) so_var))) so_anil)) so_cint) (so_pla (so_call0 (so_acons so_var (so_acons (so_tup (so_acons (so_make so_anil) (so_acons so_dnew so_anil))) so_anil))))))))))))))))
section
variable {P : Program} {w : World} {K : PySem.W.Frag} {mg : Str → Option Value} {base : Heap}
theorem ok_law_at (T : Txt K mg) {f : Addr} {fd : FuncData} (F : FnP K "_law_at" s_law_at f fd) : FnOk P w K mg base (L2.CX P w) 1 f fd ["_law_script", "_law_k"] (spF K f_law_at) :=
  fn_okG (b := e_law_at) F sc_law_at (t_law_at K) (fun cdv A outer s H E hr =>
    (pss_cons (ps_if (pt_cmpR op_lt (pv 1) (pe_callB call_len_seq (by rfl) T.n_len bt_len (pa_cons (pv 0) pa_nil)) (nomark _)) (pss_one (ps_ret (pe_ix ix_list (pv 0) (pv 1) (fun _ _ => rfl)))) pss_nil) (pss_one (ps_ret pe_int)))) (so_law_at T.xs T.kc) rfl rfl rfl
theorem ok_law_purse (T : Txt K mg) (C_law_at : CalF P w K mg base "_law_at" 1 ["_law_script", "_law_k"] f_law_at) {f : Addr} {fd : FuncData} (F : FnP K "_law_purse" s_law_purse f fd) : FnOk P w K mg base (L2.CX P w) 2 f fd ["_law_script", "_law_at_here"] (spF K f_law_purse) :=
  fn_okG (b := e_law_purse) F sc_law_purse (t_law_purse K) (fun cdv A outer s H E hr =>
    (pss_cons (ps_set (i := 2) sc_law_purse.nd rfl (Or.inl rfl) (pc_own C_law_at (hr.mono (by decide)) (by rfl) (pa_cons (pv 0) (pa_cons (pv 1) pa_nil)))) (pss_one (ps_ret (pe_lst (pa_cons (pe_callB (call_max2 rfl) (by rfl) T.n_max bt_max (pa_cons (pe_op op_sub (pv 2) (pe_op op_pow pe_int pe_int)) (pa_cons pe_int pa_nil))) (pa_cons (pe_op op_mod (pv 2) pe_int) (pa_cons (pe_op op_mul pe_int (pv 1)) pa_nil)))))))) (so_law_purse T.xs T.kc) rfl rfl rfl
theorem ok_law_mixed (T : Txt K mg) {f : Addr} {fd : FuncData} (F : FnP K "_law_mixed" s_law_mixed f fd) : FnOk P w K mg base (L2.CX P w) 1 f fd ["_law_cell", "_law_k"] (spF K f_law_mixed) :=
  fn_okG (b := e_law_mixed) F sc_law_mixed (t_law_mixed K) (fun cdv A outer s H E hr =>
    (pss_cons (ps_set (i := 2) sc_law_mixed.nd rfl (Or.inl rfl) (pe_op op_mod (pe_op op_add (pe_op op_add (pe_op op_add (pe_op op_mul (pv 0) pe_int) (pe_op op_mul (pe_op op_mul pe_int (pv 1)) (pv 1))) (pv 1)) pe_int) pe_int)) (pss_cons (ps_set (i := 2) sc_law_mixed.nd rfl (Or.inl rfl) (pe_op op_mod (pe_op op_add (pe_op op_mul (pv 2) (pv 2)) pe_int) pe_int)) (pss_one (ps_ret (pe_op op_mod (pe_op op_mul (pv 2) pe_int) pe_int)))))) (so_law_mixed T.xs T.kc) rfl rfl rfl
theorem ok_law_draw (T : Txt K mg) (C_law_mixed : CalF P w K mg base "_law_mixed" 1 ["_law_cell", "_law_k"] f_law_mixed) {f : Addr} {fd : FuncData} (F : FnP K "_law_draw" s_law_draw f fd) : FnOk P w K mg base (L2.CX P w) 2 f fd ["_law_purse_here", "_law_out_of"] (spF K f_law_draw) :=
  fn_okG (b := e_law_draw) F sc_law_draw (t_law_draw K) (fun cdv A outer s H E hr =>
    (pss_cons (ps_if (pt_cmpR op_gt (pe_ix ix_list (pv 0) pe_int (fun _ _ => rfl)) pe_int (nomark _)) (pss_cons (ps_set (i := 2) sc_law_draw.nd rfl (Or.inl rfl) (pe_op op_mod (pe_ix ix_list (pv 0) pe_int (fun _ _ => rfl)) (pv 1))) (pss_cons (ps_asg (pe_op op_fdivW (pe_ix ix_list (pv 0) pe_int (fun _ _ => rfl)) (pv 1)) (pg_sub (pv 0) pe_int set_list)) (pss_one (ps_ret (pv 2))))) pss_nil) (pss_cons (ps_set (i := 3) sc_law_draw.nd rfl (Or.inl rfl) pe_int) (pss_cons (ps_for (passes_of rfl) rfl (pi_range1 (by rfl) T.n_range (pa_cons (pe_op op_add pe_int (pe_op op_fdivW (pe_bits (pv 1)) pe_int)) pa_nil)) (pg_name (i := 4) sc_law_draw.nd rfl (Or.inl rfl)) (pss_cons (ps_asg (pe_op op_add (pe_ix ix_list (pv 0) pe_int (fun _ _ => rfl)) pe_int) (pg_sub (pv 0) pe_int set_list)) (pss_one (ps_set (i := 3) sc_law_draw.nd rfl (Or.inl rfl) (pe_op op_add (pe_op op_mul (pv 3) pe_int) (pc_own C_law_mixed (hr.mono (by decide)) (by rfl) (pa_cons (pe_ix ix_list (pv 0) pe_int (fun _ _ => rfl)) (pa_cons (pe_ix ix_list (pv 0) pe_int (fun _ _ => rfl)) pa_nil)))))))) (pss_one (ps_ret (pe_op op_mod (pv 3) (pv 1)))))))) (so_law_draw T.xs T.kc) rfl rfl rfl
theorem ok_law_names (T : Txt K mg) (C_law_draw : CalF P w K mg base "_law_draw" 2 ["_law_purse_here", "_law_out_of"] f_law_draw) {f : Addr} {fd : FuncData} (F : FnP K "_law_names" s_law_names f fd) : FnOk P w K mg base (L2.CX P w) 3 f fd ["_law_purse_here", "_law_many"] (spF K f_law_names) :=
  fn_okG (b := e_law_names) F sc_law_names (t_law_names K) (fun cdv A outer s H E hr =>
    (pss_cons (ps_set (i := 2) sc_law_names.nd rfl (Or.inr rfl) pe_str) (pss_cons (ps_set (i := 4) sc_law_names.nd rfl (Or.inr rfl) (pe_join pe_str (pe_lc (own := [("_law_k", 3)]) (g := (gName 3)) (tt := tYes) rfl sc_law_names.nd (pi_range1 (by rfl) T.n_range (pa_cons (pc_own C_law_draw (hr.mono (by decide)) (by rfl) (pa_cons (pv 0) (pa_cons pe_int pa_nil))) pa_nil)) (blkOk_by (own := [("_law_k", 3)]) (N := N_law_names) (sc := defScope s_law_names) (by decide +kernel)) (fun _ _ _ _ _ => (pg_name (i := 3) sc_law_names.nd rfl (Or.inl rfl))) (fun _ _ _ _ _ => pts_nil) (fun _ _ _ _ _ => (pe_ix ix_str (pv 2) (pc_own C_law_draw (hr.mono (by decide)) (by rfl) (pa_cons (pv 0) (pa_cons pe_int pa_nil))) (fun _ _ => rfl)))))) (pss_cons (ps_set (i := 5) sc_law_names.nd rfl (Or.inr rfl) (pc_own C_law_draw (hr.mono (by decide)) (by rfl) (pa_cons (pv 0) (pa_cons (pe_op op_add (pe_callB call_len_str (by rfl) T.n_len bt_len (pa_cons (pv 4) pa_nil)) pe_int) pa_nil)))) (pss_cons (ps_set (i := 6) sc_law_names.nd rfl (Or.inr rfl) (pc_own C_law_draw (hr.mono (by decide)) (by rfl) (pa_cons (pv 0) (pa_cons pe_int pa_nil)))) (pss_cons (ps_setLc (i := 7) (own := [("_law_k", 3)]) rfl sc_law_names.nd rfl rfl (sw_true rfl rfl rfl (by decide +kernel)) (pi_range1 (by rfl) T.n_range (pa_cons (pv 1) pa_nil)) (blkOk_by (own := [("_law_k", 3)]) (N := N_law_names) (sc := defScope s_law_names) (by decide +kernel)) (fun _ _ _ _ _ => (pg_name (i := 3) sc_law_names.nd rfl (Or.inl rfl))) (fun _ _ _ _ _ => pts_nil) (fun _ _ _ _ _ => (pe_op op_add_str (pe_op op_add_str (pe_slice sl_str (pv 4) po_none (po_some (pv 5))) (pe_ix ix_str (pv 2) (pe_op op_mod (pe_op op_add (pv 6) (pe_op op_mul pe_int (pv 3))) pe_int) (fun _ _ => rfl))) (pe_slice sl_str (pv 4) (po_some (pv 5)) po_none)))) (pss_one (ps_ret (pv 7))))))))) (so_law_names T.xs T.kc) rfl rfl rfl
theorem ok_Shelf___init__ (T : Txt K mg) {f : Addr} {fd : FuncData} (F : FunD K "__init__" "Shelf.__init__" (defArgs s_Shelf___init__) (defBody s_Shelf___init__) (defScope s_Shelf___init__) [] [] f fd) : FnOk P w K mg base (L2.CX P w) 1 f fd ["self"] (spF K f_Shelf___init__) :=
  fn_okA (b := e_Shelf___init__) F sc_Shelf___init__ (t_Shelf___init__ K) (fun cdv A outer s H E hr =>
    (pss_cons (ps_fld (pv 0) pe_dnewK rfl) (pss_cons (ps_fld (pv 0) (pe_lst pa_nil) rfl) (pss_one (ps_fld (pv 0) (pe_lst pa_nil) rfl))))) (so_Shelf___init__ T.xs T.kc) rfl rfl rfl
theorem ok_law_order (T : Txt K mg) (C_law_draw : CalF P w K mg base "_law_draw" 2 ["_law_purse_here", "_law_out_of"] f_law_draw) {f : Addr} {fd : FuncData} (F : FnP K "_law_order" s_law_order f fd) : FnOk P w K mg base (L2.CX P w) 3 f fd ["_law_purse_here", "_law_some"] (spF K f_law_order) :=
  fn_okG (b := e_law_order) F sc_law_order (t_law_order K) (fun cdv A outer s H E hr =>
    (pss_cons (ps_set (i := 2) sc_law_order.nd rfl (Or.inl rfl) (pe_callTy call_list_of (by rfl) T.n_list bt_list (pa_cons (pv 1) pa_nil))) (pss_cons (ps_set (i := 3) sc_law_order.nd rfl (Or.inl rfl) (pe_lst pa_nil)) (pss_cons (ps_while (passes_of rfl) (pt_cmpR (op_neD hr.units) (pv 2) (pe_lst pa_nil) (nomark _)) (pss_one (ps_expr (pe_bm PySem.F.plainAttrs_list PySem.F.slot_list_append PySem.F.type_list_append mt_append (pv 3) (pa_cons (pe_bm PySem.F.plainAttrs_list PySem.F.slot_list_pop PySem.F.type_list_pop mt_popAt (pv 2) (pa_cons (pc_own C_law_draw (hr.mono (by decide)) (by rfl) (pa_cons (pv 0) (pa_cons (pe_callB call_len_seq (by rfl) T.n_len bt_len (pa_cons (pv 2) pa_nil)) pa_nil))) pa_nil)) pa_nil))))) (pss_one (ps_ret (pv 3))))))) (so_law_order T.xs T.kc) rfl rfl rfl
theorem ok_law_number (T : Txt K mg) (C_law_draw : CalF P w K mg base "_law_draw" 2 ["_law_purse_here", "_law_out_of"] f_law_draw) {f : Addr} {fd : FuncData} (F : FnP K "_law_number" s_law_number f fd) : FnOk P w K mg base (L2.CX P w) 3 f fd ["_law_purse_here", "_law_most"] (spF K f_law_number) :=
  fn_okG (b := e_law_number) F sc_law_number (t_law_number K) (fun cdv A outer s H E hr =>
    (pss_cons (ps_set (i := 2) sc_law_number.nd rfl (Or.inl rfl) (pe_ix ix_list (pe_lst (pa_cons pe_int (pa_cons pe_int (pa_cons pe_int (pa_cons (pv 1) pa_nil))))) (pc_own C_law_draw (hr.mono (by decide)) (by rfl) (pa_cons (pv 0) (pa_cons pe_int pa_nil))) (fun _ _ => rfl))) (pss_one (ps_ret (pe_op op_sub (pc_own C_law_draw (hr.mono (by decide)) (by rfl) (pa_cons (pv 0) (pa_cons (pe_op op_add (pe_op op_mul pe_int (pv 2)) pe_int) pa_nil))) (pv 2)))))) (so_law_number T.xs T.kc) rfl rfl rfl
theorem ok_law_end (T : Txt K mg) (C_law_draw : CalF P w K mg base "_law_draw" 2 ["_law_purse_here", "_law_out_of"] f_law_draw) (C_law_number : CalF P w K mg base "_law_number" 3 ["_law_purse_here", "_law_most"] f_law_number) {f : Addr} {fd : FuncData} (F : FnP K "_law_end" s_law_end f fd) : FnOk P w K mg base (L2.CX P w) 4 f fd ["_law_purse_here", "_law_ends", "_law_most"] (spF K f_law_end) :=
  fn_okG (b := e_law_end) F sc_law_end (t_law_end K) (fun cdv A outer s H E hr =>
    (pss_cons (ps_if (PW.pt (pw_and (pt_cmpR (op_neD hr.units) (pv 1) (pe_lst pa_nil) (nomark _)) (pw_and1 (pt_cmpR op_gt (pc_own C_law_draw (hr.mono (by decide)) (by rfl) (pa_cons (pv 0) (pa_cons pe_int pa_nil))) pe_int (nomark _))))) (pss_cons (ps_set (i := 3) sc_law_end.nd rfl (Or.inl rfl) (pe_op op_sub (pe_op op_add (pe_ix ix_list (pv 1) (pc_own C_law_draw (hr.mono (by decide)) (by rfl) (pa_cons (pv 0) (pa_cons (pe_callB call_len_seq (by rfl) T.n_len bt_len (pa_cons (pv 1) pa_nil)) pa_nil))) (fun _ _ => rfl)) (pc_own C_law_draw (hr.mono (by decide)) (by rfl) (pa_cons (pv 0) (pa_cons pe_int pa_nil)))) pe_int)) (pss_one (ps_ret (pe_callB (call_max2 rfl) (by rfl) T.n_max bt_max (pa_cons (pe_op op_sub pe_int (pv 2)) (pa_cons (pe_callB (call_min2 rfl) (by rfl) T.n_min bt_min (pa_cons (pv 2) (pa_cons (pv 3) pa_nil))) pa_nil)))))) pss_nil) (pss_one (ps_ret (pc_own C_law_number (hr.mono (by decide)) (by rfl) (pa_cons (pv 0) (pa_cons (pv 2) pa_nil))))))) (so_law_end T.xs T.kc) rfl rfl rfl
theorem ok_law_span (T : Txt K mg) (C_law_end : CalF P w K mg base "_law_end" 4 ["_law_purse_here", "_law_ends", "_law_most"] f_law_end) {f : Addr} {fd : FuncData} (F : FnP K "_law_span" s_law_span f fd) : FnOk P w K mg base (L2.CX P w) 5 f fd ["_law_purse_here", "_law_ends", "_law_most"] (spF K f_law_span) :=
  fn_okG (b := e_law_span) F sc_law_span (t_law_span K) (fun cdv A outer s H E hr =>
    (pss_cons (ps_set (i := 3) sc_law_span.nd rfl (Or.inl rfl) (pc_own C_law_end (hr.mono (by decide)) (by rfl) (pa_cons (pv 0) (pa_cons (pv 1) (pa_cons (pv 2) pa_nil))))) (pss_cons (ps_set (i := 4) sc_law_span.nd rfl (Or.inl rfl) (pc_own C_law_end (hr.mono (by decide)) (by rfl) (pa_cons (pv 0) (pa_cons (pe_op op_cat (pv 1) (pe_lst (pa_cons (pv 3) pa_nil))) (pa_cons (pv 2) pa_nil))))) (pss_cons (ps_set (i := 5) sc_law_span.nd rfl (Or.inl rfl) (pe_callB (call_min3Nu rfl) (by rfl) T.n_min bt_min (pa_cons (pv 3) (pa_cons (pv 4) (pa_cons (pe_op op_sub (pv 2) pe_int) pa_nil))))) (pss_cons (ps_set (i := 6) sc_law_span.nd rfl (Or.inl rfl) (pe_callB (call_max3Nu rfl) (by rfl) T.n_max bt_max (pa_cons (pv 3) (pa_cons (pv 4) (pa_cons (pe_op op_add (pv 5) pe_int) pa_nil))))) (pss_cons (ps_expr (pe_bm PySem.F.plainAttrs_list PySem.F.slot_list_append PySem.F.type_list_append mt_append (pv 1) (pa_cons (pv 5) pa_nil))) (pss_cons (ps_expr (pe_bm PySem.F.plainAttrs_list PySem.F.slot_list_append PySem.F.type_list_append mt_append (pv 1) (pa_cons (pv 6) pa_nil))) (pss_one (ps_ret (pe_tup (pa_cons (pv 5) (pa_cons (pv 6) pa_nil)))))))))))) (so_law_span T.xs T.kc) rfl rfl rfl
theorem ok_is_place (T : Txt K mg) {f : Addr} {fd : FuncData} (F : FnP K "is_place" s_is_place f fd) : FnOk P w K mg base (L2.CX P w) 1 f fd ["number"] (spF K f_is_place) :=
  fn_okG (b := e_is_place) F sc_is_place (t_is_place K) (fun cdv A outer s H E hr =>
    (pss_one (ps_ret (pe_chain op_lt op_lt (pe_op op_sub pe_int (pe_const T.c_BEYOND (by rfl))) (pv 0) (pe_const T.c_BEYOND (by rfl)))))) (so_is_place T.xs T.kc) rfl rfl rfl
theorem ok_is_span (T : Txt K mg) (C_is_place : CalF P w K mg base "is_place" 1 ["number"] f_is_place) {f : Addr} {fd : FuncData} (F : FnP K "is_span" s_is_span f fd) : FnOk P w K mg base (L2.CX P w) 2 f fd ["span"] (spF K f_is_span) :=
  fn_okG (b := e_is_span) F sc_is_span (t_is_span K) (fun cdv A outer s H E hr =>
    (pss_one (ps_ret (pe_and (pc_own C_is_place (hr.mono (by decide)) (by rfl) (pa_cons (pe_ix ix_tup (pv 0) pe_int (fun _ _ => rfl)) pa_nil)) (pe_and (pc_own C_is_place (hr.mono (by decide)) (by rfl) (pa_cons (pe_ix ix_tup (pv 0) pe_int (fun _ _ => rfl)) pa_nil)) (pe_one (pe_cmpR op_lt (pe_ix ix_tup (pv 0) pe_int (fun _ _ => rfl)) (pe_ix ix_tup (pv 0) pe_int (fun _ _ => rfl)) (nomark _)))))))) (so_is_span T.xs T.kc) rfl rfl rfl
theorem ok_must_span (T : Txt K mg) (C_is_span : CalF P w K mg base "is_span" 2 ["span"] f_is_span) {f : Addr} {fd : FuncData} (F : FnP K "must_span" s_must_span f fd) : FnOk P w K mg base (L2.CX P w) 3 f fd ["span"] (spF K f_must_span) :=
  fn_okG (b := e_must_span) F sc_must_span (t_must_span K) (fun cdv A outer s H E hr =>
    (pss_one (ps_if (pt_not (pt_val (pc_own C_is_span (hr.mono (by decide)) (by rfl) (pa_cons (pv 0) pa_nil)))) (pss_one (ps_raiseK T.x_NoSpan T.g_NoSpan rfl (takes_of rfl rfl rfl rfl) (by rfl))) pss_nil))) (so_must_span T.xs T.kc) rfl rfl rfl
theorem ok_must_weight (T : Txt K mg) {f : Addr} {fd : FuncData} (F : FnP K "must_weight" s_must_weight f fd) : FnOk P w K mg base (L2.CX P w) 1 f fd ["weight"] (spF K f_must_weight) :=
  fn_okG (b := e_must_weight) F sc_must_weight (t_must_weight K) (fun cdv A outer s H E hr =>
    (pss_one (ps_if (pt_not (pt_chain op_le op_le pe_int (pv 0) (pe_const T.c_MOST_WEIGHT (by rfl)))) (pss_one (ps_raiseK T.x_NoWeight T.g_NoWeight rfl (takes_of rfl rfl rfl rfl) (by rfl))) pss_nil))) (so_must_weight T.xs T.kc) rfl rfl rfl
theorem ok_must_room (T : Txt K mg) {f : Addr} {fd : FuncData} (F : FnP K "must_room" s_must_room f fd) : FnOk P w K mg base (L2.CX P w) 1 f fd ["many"] (spF K f_must_room) :=
  fn_okG (b := e_must_room) F sc_must_room (t_must_room K) (fun cdv A outer s H E hr =>
    (pss_one (ps_if (pt_cmpR op_gt (pv 0) (pe_const T.c_MOST_SPANS (by rfl)) (nomark _)) (pss_one (ps_raiseK T.x_Full T.g_Full rfl (takes_of rfl rfl rfl rfl) (by rfl))) pss_nil))) (so_must_room T.xs T.kc) rfl rfl rfl
theorem ok_Shelf_change (T : Txt K mg) {f : Addr} {fd : FuncData} (F : FunD K "change" "Shelf.change" (defArgs s_Shelf_change) (defBody s_Shelf_change) (defScope s_Shelf_change) [] [] f fd) : FnOk P w K mg base (L2.CX P w) 1 f fd ["self", "kept"] (spF K f_Shelf_change) :=
  fn_okA (b := e_Shelf_change) F sc_Shelf_change (t_Shelf_change K) (fun cdv A outer s H E hr =>
    (pss_cons (ps_expr (pe_bm PySem.F.plainAttrs_list PySem.F.slot_list_append PySem.F.type_list_append mt_append (pe_fld (pv 0) (by rfl)) (pa_cons (pe_fld (pv 0) (by rfl)) pa_nil))) (pss_cons (ps_fld (pv 0) (pe_lst pa_nil) rfl) (pss_one (ps_fld (pv 0) (pv 1) rfl))))) (so_Shelf_change T.xs T.kc) rfl rfl rfl
theorem ok_Shelf_set_one (T : Txt K mg) (C_Shelf_change : CalM P w K mg base "Shelf" "change" 1 ["self", "kept"] f_Shelf_change) {f : Addr} {fd : FuncData} (F : FunD K "set_one" "Shelf.set_one" (defArgs s_Shelf_set_one) (defBody s_Shelf_set_one) (defScope s_Shelf_set_one) [] [] f fd) : FnOk P w K mg base (L2.CX P w) 2 f fd ["self", "name", "span", "weight"] (spF K f_Shelf_set_one) :=
  fn_okA (b := e_Shelf_set_one) F sc_Shelf_set_one (t_Shelf_set_one K) (fun cdv A outer s H E hr =>
    (pss_cons (ps_set (i := 4) sc_Shelf_set_one.nd rfl (Or.inl rfl) (pe_callTy call_dictD (by rfl) T.n_dict bt_dict (pa_cons (pe_fld (pv 0) (by rfl)) pa_nil))) (pss_cons (ps_dput (hu1 hr) (pv 4) (pv 1) (pe_tup (pa_cons (pv 2) (pa_cons (pv 3) pa_nil))) rfl) (pss_one (ps_expr (pc_meth C_Shelf_change T.kc.c_Shelf (hr.mono (by decide)) (pv 0) (pa_cons (pv 4) pa_nil))))))) (so_Shelf_set_one T.xs T.kc) rfl rfl rfl
theorem ok_is_name (T : Txt K mg) {f : Addr} {fd : FuncData} (F : FnP K "is_name" s_is_name f fd) : FnOk P w K mg base (L2.CX P w) 1 f fd ["text"] (spF K f_is_name) :=
  fn_okG (b := e_is_name) F sc_is_name (t_is_name K) (fun cdv A outer s H E hr =>
    (pss_one (ps_ret (pe_and (pe_chain op_le op_le pe_int (pe_callB call_len_str (by rfl) T.n_len bt_len (pa_cons (pv 0) pa_nil)) (pe_const T.c_MOST_LETTERS (by rfl))) (pe_one (pe_callB (cr_all rfl) (by rfl) T.n_all bt_all (pa_cons (pe_lc (own := [("sign", 1)]) (g := (gName 1)) (tt := tYes) rfl sc_is_name.nd (pi_str (pv 0)) (blkOk_by (own := [("sign", 1)]) (N := N_is_name) (sc := defScope s_is_name) (by decide +kernel)) (fun _ _ _ _ _ => (pg_name (i := 1) sc_is_name.nd rfl (Or.inl rfl))) (fun _ _ _ _ _ => pts_nil) (fun _ _ _ _ _ => (pe_cmpR op_in_sign (pv 1) (pe_constS T.c_LETTERS (by rfl)) (by rfl)))) pa_nil))))))) (so_is_name T.xs T.kc) rfl rfl rfl
theorem ok_Shelf_put (T : Txt K mg) (C_is_name : CalF P w K mg base "is_name" 1 ["text"] f_is_name) (C_must_span : CalF P w K mg base "must_span" 3 ["span"] f_must_span) (C_must_weight : CalF P w K mg base "must_weight" 1 ["weight"] f_must_weight) (C_must_room : CalF P w K mg base "must_room" 1 ["many"] f_must_room) (C_Shelf_set_one : CalM P w K mg base "Shelf" "set_one" 2 ["self", "name", "span", "weight"] f_Shelf_set_one) {f : Addr} {fd : FuncData} (F : FunD K "put" "Shelf.put" (defArgs s_Shelf_put) (defBody s_Shelf_put) (defScope s_Shelf_put) [] [] f fd) : FnOk P w K mg base (L2.CX P w) 4 f fd ["self", "name", "span", "weight"] (spF K f_Shelf_put) :=
  fn_okA (b := e_Shelf_put) F sc_Shelf_put (t_Shelf_put K) (fun cdv A outer s H E hr =>
    (pss_cons (ps_if (pt_not (pt_val (pc_own C_is_name (hr.mono (by decide)) (by rfl) (pa_cons (pv 1) pa_nil)))) (pss_one (ps_raiseK T.x_NoName T.g_NoName rfl (takes_of rfl rfl rfl rfl) (by rfl))) pss_nil) (pss_cons (ps_if (pt_cmp (pc_din (hu1 hr) (pv 1) (pe_fld (pv 0) (by rfl)))) (pss_one (ps_raiseK T.x_Twice T.g_Twice rfl (takes_of rfl rfl rfl rfl) (by rfl))) pss_nil) (pss_cons (ps_expr (pc_ownS C_must_span (takes_of rfl rfl rfl rfl) (hr.mono (by decide)) (by rfl) (pa_cons (pv 2) pa_nil))) (pss_cons (ps_expr (pc_ownS C_must_weight (takes_of rfl rfl rfl rfl) (hr.mono (by decide)) (by rfl) (pa_cons (pv 3) pa_nil))) (pss_cons (ps_expr (pc_ownS C_must_room (takes_of rfl rfl rfl rfl) (hr.mono (by decide)) (by rfl) (pa_cons (pe_op op_add (pe_callB call_lenR (by rfl) T.n_len bt_len (pa_cons (pe_fld (pv 0) (by rfl)) pa_nil)) pe_int) pa_nil))) (pss_one (ps_expr (pc_meth C_Shelf_set_one T.kc.c_Shelf (hr.mono (by decide)) (pv 0) (pa_cons (pv 1) (pa_cons (pv 2) (pa_cons (pv 3) pa_nil)))))))))))) (so_Shelf_put T.xs T.kc) rfl rfl rfl
theorem ok_law_shelf (T : Txt K mg) (C_Shelf___init__ : CalI P w K mg base "Shelf" 1 ["self"] f_Shelf___init__) (C_law_order : CalF P w K mg base "_law_order" 3 ["_law_purse_here", "_law_some"] f_law_order) (C_law_draw : CalF P w K mg base "_law_draw" 2 ["_law_purse_here", "_law_out_of"] f_law_draw) (C_law_span : CalF P w K mg base "_law_span" 5 ["_law_purse_here", "_law_ends", "_law_most"] f_law_span) (C_Shelf_put : CalM P w K mg base "Shelf" "put" 4 ["self", "name", "span", "weight"] f_Shelf_put) {f : Addr} {fd : FuncData} (F : FnP K "_law_shelf" s_law_shelf f fd) : FnOk P w K mg base (L2.CX P w) 6 f fd ["_law_purse_here", "_law_names_here", "_law_ends"] (spF K f_law_shelf) :=
  fn_okA (b := e_law_shelf) F sc_law_shelf (t_law_shelf K) (fun cdv A outer s H E hr =>
    (pss_cons (ps_set (i := 3) sc_law_shelf.nd rfl (Or.inl rfl) (pc_make0 C_Shelf___init__ (hr.mono (by decide)) (by rfl))) (pss_cons (ps_set (i := 4) sc_law_shelf.nd rfl (Or.inl rfl) pe_dnewK) (pss_cons (ps_for (passes_of rfl) rfl (pi_list (pe_slice sl_list (pc_own C_law_order (hr.mono (by decide)) (by rfl) (pa_cons (pv 0) (pa_cons (pv 1) pa_nil))) po_none (po_some (pc_own C_law_draw (hr.mono (by decide)) (by rfl) (pa_cons (pv 0) (pa_cons pe_int pa_nil)))))) (pg_name (i := 5) sc_law_shelf.nd rfl (Or.inl rfl)) (pss_cons (ps_dput (hu1 hr) (pv 4) (pv 5) (pc_own C_law_span (hr.mono (by decide)) (by rfl) (pa_cons (pv 0) (pa_cons (pv 2) (pa_cons (pe_ix ix_list (pe_lst (pa_cons pe_int (pa_cons (pe_op op_sub (pe_op op_pow pe_int pe_int) pe_int) pa_nil))) (pc_own C_law_draw (hr.mono (by decide)) (by rfl) (pa_cons (pv 0) (pa_cons pe_int pa_nil))) (fun _ _ => rfl)) pa_nil)))) rfl) (pss_one (ps_expr (pc_methS C_Shelf_put T.kc.c_Shelf (takes_of rfl rfl rfl rfl) (hr.mono (by decide)) (pv 3) (pa_cons (pv 5) (pa_cons (pe_dget (hu1 hr) (pv 4) (pv 5) (fun _ _ => rfl)) (pa_cons (pc_own C_law_draw (hr.mono (by decide)) (by rfl) (pa_cons (pv 0) (pa_cons pe_int pa_nil))) pa_nil)))))))) (pss_one (ps_ret (pe_tup (pa_cons (pv 3) (pa_cons (pv 4) pa_nil))))))))) (so_law_shelf T.xs T.kc) rfl rfl rfl
theorem ok_Shelf_names (T : Txt K mg) {f : Addr} {fd : FuncData} (F : FunD K "names" "Shelf.names" (defArgs s_Shelf_names) (defBody s_Shelf_names) (defScope s_Shelf_names) [] [] f fd) : FnOk P w K mg base (L2.CX P w) 1 f fd ["self"] (spF K f_Shelf_names) :=
  fn_okG (b := e_Shelf_names) F sc_Shelf_names (t_Shelf_names K) (fun cdv A outer s H E hr =>
    (pss_one (ps_ret (pe_callB (call_sortedD rfl) (by rfl) T.n_sorted bt_sorted (pa_cons (pe_fld (pv 0) (by rfl)) pa_nil))))) (so_Shelf_names T.xs T.kc) rfl rfl rfl
theorem ok_touches (T : Txt K mg) {f : Addr} {fd : FuncData} (F : FnP K "touches" s_touches f fd) : FnOk P w K mg base (L2.CX P w) 1 f fd ["one", "other"] (spF K f_touches) :=
  fn_okG (b := e_touches) F sc_touches (t_touches K) (fun cdv A outer s H E hr =>
    (pss_one (ps_ret (pe_and (pe_cmpR op_lt (pe_ix ix_tup (pv 0) pe_int (fun _ _ => rfl)) (pe_ix ix_tup (pv 1) pe_int (fun _ _ => rfl)) (nomark _)) (pe_one (pe_cmpR op_lt (pe_ix ix_tup (pv 1) pe_int (fun _ _ => rfl)) (pe_ix ix_tup (pv 0) pe_int (fun _ _ => rfl)) (nomark _))))))) (so_touches T.xs T.kc) rfl rfl rfl
theorem ok_Shelf_must_have (T : Txt K mg) {f : Addr} {fd : FuncData} (F : FunD K "must_have" "Shelf.must_have" (defArgs s_Shelf_must_have) (defBody s_Shelf_must_have) (defScope s_Shelf_must_have) [] [] f fd) : FnOk P w K mg base (L2.CX P w) 1 f fd ["self", "name"] (spF K f_Shelf_must_have) :=
  fn_okG (b := e_Shelf_must_have) F sc_Shelf_must_have (t_Shelf_must_have K) (fun cdv A outer s H E hr =>
    (pss_one (ps_if (pt_cmp (pc_dnotin (hu1 hr) (pv 1) (pe_fld (pv 0) (by rfl)))) (pss_one (ps_raiseK T.x_NoName T.g_NoName rfl (takes_of rfl rfl rfl rfl) (by rfl))) pss_nil))) (so_Shelf_must_have T.xs T.kc) rfl rfl rfl
theorem ok_Shelf_span (T : Txt K mg) (C_Shelf_must_have : CalM P w K mg base "Shelf" "must_have" 1 ["self", "name"] f_Shelf_must_have) {f : Addr} {fd : FuncData} (F : FunD K "span" "Shelf.span" (defArgs s_Shelf_span) (defBody s_Shelf_span) (defScope s_Shelf_span) [] [] f fd) : FnOk P w K mg base (L2.CX P w) 2 f fd ["self", "name"] (spF K f_Shelf_span) :=
  fn_okG (b := e_Shelf_span) F sc_Shelf_span (t_Shelf_span K) (fun cdv A outer s H E hr =>
    (pss_cons (ps_expr (pc_methS C_Shelf_must_have T.kc.c_Shelf (takes_of rfl rfl rfl rfl) (hr.mono (by decide)) (pv 0) (pa_cons (pv 1) pa_nil))) (pss_one (ps_ret (pe_ix ix_tup (pe_dget (hu1 hr) (pe_fld (pv 0) (by rfl)) (pv 1) (fun _ _ => rfl)) pe_int (fun _ _ => rfl)))))) (so_Shelf_span T.xs T.kc) rfl rfl rfl
theorem ok_clashes (T : Txt K mg) (C_Shelf_names : CalM P w K mg base "Shelf" "names" 1 ["self"] f_Shelf_names) (C_touches : CalF P w K mg base "touches" 1 ["one", "other"] f_touches) (C_Shelf_span : CalM P w K mg base "Shelf" "span" 2 ["self", "name"] f_Shelf_span) {f : Addr} {fd : FuncData} (F : FnP K "clashes" s_clashes f fd) : FnOk P w K mg base (L2.CX P w) 3 f fd ["one", "other"] (spF K f_clashes) :=
  fn_okG (b := e_clashes) F sc_clashes (t_clashes K) (fun cdv A outer s H E hr =>
    (pss_cons (ps_set (i := 2) sc_clashes.nd rfl (Or.inl rfl) (pe_lst pa_nil)) (pss_cons (ps_for (passes_of rfl) rfl (pi_list (pc_meth0 C_Shelf_names T.kc.c_Shelf (hr.mono (by decide)) (pv 0))) (pg_name (i := 3) sc_clashes.nd rfl (Or.inl rfl)) (pss_one (ps_for (passes_of rfl) rfl (pi_list (pc_meth0 C_Shelf_names T.kc.c_Shelf (hr.mono (by decide)) (pv 1))) (pg_name (i := 4) sc_clashes.nd rfl (Or.inl rfl)) (pss_one (ps_if (pt_val (pc_own C_touches (hr.mono (by decide)) (by rfl) (pa_cons (pc_methS C_Shelf_span T.kc.c_Shelf (takes_of rfl rfl rfl rfl) (hr.mono (by decide)) (pv 0) (pa_cons (pv 3) pa_nil)) (pa_cons (pc_methS C_Shelf_span T.kc.c_Shelf (takes_of rfl rfl rfl rfl) (hr.mono (by decide)) (pv 1) (pa_cons (pv 4) pa_nil)) pa_nil)))) (pss_one (ps_expr (pe_bm PySem.F.plainAttrs_list PySem.F.slot_list_append PySem.F.type_list_append mt_append (pv 2) (pa_cons (pe_tup (pa_cons (pv 3) (pa_cons (pv 4) pa_nil))) pa_nil)))) pss_nil))))) (pss_one (ps_ret (pv 2)))))) (so_clashes T.xs T.kc) rfl rfl rfl
theorem ok_law_meet (T : Txt K mg) {f : Addr} {fd : FuncData} (F : FnP K "_law_meet" s_law_meet f fd) : FnOk P w K mg base (L2.CX P w) 1 f fd ["_law_one", "_law_other"] (spF K f_law_meet_2) :=
  fn_okG (b := e_law_meet_2) F sc_law_meet (t_law_meet K) (fun cdv A outer s H E hr =>
    (pss_one (ps_ret (pe_and (pe_cmpR op_lt (pe_ix ix_tup (pv 0) pe_int (fun _ _ => rfl)) (pe_ix ix_tup (pv 1) pe_int (fun _ _ => rfl)) (nomark _)) (pe_one (pe_cmpR op_lt (pe_ix ix_tup (pv 1) pe_int (fun _ _ => rfl)) (pe_ix ix_tup (pv 0) pe_int (fun _ _ => rfl)) (nomark _))))))) (so_law_meet T.xs T.kc) rfl rfl rfl
theorem ok_law_clashes (T : Txt K mg) (C_law_meet : CalF P w K mg base "_law_meet" 1 ["_law_one", "_law_other"] f_law_meet_2) {f : Addr} {fd : FuncData} (F : FnP K "_law_clashes" s_law_clashes f fd) : FnOk P w K mg base (L2.CX P w) 2 f fd ["_law_one", "_law_other"] (spF K f_law_clashes) :=
  fn_okG (b := e_law_clashes) F sc_law_clashes (t_law_clashes K) (fun cdv A outer s H E hr =>
    (pss_cons (ps_set (i := 2) sc_law_clashes.nd rfl (Or.inl rfl) (pe_lst pa_nil)) (pss_cons (ps_for (passes_of rfl) rfl (pi_list (pe_callB (call_sortedD rfl) (by rfl) T.n_sorted bt_sorted (pa_cons (pv 0) pa_nil))) (pg_name (i := 3) sc_law_clashes.nd rfl (Or.inr rfl)) (pss_one (ps_set (i := 2) sc_law_clashes.nd rfl (Or.inl rfl) (pe_op op_cat (pv 2) (pe_lc (own := [("_law_more", 4)]) (g := (gName 4)) (tt := (tB (tCall (spF K f_law_meet_2) [] E0 (tCons (tOp rDGet (tVar 0) (tVar 3)) (tCons (tOp rDGet (tVar 1) (tVar 4)) tNil))))) rfl sc_law_clashes.nd (pi_list (pe_callB (call_sortedD rfl) (by rfl) T.n_sorted bt_sorted (pa_cons (pv 1) pa_nil))) (blkOk_by (own := [("_law_more", 4)]) (N := N_law_clashes) (sc := defScope s_law_clashes) (by decide +kernel)) (fun _ _ _ _ _ => (pg_name (i := 4) sc_law_clashes.nd rfl (Or.inl rfl))) (fun _ _ _ _ _ => (pts_one (pt_val (pc_own C_law_meet (hr.mono (by decide)) (by rfl) (pa_cons (pe_dget (hu1 hr) (pv 0) (pv 3) (fun _ _ => rfl)) (pa_cons (pe_dget (hu1 hr) (pv 1) (pv 4) (fun _ _ => rfl)) pa_nil)))))) (fun _ _ _ _ _ => (pe_tup (pa_cons (pv 3) (pa_cons (pv 4) pa_nil))))))))) (pss_one (ps_ret (pv 2)))))) (so_law_clashes T.xs T.kc) rfl rfl rfl
theorem ok_law_holds (T : Txt K mg) {f : Addr} {fd : FuncData} (F : FnP K "_law_holds" s_law_holds f fd) : FnOk P w K mg base (L2.CX P w) 1 f fd ["_law_kept", "_law_place"] (spF K f_law_holds_3) :=
  fn_okG (b := e_law_holds_3) F sc_law_holds (t_law_holds K) (fun cdv A outer s H E hr =>
    (pss_one (ps_ret (pe_cmpR op_gt (pe_callB call_len_seq (by rfl) T.n_len bt_len (pa_cons (pe_lock (pe_lc (own := [("_law_name", 2)]) (g := (gName 2)) (tt := (tTest (tChain oLe oLt (tOp (rIxT K) (tOp rDGet (tVar 0) (tVar 2)) (tC (.int 0))) (tVar 1) (tOp (rIxT K) (tOp rDGet (tVar 0) (tVar 2)) (tC (.int 1)))))) rfl sc_law_holds.nd (pi_keys (pv 0)) (blkOk_by (own := [("_law_name", 2)]) (N := N_law_holds) (sc := defScope s_law_holds) (by decide +kernel)) (fun _ _ _ _ _ => (pg_name (i := 2) sc_law_holds.nd rfl (Or.inl rfl))) (fun _ _ _ _ _ => (pts_one (pt_chain op_le op_lt (pe_ix ix_tup (pe_dget (hu1 hr) (pv 0) (pv 2) (fun _ _ => rfl)) pe_int (fun _ _ => rfl)) (pv 1) (pe_ix ix_tup (pe_dget (hu1 hr) (pv 0) (pv 2) (fun _ _ => rfl)) pe_int (fun _ _ => rfl))))) (fun _ _ _ _ _ => (pv 2)))) pa_nil)) pe_int (nomark _))))) (so_law_holds T.xs T.kc) rfl rfl rfl
theorem ok_law_pieces (T : Txt K mg) (C_law_holds : CalF P w K mg base "_law_holds" 1 ["_law_kept", "_law_place"] f_law_holds_3) {f : Addr} {fd : FuncData} (F : FnP K "_law_pieces" s_law_pieces f fd) : FnOk P w K mg base (L2.CX P w) 2 f fd ["_law_one", "_law_other", "_law_wanted"] (spF K f_law_pieces_2) :=
  fn_okG (b := e_law_pieces_2) F sc_law_pieces (t_law_pieces K) (fun cdv A outer s H E hr =>
    (pss_cons (ps_set (i := 3) sc_law_pieces.nd rfl (Or.inl rfl) (pe_lst pa_nil)) (pss_cons (ps_for (passes_of rfl) rfl (pi_list (pe_lst (pa_cons (pv 0) (pa_cons (pv 1) pa_nil)))) (pg_name (i := 4) sc_law_pieces.nd rfl (Or.inl rfl)) (pss_one (ps_lockX (takes_of rfl rfl rfl rfl) (fun W tk => (ps_for (passes_of rfl) rfl (pi_keys (pv 4)) (pg_name (i := 5) sc_law_pieces.nd rfl (Or.inl rfl)) (pss_one (ps_set (i := 3) sc_law_pieces.nd rfl (Or.inl rfl) (pe_op op_cat (pv 3) (pe_lst (pa_cons (pe_ix ix_tup (pe_dget (hu1 hr) (pv 4) (pv 5) (fun _ _ => rfl)) pe_int (fun _ _ => rfl)) (pa_cons (pe_ix ix_tup (pe_dget (hu1 hr) (pv 4) (pv 5) (fun _ _ => rfl)) pe_int (fun _ _ => rfl)) pa_nil))))))))))) (pss_cons (ps_set (i := 3) sc_law_pieces.nd rfl (Or.inl rfl) (pe_sortSet (by rfl) T.n_sorted (by rfl) T.n_set (pv 3))) (pss_cons (ps_set (i := 6) sc_law_pieces.nd rfl (Or.inl rfl) (pe_lst pa_nil)) (pss_cons (ps_for (passes_of rfl) rfl (pi_zip (by rfl) T.n_zip (pa_cons (pv 3) (pa_cons (pe_slice sl_list (pv 3) (po_some pe_int) po_none) pa_nil))) (pg_tup (by rfl) (pgs_cons (pg_name (i := 7) sc_law_pieces.nd rfl (Or.inl rfl)) (pgs_cons (pg_name (i := 8) sc_law_pieces.nd rfl (Or.inl rfl)) pgs_nil))) (pss_one (ps_if (PW.pt (pw_and (pt_val (pc_own C_law_holds (hr.mono (by decide)) (by rfl) (pa_cons (pv 0) (pa_cons (pv 7) pa_nil)))) (pw_and1 (pt_cmpR op_eq (pc_own C_law_holds (hr.mono (by decide)) (by rfl) (pa_cons (pv 1) (pa_cons (pv 7) pa_nil))) (pv 2) (nomark _))))) (pss_one (ps_if (PW.pt (pw_and (pt_cmpR (op_neD hr.units) (pv 6) (pe_lst pa_nil) (nomark _)) (pw_and1 (pt_cmpR op_eq (pe_ix ix_tup (pe_ix ix_list (pv 6) (pe_un un_neg pe_int) (fun _ _ => rfl)) pe_int (fun _ _ => rfl)) (pv 7) (nomark _))))) (pss_one (ps_asg (pe_tup (pa_cons (pe_ix ix_tup (pe_ix ix_list (pv 6) (pe_un un_neg pe_int) (fun _ _ => rfl)) pe_int (fun _ _ => rfl)) (pa_cons (pv 8) pa_nil))) (pg_sub (pv 6) (pe_un un_neg pe_int) set_list))) (pss_one (ps_expr (pe_bm PySem.F.plainAttrs_list PySem.F.slot_list_append PySem.F.type_list_append mt_append (pv 6) (pa_cons (pe_tup (pa_cons (pv 7) (pa_cons (pv 8) pa_nil))) pa_nil)))))) pss_nil))) (pss_one (ps_ret (pv 6))))))))) (so_law_pieces T.xs T.kc) rfl rfl rfl
theorem ok_shared_by (T : Txt K mg) {f : Addr} {fd : FuncData} (F : FnP K "shared_by" s_shared_by f fd) : FnOk P w K mg base (L2.CX P w) 1 f fd ["one", "other"] (spF K f_shared_by) :=
  fn_okG (b := e_shared_by) F sc_shared_by (t_shared_by K) (fun cdv A outer s H E hr =>
    (pss_cons (ps_set (i := 2) sc_shared_by.nd rfl (Or.inl rfl) (pe_lst pa_nil)) (pss_cons (ps_set (i := 3) sc_shared_by.nd rfl (Or.inl rfl) pe_int) (pss_cons (ps_for (passes_of rfl) rfl (pi_list (pv 0)) (pg_tup (by rfl) (pgs_cons (pg_name (i := 4) sc_shared_by.nd rfl (Or.inl rfl)) (pgs_cons (pg_name (i := 5) sc_shared_by.nd rfl (Or.inl rfl)) pgs_nil))) (pss_cons (ps_while (passes_of rfl) (PW.pt (pw_and (pt_cmpR op_lt (pv 3) (pe_callB call_len_seq (by rfl) T.n_len bt_len (pa_cons (pv 1) pa_nil)) (nomark _)) (pw_and1 (pt_cmpR op_le (pe_ix ix_tup (pe_ix ix_list (pv 1) (pv 3) (fun _ _ => rfl)) pe_int (fun _ _ => rfl)) (pv 4) (nomark _))))) (pss_one (ps_aug (i := 3) sc_shared_by.nd rfl (Or.inl rfl) pe_int ip_add))) (pss_cons (ps_set (i := 6) sc_shared_by.nd rfl (Or.inl rfl) (pv 3)) (pss_one (ps_while (passes_of rfl) (PW.pt (pw_and (pt_cmpR op_lt (pv 6) (pe_callB call_len_seq (by rfl) T.n_len bt_len (pa_cons (pv 1) pa_nil)) (nomark _)) (pw_and1 (pt_cmpR op_lt (pe_ix ix_tup (pe_ix ix_list (pv 1) (pv 6) (fun _ _ => rfl)) pe_int (fun _ _ => rfl)) (pv 5) (nomark _))))) (pss_cons (ps_expr (pe_bm PySem.F.plainAttrs_list PySem.F.slot_list_append PySem.F.type_list_append mt_append (pv 2) (pa_cons (pe_tup (pa_cons (pe_callB (call_max2 rfl) (by rfl) T.n_max bt_max (pa_cons (pv 4) (pa_cons (pe_ix ix_tup (pe_ix ix_list (pv 1) (pv 6) (fun _ _ => rfl)) pe_int (fun _ _ => rfl)) pa_nil))) (pa_cons (pe_callB (call_min2 rfl) (by rfl) T.n_min bt_min (pa_cons (pv 5) (pa_cons (pe_ix ix_tup (pe_ix ix_list (pv 1) (pv 6) (fun _ _ => rfl)) pe_int (fun _ _ => rfl)) pa_nil))) pa_nil))) pa_nil))) (pss_one (ps_aug (i := 6) sc_shared_by.nd rfl (Or.inl rfl) pe_int ip_add)))))))) (pss_one (ps_ret (pv 2))))))) (so_shared_by T.xs T.kc) rfl rfl rfl
theorem ok_poured (T : Txt K mg) {f : Addr} {fd : FuncData} (F : FnP K "poured" s_poured f fd) : FnOk P w K mg base (L2.CX P w) 1 f fd ["spans"] (spF K f_poured) :=
  fn_okG (b := e_poured) F sc_poured (t_poured K) (fun cdv A outer s H E hr =>
    (pss_cons (ps_set (i := 1) sc_poured.nd rfl (Or.inl rfl) (pe_lst pa_nil)) (pss_cons (ps_for (passes_of rfl) rfl (pi_list (pe_callB cr_sortedPO (by rfl) T.n_sorted bt_sorted (pa_cons (pv 0) pa_nil))) (pg_tup (by rfl) (pgs_cons (pg_name (i := 2) sc_poured.nd rfl (Or.inl rfl)) (pgs_cons (pg_name (i := 3) sc_poured.nd rfl (Or.inl rfl)) pgs_nil))) (pss_one (ps_if (PW.pt (pw_and (pt_cmpR (op_neD hr.units) (pv 1) (pe_lst pa_nil) (nomark _)) (pw_and1 (pt_cmpR op_le (pv 2) (pe_ix ix_tup (pe_ix ix_list (pv 1) (pe_un un_neg pe_int) (fun _ _ => rfl)) pe_int (fun _ _ => rfl)) (nomark _))))) (pss_one (ps_asg (pe_tup (pa_cons (pe_ix ix_tup (pe_ix ix_list (pv 1) (pe_un un_neg pe_int) (fun _ _ => rfl)) pe_int (fun _ _ => rfl)) (pa_cons (pe_callB (call_max2 rfl) (by rfl) T.n_max bt_max (pa_cons (pv 3) (pa_cons (pe_ix ix_tup (pe_ix ix_list (pv 1) (pe_un un_neg pe_int) (fun _ _ => rfl)) pe_int (fun _ _ => rfl)) pa_nil))) pa_nil))) (pg_sub (pv 1) (pe_un un_neg pe_int) set_list))) (pss_one (ps_expr (pe_bm PySem.F.plainAttrs_list PySem.F.slot_list_append PySem.F.type_list_append mt_append (pv 1) (pa_cons (pe_tup (pa_cons (pv 2) (pa_cons (pv 3) pa_nil))) pa_nil))))))) (pss_one (ps_ret (pv 1)))))) (so_poured T.xs T.kc) rfl rfl rfl
theorem ok_Shelf_spans (T : Txt K mg) (C_Shelf_names : CalM P w K mg base "Shelf" "names" 1 ["self"] f_Shelf_names) {f : Addr} {fd : FuncData} (F : FunD K "spans" "Shelf.spans" (defArgs s_Shelf_spans) (defBody s_Shelf_spans) (defScope s_Shelf_spans) [] [] f fd) : FnOk P w K mg base (L2.CX P w) 2 f fd ["self"] (spF K f_Shelf_spans) :=
  fn_okG (b := e_Shelf_spans) F sc_Shelf_spans (t_Shelf_spans K) (fun cdv A outer s H E hr =>
    (pss_one (ps_ret (pe_lc (own := [("name", 1)]) (g := (gName 1)) (tt := tYes) rfl sc_Shelf_spans.nd (pi_list (pc_meth0 C_Shelf_names T.kc.c_Shelf (hr.mono (by decide)) (pv 0))) (blkOk_by (own := [("name", 1)]) (N := N_Shelf_spans) (sc := defScope s_Shelf_spans) (by decide +kernel)) (fun _ _ _ _ _ => (pg_name (i := 1) sc_Shelf_spans.nd rfl (Or.inl rfl))) (fun _ _ _ _ _ => pts_nil) (fun _ _ _ _ _ => (pe_ix ix_tup (pe_dget (hu1 hr) (pe_fld (pv 0) (by rfl)) (pv 1) (fun _ _ => rfl)) pe_int (fun _ _ => rfl))))))) (so_Shelf_spans T.xs T.kc) rfl rfl rfl
theorem ok_Shelf_cover (T : Txt K mg) (C_poured : CalF P w K mg base "poured" 1 ["spans"] f_poured) (C_Shelf_spans : CalM P w K mg base "Shelf" "spans" 2 ["self"] f_Shelf_spans) {f : Addr} {fd : FuncData} (F : FunD K "cover" "Shelf.cover" (defArgs s_Shelf_cover) (defBody s_Shelf_cover) (defScope s_Shelf_cover) [] [] f fd) : FnOk P w K mg base (L2.CX P w) 3 f fd ["self"] (spF K f_Shelf_cover) :=
  fn_okG (b := e_Shelf_cover) F sc_Shelf_cover (t_Shelf_cover K) (fun cdv A outer s H E hr =>
    (pss_one (ps_ret (pc_own C_poured (hr.mono (by decide)) (by rfl) (pa_cons (pc_meth0 C_Shelf_spans T.kc.c_Shelf (hr.mono (by decide)) (pv 0)) pa_nil))))) (so_Shelf_cover T.xs T.kc) rfl rfl rfl
theorem ok_shared (T : Txt K mg) (C_shared_by : CalF P w K mg base "shared_by" 1 ["one", "other"] f_shared_by) (C_Shelf_cover : CalM P w K mg base "Shelf" "cover" 3 ["self"] f_Shelf_cover) {f : Addr} {fd : FuncData} (F : FnP K "shared" s_shared f fd) : FnOk P w K mg base (L2.CX P w) 4 f fd ["one", "other"] (spF K f_shared) :=
  fn_okG (b := e_shared) F sc_shared (t_shared K) (fun cdv A outer s H E hr =>
    (pss_one (ps_ret (pc_own C_shared_by (hr.mono (by decide)) (by rfl) (pa_cons (pc_meth0 C_Shelf_cover T.kc.c_Shelf (hr.mono (by decide)) (pv 0)) (pa_cons (pc_meth0 C_Shelf_cover T.kc.c_Shelf (hr.mono (by decide)) (pv 1)) pa_nil)))))) (so_shared T.xs T.kc) rfl rfl rfl
theorem ok_left_of (T : Txt K mg) (C_shared_by : CalF P w K mg base "shared_by" 1 ["one", "other"] f_shared_by) {f : Addr} {fd : FuncData} (F : FnP K "left_of" s_left_of f fd) : FnOk P w K mg base (L2.CX P w) 2 f fd ["one", "other"] (spF K f_left_of) :=
  fn_okG (b := e_left_of) F sc_left_of (t_left_of K) (fun cdv A outer s H E hr =>
    (pss_cons (ps_set (i := 2) sc_left_of.nd rfl (Or.inl rfl) (pe_lst pa_nil)) (pss_cons (ps_for (passes_of rfl) rfl (pi_list (pv 0)) (pg_tup (by rfl) (pgs_cons (pg_name (i := 3) sc_left_of.nd rfl (Or.inl rfl)) (pgs_cons (pg_name (i := 4) sc_left_of.nd rfl (Or.inl rfl)) pgs_nil))) (pss_cons (ps_for (passes_of rfl) rfl (pi_list (pc_own C_shared_by (hr.mono (by decide)) (by rfl) (pa_cons (pe_lst (pa_cons (pe_tup (pa_cons (pv 3) (pa_cons (pv 4) pa_nil))) pa_nil)) (pa_cons (pv 1) pa_nil)))) (pg_tup (by rfl) (pgs_cons (pg_name (i := 5) sc_left_of.nd rfl (Or.inl rfl)) (pgs_cons (pg_name (i := 6) sc_left_of.nd rfl (Or.inl rfl)) pgs_nil))) (pss_cons (ps_if (pt_cmpR op_lt (pv 3) (pv 5) (nomark _)) (pss_one (ps_expr (pe_bm PySem.F.plainAttrs_list PySem.F.slot_list_append PySem.F.type_list_append mt_append (pv 2) (pa_cons (pe_tup (pa_cons (pv 3) (pa_cons (pv 5) pa_nil))) pa_nil)))) pss_nil) (pss_one (ps_set (i := 3) sc_left_of.nd rfl (Or.inl rfl) (pv 6))))) (pss_one (ps_if (pt_cmpR op_lt (pv 3) (pv 4) (nomark _)) (pss_one (ps_expr (pe_bm PySem.F.plainAttrs_list PySem.F.slot_list_append PySem.F.type_list_append mt_append (pv 2) (pa_cons (pe_tup (pa_cons (pv 3) (pa_cons (pv 4) pa_nil))) pa_nil)))) pss_nil)))) (pss_one (ps_ret (pv 2)))))) (so_left_of T.xs T.kc) rfl rfl rfl
theorem ok_spare (T : Txt K mg) (C_left_of : CalF P w K mg base "left_of" 2 ["one", "other"] f_left_of) (C_Shelf_cover : CalM P w K mg base "Shelf" "cover" 3 ["self"] f_Shelf_cover) {f : Addr} {fd : FuncData} (F : FnP K "spare" s_spare f fd) : FnOk P w K mg base (L2.CX P w) 4 f fd ["one", "other"] (spF K f_spare) :=
  fn_okG (b := e_spare) F sc_spare (t_spare K) (fun cdv A outer s H E hr =>
    (pss_one (ps_ret (pc_own C_left_of (hr.mono (by decide)) (by rfl) (pa_cons (pc_meth0 C_Shelf_cover T.kc.c_Shelf (hr.mono (by decide)) (pv 0)) (pa_cons (pc_meth0 C_Shelf_cover T.kc.c_Shelf (hr.mono (by decide)) (pv 1)) pa_nil)))))) (so_spare T.xs T.kc) rfl rfl rfl
theorem ok_law_right (T : Txt K mg) (C_law_clashes : CalF P w K mg base "_law_clashes" 2 ["_law_one", "_law_other"] f_law_clashes) (C_law_pieces : CalF P w K mg base "_law_pieces" 2 ["_law_one", "_law_other", "_law_wanted"] f_law_pieces_2) (C_clashes : CalF P w K mg base "clashes" 3 ["one", "other"] f_clashes) (C_shared : CalF P w K mg base "shared" 4 ["one", "other"] f_shared) (C_spare : CalF P w K mg base "spare" 4 ["one", "other"] f_spare) (C_Shelf_names : CalM P w K mg base "Shelf" "names" 1 ["self"] f_Shelf_names) (C_Shelf_span : CalM P w K mg base "Shelf" "span" 2 ["self", "name"] f_Shelf_span) {f : Addr} {fd : FuncData} (F : FnP K "_law_right" s_law_right f fd) : FnOk P w K mg base (L2.CX P w) 5 f fd ["_law_one", "_law_other"] (spF K f_law_right_10) :=
  fn_okG (b := e_law_right_10) F sc_law_right (t_law_right K) (fun cdv A outer s H E hr =>
    (pss_cons (ps_set (i := 2) sc_law_right.nd rfl (Or.inl rfl) (pc_own C_law_clashes (hr.mono (by decide)) (by rfl) (pa_cons (pe_ix ix_tup (pv 0) pe_int (fun _ _ => rfl)) (pa_cons (pe_ix ix_tup (pv 1) pe_int (fun _ _ => rfl)) pa_nil)))) (pss_cons (ps_set (i := 3) sc_law_right.nd rfl (Or.inl rfl) (pe_lst (pa_cons (pc_own C_law_pieces (hr.mono (by decide)) (by rfl) (pa_cons (pe_ix ix_tup (pv 0) pe_int (fun _ _ => rfl)) (pa_cons (pe_ix ix_tup (pv 1) pe_int (fun _ _ => rfl)) (pa_cons pe_bl pa_nil)))) (pa_cons (pc_own C_law_pieces (hr.mono (by decide)) (by rfl) (pa_cons (pe_ix ix_tup (pv 0) pe_int (fun _ _ => rfl)) (pa_cons (pe_ix ix_tup (pv 1) pe_int (fun _ _ => rfl)) (pa_cons pe_bl pa_nil)))) pa_nil)))) (pss_cons (ps_for (passes_of rfl) rfl (pi_range1 (by rfl) T.n_range (pa_cons pe_int pa_nil)) (pg_name (i := 4) sc_law_right.nd rfl (Or.inl rfl)) (pss_cons (ps_set (i := 5) sc_law_right.nd rfl (Or.inl rfl) (pe_lst (pa_cons (pc_ownS C_clashes (takes_of rfl rfl rfl rfl) (hr.mono (by decide)) (by rfl) (pa_cons (pe_ix ix_tup (pv 0) pe_int (fun _ _ => rfl)) (pa_cons (pe_ix ix_tup (pv 1) pe_int (fun _ _ => rfl)) pa_nil))) (pa_cons (pc_own C_shared (hr.mono (by decide)) (by rfl) (pa_cons (pe_ix ix_tup (pv 0) pe_int (fun _ _ => rfl)) (pa_cons (pe_ix ix_tup (pv 1) pe_int (fun _ _ => rfl)) pa_nil))) (pa_cons (pc_own C_spare (hr.mono (by decide)) (by rfl) (pa_cons (pe_ix ix_tup (pv 0) pe_int (fun _ _ => rfl)) (pa_cons (pe_ix ix_tup (pv 1) pe_int (fun _ _ => rfl)) pa_nil))) pa_nil))))) (pss_cons (ps_if (PW.pt (pw_or (pt_cmpR (op_neD hr.units) (pv 5) (pe_op op_cat (pe_lst (pa_cons (pv 2) pa_nil)) (pv 3)) (nomark _)) (pw_or1 (pt_cmpR op_gt (pe_callB call_len_seq (by rfl) T.n_len bt_len (pa_cons (pe_lc (own := [("_law_some", 6)]) (g := (gName 6)) (tt := (tNot (tB (tCB (rIsi K) (tCons (tVar 6) (tCons (tC (.ty "list")) tNil)))))) rfl sc_law_right.nd (pi_list (pv 5)) (blkOk_by (own := [("_law_some", 6)]) (N := N_law_right) (sc := defScope s_law_right) (by decide +kernel)) (fun _ _ _ _ _ => (pg_name (i := 6) sc_law_right.nd rfl (Or.inl rfl))) (fun _ _ _ _ _ => (pts_one (pt_not (pt_val (pe_callB call_isi (by rfl) T.n_isinstance bt_isinstance (pa_cons (pv 6) (pa_cons (pe_bltn (v := .ty "list") (by rfl) T.n_list bt_list rfl) pa_nil))))))) (fun _ _ _ _ _ => (pv 6))) pa_nil)) pe_int (nomark _))))) (pss_one (ps_ret pe_bl)) pss_nil) (pss_cons (ps_for (passes_of rfl) rfl (pi_list (pv 5)) (pg_name (i := 6) sc_law_right.nd rfl (Or.inl rfl)) (pss_one (ps_expr (pe_bm PySem.F.plainAttrs_list PySem.F.slot_list_append PySem.F.type_list_append mt_append (pv 6) (pa_cons pe_non pa_nil))))) (pss_one (ps_for (passes_of rfl) rfl (pi_list (pe_lst (pa_cons (pv 0) (pa_cons (pv 1) pa_nil)))) (pg_tup (by rfl) (pgs_cons (pg_name (i := 7) sc_law_right.nd rfl (Or.inr rfl)) (pgs_cons (pg_name (i := 8) sc_law_right.nd rfl (Or.inr rfl)) pgs_nil))) (pss_cons (ps_if (pt_cmpR (op_neD hr.units) (pc_meth0 C_Shelf_names T.kc.c_Shelf (hr.mono (by decide)) (pv 7)) (pe_callB (call_sortedD rfl) (by rfl) T.n_sorted bt_sorted (pa_cons (pv 8) pa_nil)) (nomark _)) (pss_one (ps_ret pe_bl)) pss_nil) (pss_one (ps_if (pt_cmpR op_gt (pe_callB call_len_seq (by rfl) T.n_len bt_len (pa_cons (pe_lock (pe_lc (own := [("_law_name", 9)]) (g := (gName 9)) (tt := (tTest (tOp (rNeD K) (tMeth (He.ga K "Shelf") "span" (spF K f_Shelf_span) [] E0 (tVar 7) (tCons (tVar 9) tNil)) (tOp rDGet (tVar 8) (tVar 9))))) rfl sc_law_right.nd (pi_keys (pv 8)) (blkOk_by (own := [("_law_name", 9)]) (N := N_law_right) (sc := defScope s_law_right) (by decide +kernel)) (fun _ _ _ _ _ => (pg_name (i := 9) sc_law_right.nd rfl (Or.inl rfl))) (fun _ _ _ _ _ => (pts_one (pt_cmpR (op_neD hr.units) (pc_meth C_Shelf_span T.kc.c_Shelf (hr.mono (by decide)) (pv 7) (pa_cons (pv 9) pa_nil)) (pe_dget (hu1 hr) (pv 8) (pv 9) (fun _ _ => rfl)) (nomark _)))) (fun _ _ _ _ _ => (pv 9)))) pa_nil)) pe_int (nomark _)) (pss_one (ps_ret pe_bl)) pss_nil))))))))) (pss_one (ps_ret pe_bl)))))) (so_law_right T.xs T.kc) rfl rfl rfl
theorem ok_law (T : Txt K mg) (C_law_purse : CalF P w K mg base "_law_purse" 2 ["_law_script", "_law_at_here"] f_law_purse) (C_law_names : CalF P w K mg base "_law_names" 3 ["_law_purse_here", "_law_many"] f_law_names) (C_law_shelf : CalF P w K mg base "_law_shelf" 6 ["_law_purse_here", "_law_names_here", "_law_ends"] f_law_shelf) (C_law_right : CalF P w K mg base "_law_right" 5 ["_law_one", "_law_other"] f_law_right_10) (C_clashes : CalF P w K mg base "clashes" 3 ["one", "other"] f_clashes) (C_Shelf___init__ : CalI P w K mg base "Shelf" 1 ["self"] f_Shelf___init__) {f : Addr} {fd : FuncData} (F : FnP K "law" s_law f fd) : FnOk P w K mg base CX0 7 f fd ["_law_script"] (spF K f_law_k70) :=
  fn_okG (b := e_law_k70) F sc_law (t_law K) (fun cdv A outer s H E hr =>
    (pss_cons (ps_set (i := 1) sc_law.nd rfl (Or.inl rfl) (pc_own C_law_purse (hr.mono (by decide)) (by rfl) (pa_cons (pv 0) (pa_cons pe_int pa_nil)))) (pss_cons (ps_set (i := 2) sc_law.nd rfl (Or.inl rfl) (pc_own C_law_names (hr.mono (by decide)) (by rfl) (pa_cons (pv 1) (pa_cons pe_int pa_nil)))) (pss_cons (ps_set (i := 3) sc_law.nd rfl (Or.inl rfl) (pe_lst pa_nil)) (pss_cons (ps_set (i := 4) sc_law.nd rfl (Or.inl rfl) (pc_own C_law_shelf (hr.mono (by decide)) (by rfl) (pa_cons (pv 1) (pa_cons (pv 2) (pa_cons (pv 3) pa_nil))))) (pss_cons (ps_set (i := 5) sc_law.nd rfl (Or.inl rfl) (pc_own C_law_shelf (hr.mono (by decide)) (by rfl) (pa_cons (pv 1) (pa_cons (pe_op op_cat (pv 2) (pe_lst (pa_cons pe_str pa_nil))) (pa_cons (pv 3) pa_nil))))) (pss_cons (ps_if (PW.pt (pw_or (pt_not (pt_val (pc_own C_law_right (hr.mono (by decide)) (by rfl) (pa_cons (pv 4) (pa_cons (pv 5) pa_nil))))) (pw_or (pt_not (pt_val (pc_own C_law_right (hr.mono (by decide)) (by rfl) (pa_cons (pv 5) (pa_cons (pv 4) pa_nil))))) (pw_or1 (pt_not (pt_val (pc_own C_law_right (hr.mono (by decide)) (by rfl) (pa_cons (pv 4) (pa_cons (pv 4) pa_nil))))))))) (pss_one (ps_ret pe_bl)) pss_nil) (pss_cons (ps_set (i := 8) sc_law.nd rfl (Or.inl rfl) (pe_callB cr_sortedQ (by rfl) T.n_sorted bt_sorted (pa_cons (pe_lc (own := [("_law_first", 6), ("_law_second", 7)]) (g := (gTup K 2 (gCons (gName 6) (gCons (gName 7) gNil)))) (tt := tYes) rfl sc_law.nd (pi_list (pc_own C_clashes (hr.mono (by decide)) (by rfl) (pa_cons (pe_ix ix_tup (pv 5) pe_int (fun _ _ => rfl)) (pa_cons (pe_ix ix_tup (pv 4) pe_int (fun _ _ => rfl)) pa_nil)))) (blkOk_by (own := [("_law_first", 6), ("_law_second", 7)]) (N := N_law) (sc := defScope s_law) (by decide +kernel)) (fun _ _ _ _ _ => (pg_tup (by rfl) (pgs_cons (pg_name (i := 6) sc_law.nd rfl (Or.inl rfl)) (pgs_cons (pg_name (i := 7) sc_law.nd rfl (Or.inl rfl)) pgs_nil)))) (fun _ _ _ _ _ => pts_nil) (fun _ _ _ _ _ => (pe_tup (pa_cons (pv 7) (pa_cons (pv 6) pa_nil))))) pa_nil))) (pss_cons (ps_if (pt_cmpR (op_neD hr.units) (pv 8) (pc_own C_clashes (hr.mono (by decide)) (by rfl) (pa_cons (pe_ix ix_tup (pv 4) pe_int (fun _ _ => rfl)) (pa_cons (pe_ix ix_tup (pv 5) pe_int (fun _ _ => rfl)) pa_nil))) (nomark _)) (pss_one (ps_ret pe_bl)) pss_nil) (pss_cons (ps_set (i := 9) sc_law.nd rfl (Or.inr rfl) (pc_own C_clashes (hr.mono (by decide)) (by rfl) (pa_cons (pe_ix ix_tup (pv 4) pe_int (fun _ _ => rfl)) (pa_cons (pe_ix ix_tup (pv 4) pe_int (fun _ _ => rfl)) pa_nil)))) (pss_one (ps_ret (pe_and (pe_cmpR op_eq (pe_callB call_len_seq (by rfl) T.n_len bt_len (pa_cons (pe_lock (pe_lc (own := [("_law_name", 10)]) (g := (gName 10)) (tt := (tTest (tOp (rInDn K true) (tTup (tCons (tVar 10) (tCons (tVar 10) tNil))) (tVar 9)))) rfl sc_law.nd (pi_keys (pe_ix ix_tup (pv 4) pe_int (fun _ _ => rfl))) (blkOk_by (own := [("_law_name", 10)]) (N := N_law) (sc := defScope s_law) (by decide +kernel)) (fun _ _ _ _ _ => (pg_name (i := 10) sc_law.nd rfl (Or.inl rfl))) (fun _ _ _ _ _ => (pts_one (pt_cmpR (op_notInD (u65 hr)) (pe_tup (pa_cons (pv 10) (pa_cons (pv 10) pa_nil))) (pv 9) (by rfl)))) (fun _ _ _ _ _ => (pv 10)))) pa_nil)) pe_int (nomark _)) (pe_one (pc_own C_law_right (hr.mono (by decide)) (by rfl) (pa_cons (pv 4) (pa_cons (pe_tup (pa_cons (pc_make0 C_Shelf___init__ (hr.mono (by decide)) (by rfl)) (pa_cons pe_dnewK pa_nil))) pa_nil))))))))))))))))) (so_law T.xs T.kc) rfl rfl rfl
end
theorem facts {P : Program} {w : World} {K : PySem.W.Frag} {h : Heap} {mg : Str → Option Value} {f : Addr} (X : K.In h) (G : h.Ns mainGlobals mg) (hfa : mg ("law" : Str) = some (.ref f)) (c : He.SaysD fa fn K) (xs : Xs K xnames) :
    ∃ fd : FuncData, (∀ (s : Shared) (v : Value), BindsTo s fd ⟨[v], []⟩ [("_law_script", v)]) ∧ ∀ base : Heap, K.In base → base.Ns mainGlobals mg → FnOk P w K mg base CX0 7 f fd ["_law_script"] (spF K f_law_k70) := by
  have T : Txt K mg := ⟨He.free_ok X G (c.fact 38 (f := .free "len") rfl), He.free_ok X G (c.fact 39 (f := .free "max") rfl), He.free_ok X G (c.fact 40 (f := .free "range") rfl), He.free_ok X G (c.fact 41 (f := .free "list") rfl), He.free_ok X G (c.fact 42 (f := .free "min") rfl), He.free_ok X G (c.fact 43 (f := .free "dict") rfl), He.free_ok X G (c.fact 44 (f := .free "all") rfl), He.free_ok X G (c.fact 45 (f := .free "sorted") rfl), He.free_ok X G (c.fact 46 (f := .free "set") rfl), He.free_ok X G (c.fact 47 (f := .free "zip") rfl), He.free_ok X G (c.fact 48 (f := .free "isinstance") rfl), He.int_ok X G (c.fact 49 rfl), He.int_ok X G (c.fact 50 rfl), He.int_ok X G (c.fact 51 rfl), He.int_ok X G (c.fact 52 rfl), He.str_ok X G (c.fact 53 rfl), xs, ⟨He.cls_ok (c.fact 55 (f := .cls "Shelf") rfl), He.noat_ok (c.fact 56 (f := .noat "Shelf" "kept") rfl), He.noat_ok (c.fact 57 (f := .noat "Shelf" "behind") rfl), He.noat_ok (c.fact 58 (f := .noat "Shelf" "ahead") rfl)⟩, xs.up, xs.up.mg X G, xs.one "NoSpan" (.head _), (xs.one "NoSpan" (.head _)).mg X G, xs.one "NoPlace" (.tail _ (.head _)), (xs.one "NoPlace" (.tail _ (.head _))).mg X G, xs.one "NoWeight" (.tail _ (.tail _ (.head _))), (xs.one "NoWeight" (.tail _ (.tail _ (.head _)))).mg X G, xs.one "NoCount" (.tail _ (.tail _ (.tail _ (.head _)))), (xs.one "NoCount" (.tail _ (.tail _ (.tail _ (.head _))))).mg X G, xs.one "NoName" (.tail _ (.tail _ (.tail _ (.tail _ (.head _))))), (xs.one "NoName" (.tail _ (.tail _ (.tail _ (.tail _ (.head _)))))).mg X G, xs.one "Twice" (.tail _ (.tail _ (.tail _ (.tail _ (.tail _ (.head _)))))), (xs.one "Twice" (.tail _ (.tail _ (.tail _ (.tail _ (.tail _ (.head _))))))).mg X G, xs.one "Full" (.tail _ (.tail _ (.tail _ (.tail _ (.tail _ (.tail _ (.head _))))))), (xs.one "Full" (.tail _ (.tail _ (.tail _ (.tail _ (.tail _ (.tail _ (.head _)))))))).mg X G⟩
  obtain ⟨fd_law_at, F_law_at⟩ := c.def_ 0 (d := d_law_at) rfl
  obtain ⟨fd_law_purse, F_law_purse⟩ := c.def_ 1 (d := d_law_purse) rfl
  obtain ⟨fd_law_mixed, F_law_mixed⟩ := c.def_ 2 (d := d_law_mixed) rfl
  obtain ⟨fd_law_draw, F_law_draw⟩ := c.def_ 3 (d := d_law_draw) rfl
  obtain ⟨fd_law_names, F_law_names⟩ := c.def_ 4 (d := d_law_names) rfl
  obtain ⟨fd_Shelf___init__, F_Shelf___init__⟩ := c.def_ 5 (d := d_Shelf___init__) rfl
  obtain ⟨fd_law_order, F_law_order⟩ := c.def_ 6 (d := d_law_order) rfl
  obtain ⟨fd_law_number, F_law_number⟩ := c.def_ 7 (d := d_law_number) rfl
  obtain ⟨fd_law_end, F_law_end⟩ := c.def_ 8 (d := d_law_end) rfl
  obtain ⟨fd_law_span, F_law_span⟩ := c.def_ 9 (d := d_law_span) rfl
  obtain ⟨fd_is_place, F_is_place⟩ := c.def_ 10 (d := d_is_place) rfl
  obtain ⟨fd_is_span, F_is_span⟩ := c.def_ 11 (d := d_is_span) rfl
  obtain ⟨fd_must_span, F_must_span⟩ := c.def_ 12 (d := d_must_span) rfl
  obtain ⟨fd_must_weight, F_must_weight⟩ := c.def_ 13 (d := d_must_weight) rfl
  obtain ⟨fd_must_room, F_must_room⟩ := c.def_ 14 (d := d_must_room) rfl
  obtain ⟨fd_Shelf_change, F_Shelf_change⟩ := c.def_ 15 (d := d_Shelf_change) rfl
  obtain ⟨fd_Shelf_set_one, F_Shelf_set_one⟩ := c.def_ 16 (d := d_Shelf_set_one) rfl
  obtain ⟨fd_is_name, F_is_name⟩ := c.def_ 17 (d := d_is_name) rfl
  obtain ⟨fd_Shelf_put, F_Shelf_put⟩ := c.def_ 18 (d := d_Shelf_put) rfl
  obtain ⟨fd_law_shelf, F_law_shelf⟩ := c.def_ 19 (d := d_law_shelf) rfl
  obtain ⟨fd_Shelf_names, F_Shelf_names⟩ := c.def_ 20 (d := d_Shelf_names) rfl
  obtain ⟨fd_touches, F_touches⟩ := c.def_ 21 (d := d_touches) rfl
  obtain ⟨fd_Shelf_must_have, F_Shelf_must_have⟩ := c.def_ 22 (d := d_Shelf_must_have) rfl
  obtain ⟨fd_Shelf_span, F_Shelf_span⟩ := c.def_ 23 (d := d_Shelf_span) rfl
  obtain ⟨fd_clashes, F_clashes⟩ := c.def_ 24 (d := d_clashes) rfl
  obtain ⟨fd_law_meet, F_law_meet⟩ := c.def_ 25 (d := d_law_meet) rfl
  obtain ⟨fd_law_clashes, F_law_clashes⟩ := c.def_ 26 (d := d_law_clashes) rfl
  obtain ⟨fd_law_holds, F_law_holds⟩ := c.def_ 27 (d := d_law_holds) rfl
  obtain ⟨fd_law_pieces, F_law_pieces⟩ := c.def_ 28 (d := d_law_pieces) rfl
  obtain ⟨fd_shared_by, F_shared_by⟩ := c.def_ 29 (d := d_shared_by) rfl
  obtain ⟨fd_poured, F_poured⟩ := c.def_ 30 (d := d_poured) rfl
  obtain ⟨fd_Shelf_spans, F_Shelf_spans⟩ := c.def_ 31 (d := d_Shelf_spans) rfl
  obtain ⟨fd_Shelf_cover, F_Shelf_cover⟩ := c.def_ 32 (d := d_Shelf_cover) rfl
  obtain ⟨fd_shared, F_shared⟩ := c.def_ 33 (d := d_shared) rfl
  obtain ⟨fd_left_of, F_left_of⟩ := c.def_ 34 (d := d_left_of) rfl
  obtain ⟨fd_spare, F_spare⟩ := c.def_ 35 (d := d_spare) rfl
  obtain ⟨fd_law_right, F_law_right⟩ := c.def_ 36 (d := d_law_right) rfl
  obtain ⟨fd_law, F_law⟩ := c.def_ 37 (d := d_law) rfl
  have e := hfa.symm.trans (He.glo_ok X G (c.fact 37 (f := .glo "law") rfl))
  cases e
  have b := FunD.bindsA (ps := ["_law_script"]) F_law fun _ _ _ _ _ _ us hl => match us, hl with | [_], _ => rfl
  refine ⟨fd_law, fun s v => b s [v] rfl, fun base _ _ => ?_⟩
  have C_law_at : CalF P w K mg base "_law_at" 1 ["_law_script", "_law_k"] f_law_at := ⟨_, ok_law_at T F_law_at, FunD.bindsN F_law_at fun _ _ _ _ _ _ us hl => match us, hl with | [_, _], _ => rfl, F_law_at.kp, He.glo_ok X G (c.fact 0 (f := .glo "_law_at") rfl)⟩
  have C_law_purse : CalF P w K mg base "_law_purse" 2 ["_law_script", "_law_at_here"] f_law_purse := ⟨_, ok_law_purse T C_law_at F_law_purse, FunD.bindsN F_law_purse fun _ _ _ _ _ _ us hl => match us, hl with | [_, _], _ => rfl, F_law_purse.kp, He.glo_ok X G (c.fact 1 (f := .glo "_law_purse") rfl)⟩
  have C_law_mixed : CalF P w K mg base "_law_mixed" 1 ["_law_cell", "_law_k"] f_law_mixed := ⟨_, ok_law_mixed T F_law_mixed, FunD.bindsN F_law_mixed fun _ _ _ _ _ _ us hl => match us, hl with | [_, _], _ => rfl, F_law_mixed.kp, He.glo_ok X G (c.fact 2 (f := .glo "_law_mixed") rfl)⟩
  have C_law_draw : CalF P w K mg base "_law_draw" 2 ["_law_purse_here", "_law_out_of"] f_law_draw := ⟨_, ok_law_draw T C_law_mixed F_law_draw, FunD.bindsN F_law_draw fun _ _ _ _ _ _ us hl => match us, hl with | [_, _], _ => rfl, F_law_draw.kp, He.glo_ok X G (c.fact 3 (f := .glo "_law_draw") rfl)⟩
  have C_law_names : CalF P w K mg base "_law_names" 3 ["_law_purse_here", "_law_many"] f_law_names := ⟨_, ok_law_names T C_law_draw F_law_names, FunD.bindsN F_law_names fun _ _ _ _ _ _ us hl => match us, hl with | [_, _], _ => rfl, F_law_names.kp, He.glo_ok X G (c.fact 4 (f := .glo "_law_names") rfl)⟩
  have C_Shelf___init__ : CalI P w K mg base "Shelf" 1 ["self"] f_Shelf___init__ := ⟨_, ok_Shelf___init__ T F_Shelf___init__, FunD.bindsN F_Shelf___init__ fun _ _ _ _ _ _ us hl => match us, hl with | [_], _ => rfl, He.mkr_ok (c.fact 5 (f := .mkr "Shelf") rfl), He.glo_ok X G (c.fact 54 (f := .glo "Shelf") rfl)⟩
  have C_law_order : CalF P w K mg base "_law_order" 3 ["_law_purse_here", "_law_some"] f_law_order := ⟨_, ok_law_order T C_law_draw F_law_order, FunD.bindsN F_law_order fun _ _ _ _ _ _ us hl => match us, hl with | [_, _], _ => rfl, F_law_order.kp, He.glo_ok X G (c.fact 6 (f := .glo "_law_order") rfl)⟩
  have C_law_number : CalF P w K mg base "_law_number" 3 ["_law_purse_here", "_law_most"] f_law_number := ⟨_, ok_law_number T C_law_draw F_law_number, FunD.bindsN F_law_number fun _ _ _ _ _ _ us hl => match us, hl with | [_, _], _ => rfl, F_law_number.kp, He.glo_ok X G (c.fact 7 (f := .glo "_law_number") rfl)⟩
  have C_law_end : CalF P w K mg base "_law_end" 4 ["_law_purse_here", "_law_ends", "_law_most"] f_law_end := ⟨_, ok_law_end T C_law_draw C_law_number F_law_end, FunD.bindsN F_law_end fun _ _ _ _ _ _ us hl => match us, hl with | [_, _, _], _ => rfl, F_law_end.kp, He.glo_ok X G (c.fact 8 (f := .glo "_law_end") rfl)⟩
  have C_law_span : CalF P w K mg base "_law_span" 5 ["_law_purse_here", "_law_ends", "_law_most"] f_law_span := ⟨_, ok_law_span T C_law_end F_law_span, FunD.bindsN F_law_span fun _ _ _ _ _ _ us hl => match us, hl with | [_, _, _], _ => rfl, F_law_span.kp, He.glo_ok X G (c.fact 9 (f := .glo "_law_span") rfl)⟩
  have C_is_place : CalF P w K mg base "is_place" 1 ["number"] f_is_place := ⟨_, ok_is_place T F_is_place, FunD.bindsN F_is_place fun _ _ _ _ _ _ us hl => match us, hl with | [_], _ => rfl, F_is_place.kp, He.glo_ok X G (c.fact 10 (f := .glo "is_place") rfl)⟩
  have C_is_span : CalF P w K mg base "is_span" 2 ["span"] f_is_span := ⟨_, ok_is_span T C_is_place F_is_span, FunD.bindsN F_is_span fun _ _ _ _ _ _ us hl => match us, hl with | [_], _ => rfl, F_is_span.kp, He.glo_ok X G (c.fact 11 (f := .glo "is_span") rfl)⟩
  have C_must_span : CalF P w K mg base "must_span" 3 ["span"] f_must_span := ⟨_, ok_must_span T C_is_span F_must_span, FunD.bindsN F_must_span fun _ _ _ _ _ _ us hl => match us, hl with | [_], _ => rfl, F_must_span.kp, He.glo_ok X G (c.fact 12 (f := .glo "must_span") rfl)⟩
  have C_must_weight : CalF P w K mg base "must_weight" 1 ["weight"] f_must_weight := ⟨_, ok_must_weight T F_must_weight, FunD.bindsN F_must_weight fun _ _ _ _ _ _ us hl => match us, hl with | [_], _ => rfl, F_must_weight.kp, He.glo_ok X G (c.fact 13 (f := .glo "must_weight") rfl)⟩
  have C_must_room : CalF P w K mg base "must_room" 1 ["many"] f_must_room := ⟨_, ok_must_room T F_must_room, FunD.bindsN F_must_room fun _ _ _ _ _ _ us hl => match us, hl with | [_], _ => rfl, F_must_room.kp, He.glo_ok X G (c.fact 14 (f := .glo "must_room") rfl)⟩
  have C_Shelf_change : CalM P w K mg base "Shelf" "change" 1 ["self", "kept"] f_Shelf_change := ⟨_, ok_Shelf_change T F_Shelf_change, FunD.bindsN F_Shelf_change fun _ _ _ _ _ _ us hl => match us, hl with | [_, _], _ => rfl, He.meth_ok (c.fact 15 (f := .meth "Shelf" "change") rfl)⟩
  have C_Shelf_set_one : CalM P w K mg base "Shelf" "set_one" 2 ["self", "name", "span", "weight"] f_Shelf_set_one := ⟨_, ok_Shelf_set_one T C_Shelf_change F_Shelf_set_one, FunD.bindsN F_Shelf_set_one fun _ _ _ _ _ _ us hl => match us, hl with | [_, _, _, _], _ => rfl, He.meth_ok (c.fact 16 (f := .meth "Shelf" "set_one") rfl)⟩
  have C_is_name : CalF P w K mg base "is_name" 1 ["text"] f_is_name := ⟨_, ok_is_name T F_is_name, FunD.bindsN F_is_name fun _ _ _ _ _ _ us hl => match us, hl with | [_], _ => rfl, F_is_name.kp, He.glo_ok X G (c.fact 17 (f := .glo "is_name") rfl)⟩
  have C_Shelf_put : CalM P w K mg base "Shelf" "put" 4 ["self", "name", "span", "weight"] f_Shelf_put := ⟨_, ok_Shelf_put T C_is_name C_must_span C_must_weight C_must_room C_Shelf_set_one F_Shelf_put, FunD.bindsN F_Shelf_put fun _ _ _ _ _ _ us hl => match us, hl with | [_, _, _, _], _ => rfl, He.meth_ok (c.fact 18 (f := .meth "Shelf" "put") rfl)⟩
  have C_law_shelf : CalF P w K mg base "_law_shelf" 6 ["_law_purse_here", "_law_names_here", "_law_ends"] f_law_shelf := ⟨_, ok_law_shelf T C_Shelf___init__ C_law_order C_law_draw C_law_span C_Shelf_put F_law_shelf, FunD.bindsN F_law_shelf fun _ _ _ _ _ _ us hl => match us, hl with | [_, _, _], _ => rfl, F_law_shelf.kp, He.glo_ok X G (c.fact 19 (f := .glo "_law_shelf") rfl)⟩
  have C_Shelf_names : CalM P w K mg base "Shelf" "names" 1 ["self"] f_Shelf_names := ⟨_, ok_Shelf_names T F_Shelf_names, FunD.bindsN F_Shelf_names fun _ _ _ _ _ _ us hl => match us, hl with | [_], _ => rfl, He.meth_ok (c.fact 20 (f := .meth "Shelf" "names") rfl)⟩
  have C_touches : CalF P w K mg base "touches" 1 ["one", "other"] f_touches := ⟨_, ok_touches T F_touches, FunD.bindsN F_touches fun _ _ _ _ _ _ us hl => match us, hl with | [_, _], _ => rfl, F_touches.kp, He.glo_ok X G (c.fact 21 (f := .glo "touches") rfl)⟩
  have C_Shelf_must_have : CalM P w K mg base "Shelf" "must_have" 1 ["self", "name"] f_Shelf_must_have := ⟨_, ok_Shelf_must_have T F_Shelf_must_have, FunD.bindsN F_Shelf_must_have fun _ _ _ _ _ _ us hl => match us, hl with | [_, _], _ => rfl, He.meth_ok (c.fact 22 (f := .meth "Shelf" "must_have") rfl)⟩
  have C_Shelf_span : CalM P w K mg base "Shelf" "span" 2 ["self", "name"] f_Shelf_span := ⟨_, ok_Shelf_span T C_Shelf_must_have F_Shelf_span, FunD.bindsN F_Shelf_span fun _ _ _ _ _ _ us hl => match us, hl with | [_, _], _ => rfl, He.meth_ok (c.fact 23 (f := .meth "Shelf" "span") rfl)⟩
  have C_clashes : CalF P w K mg base "clashes" 3 ["one", "other"] f_clashes := ⟨_, ok_clashes T C_Shelf_names C_touches C_Shelf_span F_clashes, FunD.bindsN F_clashes fun _ _ _ _ _ _ us hl => match us, hl with | [_, _], _ => rfl, F_clashes.kp, He.glo_ok X G (c.fact 24 (f := .glo "clashes") rfl)⟩
  have C_law_meet : CalF P w K mg base "_law_meet" 1 ["_law_one", "_law_other"] f_law_meet_2 := ⟨_, ok_law_meet T F_law_meet, FunD.bindsN F_law_meet fun _ _ _ _ _ _ us hl => match us, hl with | [_, _], _ => rfl, F_law_meet.kp, He.glo_ok X G (c.fact 25 (f := .glo "_law_meet") rfl)⟩
  have C_law_clashes : CalF P w K mg base "_law_clashes" 2 ["_law_one", "_law_other"] f_law_clashes := ⟨_, ok_law_clashes T C_law_meet F_law_clashes, FunD.bindsN F_law_clashes fun _ _ _ _ _ _ us hl => match us, hl with | [_, _], _ => rfl, F_law_clashes.kp, He.glo_ok X G (c.fact 26 (f := .glo "_law_clashes") rfl)⟩
  have C_law_holds : CalF P w K mg base "_law_holds" 1 ["_law_kept", "_law_place"] f_law_holds_3 := ⟨_, ok_law_holds T F_law_holds, FunD.bindsN F_law_holds fun _ _ _ _ _ _ us hl => match us, hl with | [_, _], _ => rfl, F_law_holds.kp, He.glo_ok X G (c.fact 27 (f := .glo "_law_holds") rfl)⟩
  have C_law_pieces : CalF P w K mg base "_law_pieces" 2 ["_law_one", "_law_other", "_law_wanted"] f_law_pieces_2 := ⟨_, ok_law_pieces T C_law_holds F_law_pieces, FunD.bindsN F_law_pieces fun _ _ _ _ _ _ us hl => match us, hl with | [_, _, _], _ => rfl, F_law_pieces.kp, He.glo_ok X G (c.fact 28 (f := .glo "_law_pieces") rfl)⟩
  have C_shared_by : CalF P w K mg base "shared_by" 1 ["one", "other"] f_shared_by := ⟨_, ok_shared_by T F_shared_by, FunD.bindsN F_shared_by fun _ _ _ _ _ _ us hl => match us, hl with | [_, _], _ => rfl, F_shared_by.kp, He.glo_ok X G (c.fact 29 (f := .glo "shared_by") rfl)⟩
  have C_poured : CalF P w K mg base "poured" 1 ["spans"] f_poured := ⟨_, ok_poured T F_poured, FunD.bindsN F_poured fun _ _ _ _ _ _ us hl => match us, hl with | [_], _ => rfl, F_poured.kp, He.glo_ok X G (c.fact 30 (f := .glo "poured") rfl)⟩
  have C_Shelf_spans : CalM P w K mg base "Shelf" "spans" 2 ["self"] f_Shelf_spans := ⟨_, ok_Shelf_spans T C_Shelf_names F_Shelf_spans, FunD.bindsN F_Shelf_spans fun _ _ _ _ _ _ us hl => match us, hl with | [_], _ => rfl, He.meth_ok (c.fact 31 (f := .meth "Shelf" "spans") rfl)⟩
  have C_Shelf_cover : CalM P w K mg base "Shelf" "cover" 3 ["self"] f_Shelf_cover := ⟨_, ok_Shelf_cover T C_poured C_Shelf_spans F_Shelf_cover, FunD.bindsN F_Shelf_cover fun _ _ _ _ _ _ us hl => match us, hl with | [_], _ => rfl, He.meth_ok (c.fact 32 (f := .meth "Shelf" "cover") rfl)⟩
  have C_shared : CalF P w K mg base "shared" 4 ["one", "other"] f_shared := ⟨_, ok_shared T C_shared_by C_Shelf_cover F_shared, FunD.bindsN F_shared fun _ _ _ _ _ _ us hl => match us, hl with | [_, _], _ => rfl, F_shared.kp, He.glo_ok X G (c.fact 33 (f := .glo "shared") rfl)⟩
  have C_left_of : CalF P w K mg base "left_of" 2 ["one", "other"] f_left_of := ⟨_, ok_left_of T C_shared_by F_left_of, FunD.bindsN F_left_of fun _ _ _ _ _ _ us hl => match us, hl with | [_, _], _ => rfl, F_left_of.kp, He.glo_ok X G (c.fact 34 (f := .glo "left_of") rfl)⟩
  have C_spare : CalF P w K mg base "spare" 4 ["one", "other"] f_spare := ⟨_, ok_spare T C_left_of C_Shelf_cover F_spare, FunD.bindsN F_spare fun _ _ _ _ _ _ us hl => match us, hl with | [_, _], _ => rfl, F_spare.kp, He.glo_ok X G (c.fact 35 (f := .glo "spare") rfl)⟩
  have C_law_right : CalF P w K mg base "_law_right" 5 ["_law_one", "_law_other"] f_law_right_10 := ⟨_, ok_law_right T C_law_clashes C_law_pieces C_clashes C_shared C_spare C_Shelf_names C_Shelf_span F_law_right, FunD.bindsN F_law_right fun _ _ _ _ _ _ us hl => match us, hl with | [_, _], _ => rfl, F_law_right.kp, He.glo_ok X G (c.fact 36 (f := .glo "_law_right") rfl)⟩
  exact ok_law T C_law_purse C_law_names C_law_shelf C_law_right C_clashes C_Shelf___init__ F_law
end LW
open PySem PySem.W PySem.Calls PyProof.Rows
set_option maxRecDepth 100000 in
set_option maxHeartbeats 0 in
theorem PySem.Challenge.cw_spanshelf_k70_clashes_holds : PySem.Challenge.rw_spanshelf_k70_clashes.Holds := by
  w_on; o_law
  refine HandSHeadRun.head_any (r := OpenLaw.row PySem.Challenge.rw_spanshelf_k70_clashes) (q := view (OpenLaw.row PySem.Challenge.rw_spanshelf_k70_clashes).prog [52]) (H := LW.hk) (ob := LW.ob) (M := 40000) (loose := LW.loose) (d := HandSHeadRun.topDef (OpenLaw.row PySem.Challenge.rw_spanshelf_k70_clashes).prog 52) (kwd := []) LW.ob_eq
    (by kernel_rfl) (fun s => by kernel_rfl) LW.run (by kernel_rfl) (by kernel_rfl) (by kernel_rfl) (by rfl) (by first | assumption | decide +kernel) (by decide +kernel) ⟨rfl, rfl, rfl, rfl, rfl, by decide +kernel⟩ ?hw ?hc
  case hw => w_witness2
  case hc =>
    refine L2.walk_ofE (l := PySem.Challenge.rw_spanshelf_k70_clashes) (n := 63) (k := 7) (x := "_law_script") (CX := L2.CX0) rfl (by decide) (by kernel_rfl) ⟨rfl, by decide, by decide⟩ ?F (fun _ _ _ _ z => z)
    intro w mg fa h Y G hmg0
    obtain ⟨K, KX, c, hx⟩ := Y
    have hmg : mg ("law" : PySem.Str) = some (.ref fa) := by
      have e : (HandSHeadRun.topDef (OpenLaw.row PySem.Challenge.rw_spanshelf_k70_clashes).prog 52).name = ("law" : PySem.Str) := by kernel_rfl
      rw [← e]
      exact hmg0
    obtain ⟨fd, hb, hF⟩ := LW.facts (P := (PySem.Challenge.rw_spanshelf_k70_clashes).prog) (w := w) KX G hmg c (DL.xsB_ok hx)
    refine ⟨K, fd, DL.spF K DL.f_law_k70, KX, hb, fun H a ns hl _ hS => ?_, hF⟩
    obtain ⟨m', hm⟩ := DL.law_true ns hl
    exact DL.law_startF hS hm
