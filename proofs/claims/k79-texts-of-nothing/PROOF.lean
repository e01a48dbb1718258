import PyProof.Rows.All
import Wide.All
import OpenK.AllK
import Wide.FinOn
import HandS.ForMost
import HandS.ForExc
import HandS.ExcValue
import HandS.ExcIs
import HandS.IsInst
import HandS.Evl
import HandS.HeadHook1
import HandS.Flt
import HandS.Wide
import HandS.WideBits
import HandS.Defaults
import HandS.Style
import HandS.TupLe
import HandS.HeadEnd
import HandS.HeadHook2
import HandS.Head0
import HandS.Head1
import HandS.Head2
import HandS.SortInts
import HandS.SortRule
import HandS.SetFor
import HandS.Conv
import HandS.Sort
import HandS.NoneIn
import HandS.More
import KE.DataFind
import HandS.Dict
import HandS.Text
import HandS.WordsDict
import HandS.Iter
import HandS.ListEq
import PyProof.DictCopy
import PyProof.DictUpdate
import HandS.Replace
import PyProof.NeKinds
import KE.KSortTupAny
import HandS.Deep
import HandS.TryOnly
import PyProof.StrOps2
import HandS.SetKeys
import HandS.List
import HandS.HeadHook3
import KE.GoesMore
import HandS.Comp
import HandS.ExcOwn
import HandS.ExcCtx
import HandS.SuiteRaise
import HandS.RaiseFrom
import HandS.DictComp
import PySem.Challenge.RW_spanshelf_k79_texts_of_nothing
set_option Elab.async false
set_option linter.all false
set_option maxRecDepth 100000
set_option maxHeartbeats 4000000
/-! Errors kept as values: an error that a clause has caught is put by a name and stays tracked; it may be asked for its class later. -/
namespace DL
open PySem PySem.Spec PyProof.Rows L2
/-- an exception object of the class cls at a (it may have been raised) -/
def ExV (cls : Value) (a : Addr) : HO := .ext fun h => ∃ (oe : Obj) (vs : Array Value), h.get? a = some oe ∧ Zc cls none oe ∧ oe.data = .fields vs
/-- an object that nobody tracked, younger than the entry, is tracked from now on -/
theorem inv_track {X : Cx} {pins : List (Addr × Obj)} {σ : L2.St} {H : Hp} {s : Shared} {a : Addr} {oe : Obj} {o : HO} (I : Inv X pins σ H s) (ha : s.heap.get? a = some oe) (na : H a = none) (nL : a ≠ X.env.locals)
    (nC : ∀ x c, X.env.cells.lookup x = some c → c ≠ a) (n0 : X.s_0.heap.get? a = none) (np : ∀ p ∈ X.pn ++ pins, p.1 ≠ a) (new : ObjOk X.prog X.w (upd H a o) s.heap a o) : Inv X pins σ (upd H a o) s := by
  have young : ∀ b u, X.s_0.heap.get? b = some u → b ≠ a := fun b u e z => by rw [z, n0] at e; cases e
  have same : ∀ b u, H b = some u → upd H a o b = some u := fun b u e => by rw [upd_ne (ne_of_none e na)]; exact e
  refine ⟨I.ok, I.os, I.bare, ⟨I.base.keep, I.base.slot, ?_, I.base.there, fun b xs e => same _ _ (I.base.tups b xs e), fun b u w e => same _ _ (I.base.frzs b u w e), ?_⟩, I.loc, I.cell, ?_, ?_, ?_, ?_, I.len⟩
  · intro b u e n hx
    rw [upd_ne (young b u e)]
    exact I.base.free b u e n hx
  · intro b ps e
    obtain ⟨more, q⟩ := I.base.tbls b ps e
    exact ⟨more, same _ _ q⟩
  · rw [upd_ne (Ne.symm nL)]
    exact I.free
  · intro x c e
    rw [upd_ne (nC x c e)]
    exact I.freeC x c e
  · intro p hp
    have q := I.pin p hp
    exact ⟨q.1, by rw [upd_ne (np p hp)]; exact q.2.1, q.2.2⟩
  · intro b u e
    by_cases hb : b = a
    · subst hb
      rw [upd_same] at e
      cases e
      exact new
    · rw [upd_ne hb] at e
      exact (I.hok b u e).stay (fun _ _ _ q => q) (fun c q => same _ _ q) fun c xs q => same _ _ q
/-- what a clause that keeps the error wishes: i the clause's name, j the name that holds it behind -/
def wKeep (K : PySem.W.Frag) (c : Value) (i j : Nat) (D : Ends) : WX := fun cls d σ H =>
  PySem.W.exmOne K cls c = some true ∧ d = none ∧ ∀ a, H a = none → D.nx (((σ.set i (some (.ref a))).set j (some (.ref a))).set i none) (upd H a (ExV cls a))
section
variable {X : Cx} {x n : Str} {c : Value} {i j : Nat} {body : List Stmt} {sj : Stmt} {p1 p2 p3 : Pos} {tb : WX → TS}
theorem ps_try_keep (hst : X.stack = X.env :: X.outer) (hfm : X.env.frame = some X.env.locals) (hex : X.ex = []) (nd : X.N.Nodup) (hi : X.N[i]? = some n) (hk : X.env.kindOf n = some .local) (hcl : Names X x c)
    (hB : ∀ (W : WX) (pn : List (Addr × Obj)) (xe : Value → Shared → Prop), Takes (X.tr pn xe) W → PassesOwn (model X.prog X.w) X.A X.env xe → PSs (X.tr pn xe) body (tb W))
    (hS : ∀ (a : Addr) (oe : Obj) (pn : List (Addr × Obj)), PSs (X.suite a ((a, oe) :: pn)) [sj] (tAsg (tVar i) (gName j))) :
    PS X (.Try body [.ExceptHandler (some (.Name x p1)) (some n) [sj] p2] [] [] p3) (fun D σ H => tb (wKeep X.K c i j D) D σ H) := by
  refine ⟨fun pins s σ H D I0 wish => wpAny_Try_except ?_⟩
  have okX := I0.ok
  have frs0 : X.A.frames = some (X.env :: X.outer) := okX.frames.trans (congrArg some hst)
  let catching : Value → Shared → Prop := fun e s1 => wpAny (model X.prog X.w) X.A (noteFrame e X.env) (fun _ s2 => wpAny (model X.prog X.w) X.A (setFlight e none) (fun _ s3 =>
    wpAny (model X.prog X.w) X.A (handleBy e X.env [.ExceptHandler (some (.Name x p1)) (some n) [sj] p2]) (SP X pins D) X.xe s3) X.xe s2) X.xe s1
  have caught : Takes (X.tr (X.pn ++ pins) catching) (wKeep X.K c i j D) := by
    rintro u sA ⟨a, B, sI, _, τ, G, cls, d, rfl, I1, ground, upS, sky, freeA, osE, gensE, isC, rfl, go⟩
    have I2 : Inv X pins τ G sI := I1.ofTry okX
    show catching (.ref a) sA
    refine Sky.land Zc.steady frs0 hfm (hst ▸ sky) fun hp3 fly3 up3 => ?_
    obtain ⟨o3, v3, get3, z3, data3⟩ := fly3.there
    have offFrames : a ∉ frs (X.env :: X.outer) := fun hm => by
      obtain ⟨_, o', e', nf⟩ := fly3.2.2.1.mem hm
      rw [get3] at e'
      cases e'
      exact nf _ data3
    have offL : a ≠ X.env.locals := fun z => offFrames (List.mem_filterMap.mpr ⟨X.env, List.mem_cons_self, hfm.trans (congrArg some z.symm)⟩)
    have offF : a ∉ X.fs := fun hm => by
      obtain ⟨e, he, q⟩ := List.mem_filterMap.mp hm
      exact offFrames (List.mem_filterMap.mpr ⟨e, .tail _ he, q⟩)
    have gone1 : sI.heap.get? a = none := by
      cases q : sI.heap.get? a with
      | none => rfl
      | some o =>
        have z := ground a o q (hst ▸ offFrames)
        rw [fly3.2.1] at z
        cases z
    have gone0 : X.s_0.heap.get? a = none := by
      cases q : X.s_0.heap.get? a with
      | none => rfl
      | some o =>
        obtain ⟨_, z⟩ := I2.base.there a o q (by rw [hex]; exact fun y => nomatch y)
        rw [gone1] at z
        cases z
    have I3 : Inv X pins τ G { sA with heap := hp3 } := I2.landed ground fly3.1 (upS.trans up3) osE gensE
    have C3 := I3.suite get3 data3 freeA offL offF
    refine wpAny_handleBy_cons (codeAny_handlers_test ?_) (fun q => nomatch q)
    have looks := PySem.W.exm_one (M := model X.prog X.w) I3.kIn (fun _ _ _ _ k q => wpAny_typeOf_ref (k _ _ get3) (z3.1.symm ▸ q)) isC
    have named : ∀ {Q : Value → Shared → Prop} {E : Value → Shared → Prop}, Q c { sA with heap := hp3 } → wpAny (model X.prog X.w) (X.A.mark (some (.ref a))) (eval (.Name x p1) X.env) Q E { sA with heap := hp3 } := by
      intro Q E q
      rcases hcl with ⟨g1, g2, g3 | ⟨g3, g4, g5⟩⟩
      · exact ld_glob (X := X.suite a ((a, o3) :: (X.pn ++ pins))) C3 g1 g3 q g2
      · exact ld_blt (X := X.suite a ((a, o3) :: (X.pn ++ pins))) C3 g1 g3 g4 q g5 g2
    refine named (looks.here (codeAny_handlers_suite_as (HandSPX.lands_againZ fly3 fun hp4 fly4 up4 => ?_)))
    obtain ⟨o4, v4, get4, z4, data4⟩ := fly4.there
    have C4 := (I2.landed (s' := { sA with heap := hp4 }) ground fly4.1 ((upS.trans up3).trans up4) osE gensE).suite get4 data4 freeA offL offF
    refine store_ok (X := X.suite a ((a, o4) :: (X.pn ++ pins))) (v := .ref a) C4 nd hi (.inl hk) rfl (fun s5 C5 => ?_) (.inr hk)
    have hlt : i < τ.length := by rw [I2.len]; exact (List.getElem?_eq_some_iff.mp hi).1
    refine wpAny_mono ((hS a o4 (X.pn ++ pins)).run [] s5 _ G { nx := fun σ6 H6 => H6 = G ∧ σ6 = (τ.set i (some (.ref a))).set j (some (.ref a)), rt := fun _ _ => False } C5 ⟨.ref a, List.getElem?_set_self hlt, rfl, rfl⟩) ?_ (fun _ _ z => z.elim)
    rintro (_ | _ | _ | _) s6 fin
    case next =>
      obtain ⟨_, _, C6, rfl, rfl⟩ := fin
      refine gone_ok (X := X.suite a ((a, o4) :: (X.pn ++ pins))) C6 nd hi hk fun s7 C7 => ?_
      obtain ⟨get7, free7, _, _, notCell⟩ := C7.pin (a, o4) (List.mem_append_left _ (.head _))
      have I7 : Inv X pins _ _ s7 := C7.unsuite okX
      refine ⟨_, _, inv_track (a := a) (o := ExV cls a) I7 get7 free7 offL (fun y cc e z => ?_) gone0 (fun p hp z => ?_) ⟨⟨o4, v4, get7, z4, data4⟩, ⟨o4, get7⟩, fun _ _ ⟨o, v, q, r⟩ k => ⟨o, v, k o q, r⟩⟩, go a freeA⟩
      · obtain ⟨v, o, ho, hd⟩ := I7.cell y cc e
        rw [z, get7] at ho
        cases ho
        exact notCell v hd
      · have q := (I2.pin p hp).1
        rw [z, gone1] at q
        cases q
    all_goals
      first
        | (obtain ⟨_, _, _, z⟩ := fin; exact z.elim)
        | (obtain ⟨_, _, _, _, _, z⟩ := fin; exact z.elim)
  refine wpAny_mono ((hB _ _ catching caught PassesOwn.looking).run [] s σ H D (I0.toTry _) wish) ?_ (fun _ _ z => z)
  rintro (_ | _ | _ | _) s1 fin
  case next =>
    obtain ⟨σ1, H1, J1, q⟩ := fin
    exact wpAny_execs_nil ⟨σ1, H1, J1.ofTry okX, q⟩
  all_goals
    first
      | (obtain ⟨σ1, H1, J1, q⟩ := fin; exact ⟨σ1, H1, J1.ofTry okX, q⟩)
      | (obtain ⟨v1, σ1, H1, J1, rv, q⟩ := fin; exact ⟨v1, σ1, H1, J1.ofTry okX, rv, q⟩)
end
end DL
/-! The data layer: what readings make of plain data (D) and of cells (mutable lists, instances, dicts by number), heaps hidden. -/
namespace DL
open PySem PySem.Spec PyProof.Rows L2

inductive D where
  | non | bl (b : Bool) | int (i : Int) | str (x : Str) | lst (xs : List D) | tup (xs : List D) | cell (k : Nat) | scr (ns : List Int) | exc (x : Str)

inductive Cell where
  | lst (xs : List D)
  | ins (C : Str) (fs : List (Str × D))
  | dK (kvs : List (Key × D))
  | gone
  | fz (kvs : List (Key × D))
abbrev Store := List Cell
abbrev En := List (Option D)

def Cell.on : Cell → Bool
  | .gone => false
  | .fz _ => false
  | _ => true
def live (m : Store) (k : Nat) : Prop := ∃ c, m[k]? = some c ∧ c.on = true

mutual
inductive Rep (K : PySem.W.Frag) (r : List Addr) (F : Hp) : V → D → Prop
  | non : Rep K r F .non .non
  | bl (b : Bool) : Rep K r F (.bl b) (.bl b)
  | int (i : Int) : Rep K r F (.int i) (.int i)
  | str (x : Str) : Rep K r F (.str x) (.str x)
  | lst {a : Addr} {xs : List V} {ds : List D} : F a = some (.lst xs) → RepAll K r F xs ds → Rep K r F (.ref a) (.lst ds)
  | tup {a : Addr} {xs : List V} {ds : List D} : F a = some (.tup xs) → RepAll K r F xs ds → Rep K r F (.ref a) (.tup ds)
  | cell {k : Nat} {a : Addr} : r[k]? = some a → Rep K r F (.ref a) (.cell k)
  | scr {a : Addr} {ns : List Int} : SqL K F a (ns.map V.int) → Rep K r F (.ref a) (.scr ns)
  | exc {a : Addr} {x : Str} : (F a = some (ExV (.ref (He.ga K x)) a) ∨ F a = some (ExO (.ref (He.ga K x)) a)) → Rep K r F (.ref a) (.exc x)
inductive RepAll (K : PySem.W.Frag) (r : List Addr) (F : Hp) : List V → List D → Prop
  | nil : RepAll K r F [] []
  | cons {v : V} {vs : List V} {d : D} {ds : List D} : Rep K r F v d → RepAll K r F vs ds → RepAll K r F (v :: vs) (d :: ds)
end

def Pre (r r' : List Addr) : Prop := ∀ (k : Nat) a, r[k]? = some a → r'[k]? = some a
theorem Pre.refl (r : List Addr) : Pre r r := fun _ _ h => h
theorem Pre.trans {a b c : List Addr} (x : Pre a b) (y : Pre b c) : Pre a c := fun k z h => y k z (x k z h)
theorem Pre.app (r m : List Addr) : Pre r (r ++ m) := fun k a h => by
  have hk : k < r.length := (List.getElem?_eq_some_iff.mp h).1
  rw [List.getElem?_append_left hk]; exact h

section
variable {K : PySem.W.Frag} {r r' : List Addr} {F F' : Hp}
mutual
theorem Rep.mono (p : Pre r r') (e : Same F F') : ∀ {v : V} {d : D}, Rep K r F v d → Rep K r' F' v d
  | _, _, .non => .non
  | _, _, .bl b => .bl b
  | _, _, .int i => .int i
  | _, _, .str x => .str x
  | _, _, .lst s h => .lst (e _ _ s) (RepAll.mono p e h)
  | _, _, .tup s h => .tup (e _ _ s) (RepAll.mono p e h)
  | _, _, .cell h => .cell (p _ _ h)
  | _, _, .scr h => .scr (e.seq h)
  | _, _, .exc h => .exc (h.imp (e _ _) (e _ _))
theorem RepAll.mono (p : Pre r r') (e : Same F F') : ∀ {vs : List V} {ds : List D}, RepAll K r F vs ds → RepAll K r' F' vs ds
  | _, _, .nil => .nil
  | _, _, .cons h t => .cons (Rep.mono p e h) (RepAll.mono p e t)
end
end

mutual
/-- no cell stands in it -/
def D.pure : D → Bool
  | .lst xs => D.pures xs
  | .tup xs => D.pures xs
  | .cell _ => false
  | .exc _ => false
  | _ => true
def D.pures : List D → Bool
  | [] => true
  | d :: ds => D.pure d && D.pures ds
end
section
variable {K : PySem.W.Frag} {r r' : List Addr} {F : Hp}
mutual
theorem Rep.pure : ∀ {v : V} {d : D}, d.pure = true → Rep K r F v d → Rep K r' F v d
  | _, _, _, .non => .non
  | _, _, _, .bl b => .bl b
  | _, _, _, .int i => .int i
  | _, _, _, .str x => .str x
  | _, _, p, .lst s h => .lst s (RepAll.pure p h)
  | _, _, p, .tup s h => .tup s (RepAll.pure p h)
  | _, _, p, .cell h => nomatch p
  | _, _, _, .scr h => .scr h
  | _, _, p, .exc h => nomatch p
theorem RepAll.pure : ∀ {vs : List V} {ds : List D}, D.pures ds = true → RepAll K r F vs ds → RepAll K r' F vs ds
  | _, _, _, .nil => .nil
  | _, _, p, .cons h t =>
    have q : (D.pure _ && D.pures _) = true := p
    .cons (Rep.pure (Bool.and_eq_true_iff.mp q).1 h) (RepAll.pure (Bool.and_eq_true_iff.mp q).2 t)
end
end

section
variable {K : PySem.W.Frag} {r : List Addr} {F : Hp}
theorem RepAll.len : ∀ {vs : List V} {ds : List D}, RepAll K r F vs ds → vs.length = ds.length
  | _, _, .nil => rfl
  | _, _, .cons _ t => congrArg Nat.succ t.len
theorem RepAll.get : ∀ {vs : List V} {ds : List D} {i : Nat} {d : D}, RepAll K r F vs ds → ds[i]? = some d → ∃ v, vs[i]? = some v ∧ Rep K r F v d
  | _, _, _, _, .nil, e => by simp at e
  | _, _, 0, _, .cons h _, e => by simp at e; subst e; exact ⟨_, rfl, h⟩
  | _, _, i + 1, d, .cons _ t, e => by
    obtain ⟨u, h1, h2⟩ := RepAll.get (i := i) (d := d) t (by simpa using e)
    exact ⟨u, by simpa using h1, h2⟩
theorem RepAll.app : ∀ {vs ws : List V} {ds es : List D}, RepAll K r F vs ds → RepAll K r F ws es → RepAll K r F (vs ++ ws) (ds ++ es)
  | _, _, _, _, .nil, h => h
  | _, _, _, _, .cons h t, h' => .cons h (t.app h')
theorem RepAll.one {v : V} {d : D} (h : Rep K r F v d) : RepAll K r F [v] [d] := .cons h .nil
theorem RepAll.set {v : V} {d : D} (h : Rep K r F v d) : ∀ {vs : List V} {ds : List D} (i : Nat), RepAll K r F vs ds → RepAll K r F (vs.set i v) (ds.set i d)
  | _, _, _, .nil => .nil
  | _, _, 0, .cons _ t => .cons h t
  | _, _, i + 1, .cons q t => .cons q (RepAll.set h i t)
theorem RepAll.take : ∀ {vs : List V} {ds : List D} (n : Nat), RepAll K r F vs ds → RepAll K r F (vs.take n) (ds.take n)
  | _, _, 0, _ => .nil
  | _, _, _ + 1, .nil => .nil
  | _, _, n + 1, .cons h t => .cons h (RepAll.take n t)
theorem RepAll.drop : ∀ {vs : List V} {ds : List D} (n : Nat), RepAll K r F vs ds → RepAll K r F (vs.drop n) (ds.drop n)
  | _, _, 0, h => h
  | _, _, _ + 1, .nil => .nil
  | _, _, n + 1, .cons _ t => RepAll.drop n t
theorem RepAll.rev : ∀ {vs : List V} {ds : List D}, RepAll K r F vs ds → RepAll K r F vs.reverse ds.reverse
  | _, _, .nil => .nil
  | _, _, .cons h t => by rw [List.reverse_cons, List.reverse_cons]; exact (RepAll.rev t).app (.one h)
theorem RepAll.ints : ∀ {vs : List V} {ns : List Int}, RepAll K r F vs (ns.map D.int) → vs = ns.map V.int
  | _, [], .nil => rfl
  | _, _ :: _, .cons h t => by cases h; rw [RepAll.ints t]; rfl
theorem RepAll.bls : ∀ {vs : List V} {ns : List Bool}, RepAll K r F vs (ns.map D.bl) → vs = ns.map V.bl
  | _, [], .nil => rfl
  | _, _ :: _, .cons h t => by cases h; rw [RepAll.bls t]; rfl
end

/-! ### the heap -/
def RepF (K : PySem.W.Frag) (r : List Addr) (F : Hp) : List (Str × V) → List (Str × D) → Prop
  | [], [] => True
  | (x, v) :: gs, (y, d) :: fs => x = y ∧ Rep K r F v d ∧ RepF K r F gs fs
  | _, _ => False
def RepK (K : PySem.W.Frag) (r : List Addr) (F : Hp) : List (Key × V) → List (Key × D) → Prop
  | [], [] => True
  | (x, v) :: gs, (y, d) :: fs => x = y ∧ Rep K r F v d ∧ RepK K r F gs fs
  | _, _ => False
section
variable {K : PySem.W.Frag} {r r' : List Addr} {F F' : Hp}
theorem RepF.mono (p : Pre r r') (e : Same F F') : ∀ {gs : List (Str × V)} {fs : List (Str × D)}, RepF K r F gs fs → RepF K r' F' gs fs
  | [], [], _ => trivial
  | (x, v) :: gs, (y, d) :: fs, h => ⟨h.1, h.2.1.mono p e, RepF.mono p e h.2.2⟩
  | [], _ :: _, h => h.elim
  | _ :: _, [], h => h.elim
theorem RepK.mono (p : Pre r r') (e : Same F F') : ∀ {gs : List (Key × V)} {fs : List (Key × D)}, RepK K r F gs fs → RepK K r' F' gs fs
  | [], [], _ => trivial
  | (x, v) :: gs, (y, d) :: fs, h => ⟨h.1, h.2.1.mono p e, RepK.mono p e h.2.2⟩
  | [], _ :: _, h => h.elim
  | _ :: _, [], h => h.elim
end

def CellOk (K : PySem.W.Frag) (r : List Addr) (F H : Hp) (a : Addr) : Cell → Prop
  | .lst xs => ∃ vs, H a = some (.lst vs) ∧ RepAll K r F vs xs
  | .ins C fs => ∃ dx gs, H a = some (.ins (He.ga K C) dx gs) ∧ H dx = some (.own a) ∧ RepF K r F gs fs
  | .dK kvs => ∃ gs, H a = some (.dK gs) ∧ RepK K r F gs kvs
  | .gone => True
  | .fz _ => False

structure HR (K : PySem.W.Frag) (r : List Addr) (F H : Hp) (m : Store) : Prop where
  len : r.length = m.length
  sub : Same F H
  cell : ∀ (k : Nat) a c, r[k]? = some a → m[k]? = some c → c.on = true → F a = none ∧ CellOk K r F H a c
  inj : ∀ (k l : Nat) a, r[k]? = some a → r[l]? = some a → live m k → live m l → k = l
  fz : ∀ (k : Nat) a kvs, r[k]? = some a → m[k]? = some (.fz kvs) → ∃ od gs, F a = some (.frz od (.dK gs)) ∧ RepK K r F gs kvs
  fzi : ∀ (k l : Nat) a x y, r[k]? = some a → r[l]? = some a → m[k]? = some (.fz x) → m[l]? = some (.fz y) → k = l

structure Ext (r : List Addr) (F H : Hp) (m : Store) (r' : List Addr) (F' H' : Hp) (m' : Store) : Prop where
  pre : Pre r r'
  sub : Same F F'
  keep : ∀ a o, H a = some o → (∀ (k : Nat), live m k → r[k]? ≠ some a) → H' a = some o
  new : ∀ a, F a = none → F' a ≠ none → H a = none ∨ ∃ k : Nat, live m k ∧ r[k]? = some a
  fresh : ∀ (k : Nat) a, m.length ≤ k → r'[k]? = some a → H a = none
  dead : ∀ k : Nat, k < m.length → live m' k → live m k
  mlen : m.length ≤ m'.length
  trk : ∀ a o, H a = some o → ∃ o', H' a = some o'

theorem live_lt {m : Store} {k : Nat} (h : live m k) : k < m.length := by
  obtain ⟨c, h, _⟩ := h
  exact (List.getElem?_eq_some_iff.mp h).1

section
variable {K : PySem.W.Frag} {r r1 r2 : List Addr} {F H F1 H1 F2 H2 : Hp} {m m1 m2 : Store}
theorem HR.at_some (h : HR K r F H m) {k : Nat} {a : Addr} (l : live m k) (e : r[k]? = some a) : ∃ o, H a = some o := by
  obtain ⟨c, hc, ng⟩ := l
  have q := (h.cell k a c e hc ng).2
  cases c with
  | lst xs => obtain ⟨vs, q, _⟩ := q; exact ⟨_, q⟩
  | ins C fs => obtain ⟨_, _, q, _⟩ := q; exact ⟨_, q⟩
  | dK kvs => obtain ⟨_, q, _⟩ := q; exact ⟨_, q⟩
  | gone => cases ng
  | fz _ => cases ng
theorem Ext.refl (h : HR K r F H m) : Ext r F H m r F H m where
  pre := Pre.refl r
  sub := Same.refl F
  keep := fun _ _ e _ => e
  new := fun _ n e => absurd n e
  fresh := fun k a hk e => by
    have := (List.getElem?_eq_some_iff.mp e).1
    rw [h.len] at this
    exact absurd this (Nat.not_lt.mpr hk)
  dead := fun _ _ l => l
  mlen := Nat.le_refl _
  trk := fun _ o e => ⟨o, e⟩
theorem Ext.trans (hl : r1.length = m1.length) (hl0 : r.length = m.length) (x : Ext r F H m r1 F1 H1 m1) (y : Ext r1 F1 H1 m1 r2 F2 H2 m2) : Ext r F H m r2 F2 H2 m2 := by
  have back : ∀ a o, H a = some o → (∀ (k : Nat), live m k → r[k]? ≠ some a) → ∀ (k : Nat), live m1 k → r1[k]? ≠ some a := fun a o e n k l q => by
    by_cases hk : k < m.length
    · have l0 := x.dead k hk l
      have hr : k < r.length := by rw [hl0]; exact hk
      have e1 : r[k]? = some r[k] := List.getElem?_eq_getElem hr
      have e2 := x.pre k _ e1
      rw [q] at e2
      exact n k l0 (by rw [e1, ← e2])
    · have := x.fresh k a (Nat.not_lt.mp hk) q
      rw [e] at this; cases this
  refine ⟨x.pre.trans y.pre, x.sub.trans y.sub, fun a o e n => y.keep a o (x.keep a o e n) (back a o e n), fun a n e => ?_, fun k a hk e => ?_, fun k hk l => x.dead k hk (y.dead k (Nat.lt_of_lt_of_le hk x.mlen) l), Nat.le_trans x.mlen y.mlen, fun a o e => let ⟨o1, e1⟩ := x.trk a o e; y.trk a o1 e1⟩
  · cases q : F1 a with
    | some o => exact x.new a n (by rw [q]; exact fun z => nomatch z)
    | none =>
      rcases y.new a q e with z | ⟨k, l, z⟩
      · cases w : H a with
        | none => exact .inl rfl
        | some o =>
          by_cases hn : ∀ (k : Nat), live m k → r[k]? ≠ some a
          · rw [x.keep a o w hn] at z; cases z
          · refine .inr ?_
            have ⟨k, hk⟩ := Classical.not_forall.mp hn
            have ⟨l, hk⟩ := Classical.not_imp.mp hk
            exact ⟨k, l, Classical.not_not.mp hk⟩
      · by_cases hk : k < m.length
        · have l0 := x.dead k hk l
          have hr : k < r.length := by rw [hl0]; exact hk
          have e1 : r[k]? = some r[k] := List.getElem?_eq_getElem hr
          have e2 := x.pre k _ e1
          rw [z] at e2
          exact .inr ⟨k, l0, by rw [e1, ← e2]⟩
        · exact .inl (x.fresh k a (Nat.not_lt.mp hk) z)
  · by_cases hk1 : m1.length ≤ k
    · have := y.fresh k a hk1 e
      cases w : H a with
      | none => rfl
      | some o =>
        obtain ⟨o1, e1⟩ := x.trk a o w
        rw [e1] at this; cases this
    · have hr : k < r1.length := by rw [hl]; omega
      have e1 : r1[k]? = some r1[k] := List.getElem?_eq_getElem hr
      have e2 := y.pre k _ e1
      rw [e] at e2
      exact x.fresh k a hk (by rw [e1, ← e2])
end
end DL
namespace DL
open PySem PySem.Spec PyProof.Rows L2

section
variable {K : PySem.W.Frag} {r r' : List Addr} {F F' H H' : Hp} {m m' : Store}
theorem CellOk.mono (p : Pre r r') (e : Same F F') {a : Addr} : ∀ {c : Cell}, CellOk K r F H a c → CellOk K r' F' H a c
  | .lst xs, ⟨vs, h, q⟩ => ⟨vs, h, q.mono p e⟩
  | .ins C fs, ⟨dx, gs, h, h2, q⟩ => ⟨dx, gs, h, h2, q.mono p e⟩
  | .dK kvs, ⟨gs, h, q⟩ => ⟨gs, h, q.mono p e⟩
  | .gone, _ => trivial
  | .fz _, h => h.elim
/-- the heap around the cell's own object may change -/
theorem CellOk.heap {a : Addr} (k : ∀ b o, H b = some o → (b = a ∨ o = .own a) → H' b = some o) : ∀ {c : Cell}, CellOk K r F H a c → CellOk K r F H' a c
  | .lst xs, ⟨vs, h, q⟩ => ⟨vs, k _ _ h (.inl rfl), q⟩
  | .ins C fs, ⟨dx, gs, h, h2, q⟩ => ⟨dx, gs, k _ _ h (.inl rfl), k _ _ h2 (.inr rfl), q⟩
  | .dK kvs, ⟨gs, h, q⟩ => ⟨gs, k _ _ h (.inl rfl), q⟩
  | .gone, _ => trivial
  | .fz _, h => h.elim

theorem HR.ne_new (h : HR K r F H m) {p : Addr} (hp : H p = none) {k : Nat} {a : Addr} (l : live m k) (e : r[k]? = some a) : a ≠ p := by
  obtain ⟨o, q⟩ := h.at_some l e
  exact ne_of_none q hp
/-- new data at a new place -/
theorem HR.laid (h : HR K r F H m) {p : Addr} {o : HO} (hp : H p = none) : HR K r (upd F p o) (upd H p o) m := by
  have fp : F p = none := h.sub.free hp
  have s1 : Same F (upd F p o) := fun b u e => by rw [upd_ne (ne_of_none e fp)]; exact e
  refine ⟨h.len, fun b u e => ?_, fun k a c e1 e2 ng => ?_, h.inj, fun k a kvs e1 e2 => let ⟨od, gs, q1, q2⟩ := h.fz k a kvs e1 e2; ⟨od, gs, s1 _ _ q1, q2.mono (Pre.refl r) s1⟩, h.fzi⟩
  · by_cases hb : b = p
    · subst hb; rw [upd_same] at e ⊢; exact e
    · rw [upd_ne hb] at e ⊢; exact h.sub b u e
  · have ne : a ≠ p := h.ne_new hp ⟨c, e2, ng⟩ e1
    obtain ⟨q1, q2⟩ := h.cell k a c e1 e2 ng
    refine ⟨by rw [upd_ne ne]; exact q1, (q2.mono (Pre.refl r) s1).heap fun b o' hb _ => ?_⟩
    rw [upd_ne (ne_of_none hb hp)]; exact hb
theorem Ext.laid (h : HR K r F H m) {p : Addr} {o : HO} (hp : H p = none) : Ext r F H m r (upd F p o) (upd H p o) m where
  pre := Pre.refl r
  sub := fun b u e => by rw [upd_ne (ne_of_none e (h.sub.free hp))]; exact e
  keep := fun a u e _ => by rw [upd_ne (ne_of_none e hp)]; exact e
  new := fun a n e => by
    by_cases ha : a = p
    · subst ha; exact .inl hp
    · rw [upd_ne ha] at e; exact absurd n e
  fresh := fun k a hk e => (Ext.refl h).fresh k a hk e
  dead := fun _ _ l => l
  mlen := Nat.le_refl _
  trk := fun a u e => ⟨u, by rw [upd_ne (ne_of_none e hp)]; exact e⟩
/-- a new place that is tracked, neither data nor cell -/
theorem HR.side (h : HR K r F H m) {p : Addr} {o : HO} (hp : H p = none) : HR K r F (upd H p o) m := by
  refine ⟨h.len, fun b u e => ?_, fun k a c e1 e2 ng => ?_, h.inj, h.fz, h.fzi⟩
  · rw [upd_ne (ne_of_none (h.sub b u e) hp)]; exact h.sub b u e
  · obtain ⟨q1, q2⟩ := h.cell k a c e1 e2 ng
    exact ⟨q1, q2.heap fun b o' hb _ => by rw [upd_ne (ne_of_none hb hp)]; exact hb⟩
theorem Ext.side (h : HR K r F H m) {p : Addr} {o : HO} (hp : H p = none) : Ext r F H m r F (upd H p o) m where
  pre := Pre.refl r
  sub := Same.refl F
  keep := fun a u e _ => by rw [upd_ne (ne_of_none e hp)]; exact e
  new := fun a n e => absurd n e
  fresh := fun k a hk e => (Ext.refl h).fresh k a hk e
  dead := fun _ _ l => l
  mlen := Nat.le_refl _
  trk := fun a u e => ⟨u, by rw [upd_ne (ne_of_none e hp)]; exact e⟩
/-- a side place (neither data nor cell) changes -/
theorem HR.sideSet (h : HR K r F H m) {p : Addr} {o : HO} (fp : F p = none) (np : ∀ (k : Nat), live m k → r[k]? ≠ some p) (no : ∀ b, H p ≠ some (.own b)) : HR K r F (upd H p o) m := by
  refine ⟨h.len, fun b u e => ?_, fun k a c e1 e2 ng => ?_, h.inj, h.fz, h.fzi⟩
  · rw [upd_ne (ne_of_none e fp)]; exact h.sub b u e
  · obtain ⟨q1, q2⟩ := h.cell k a c e1 e2 ng
    have na : a ≠ p := fun z => np k ⟨c, e2, ng⟩ (by rw [e1, z])
    refine ⟨q1, q2.heap fun b o' hb w => ?_⟩
    have : b ≠ p := by
      rintro rfl
      rcases w with w | w
      · exact na w.symm
      · subst w; exact no _ hb
    rw [upd_ne this]; exact hb
/-- what stands apart becomes data -/
theorem HR.freeze (h : HR K r F H m) {p : Addr} {o : HO} (fp : F p = none) (np : ∀ (k : Nat), live m k → r[k]? ≠ some p) (hp : H p = some o) : HR K r (upd F p o) H m := by
  have s1 : Same F (upd F p o) := fun b u e => by rw [upd_ne (ne_of_none e fp)]; exact e
  refine ⟨h.len, fun b u e => ?_, fun k a c e1 e2 ng => ?_, h.inj, fun k a kvs e1 e2 => let ⟨od, gs, q1, q2⟩ := h.fz k a kvs e1 e2; ⟨od, gs, s1 _ _ q1, q2.mono (Pre.refl r) s1⟩, h.fzi⟩
  · by_cases hb : b = p
    · subst hb; rw [upd_same] at e; rw [hp]; exact e
    · rw [upd_ne hb] at e; exact h.sub b u e
  · have na : a ≠ p := fun z => np k ⟨c, e2, ng⟩ (by rw [e1, z])
    obtain ⟨q1, q2⟩ := h.cell k a c e1 e2 ng
    exact ⟨by rw [upd_ne na]; exact q1, q2.mono (Pre.refl r) s1⟩
/-- .. becomes a cell -/
theorem live_app {m : Store} {c : Cell} {k : Nat} (l : live (m ++ [c]) k) : live m k ∨ k = m.length := by
  obtain ⟨c', e, ng⟩ := l
  by_cases hk : k < m.length
  · rw [List.getElem?_append_left hk] at e; exact .inl ⟨c', e, ng⟩
  · have : k < (m ++ [c]).length := (List.getElem?_eq_some_iff.mp e).1
    rw [List.length_append] at this
    have : k < m.length + 1 := this
    exact .inr (by omega)
theorem HR.toCell (h : HR K r F H m) {p : Addr} {c : Cell} (fp : F p = none) (np : ∀ (k : Nat), live m k → r[k]? ≠ some p) (hc : CellOk K r F H p c) : HR K (r ++ [p]) F H (m ++ [c]) := by
  have pr : Pre r (r ++ [p]) := Pre.app r [p]
  have last : (r ++ [p])[m.length]? = some p := by rw [← h.len]; simp
  have low : ∀ (k : Nat) a, k < m.length → (r ++ [p])[k]? = some a → r[k]? = some a := fun k a hk e => by
    rw [List.getElem?_append_left (by rw [h.len]; exact hk)] at e; exact e
  refine ⟨by simp [h.len], h.sub, fun k a c' e1 e2 ng => ?_, fun k l a e1 e2 l1 l2 => ?_, fun k a kvs e1 e2 => ?_, fun k l a x y e1 e2 z1 z2 => ?_⟩
  · rcases live_app ⟨c', e2, ng⟩ with l | rfl
    · have hk := live_lt l
      rw [List.getElem?_append_left hk] at e2
      obtain ⟨q1, q2⟩ := h.cell k a c' (low k a hk e1) e2 ng
      exact ⟨q1, q2.mono pr (Same.refl F)⟩
    · rw [last] at e1; cases e1
      have : (m ++ [c])[m.length]? = some c := by simp
      rw [this] at e2; cases e2
      exact ⟨fp, hc.mono pr (Same.refl F)⟩
  · rcases live_app l1 with z1 | rfl
    · have k1 := low k a (live_lt z1) e1
      rcases live_app l2 with z2 | rfl
      · exact h.inj k l a k1 (low l a (live_lt z2) e2) z1 z2
      · rw [last] at e2; cases e2; exact absurd k1 (np k z1)
    · rw [last] at e1; cases e1
      rcases live_app l2 with z2 | rfl
      · exact absurd (low l _ (live_lt z2) e2) (np l z2)
      · rfl
  · have hk : k < (m ++ [c]).length := (List.getElem?_eq_some_iff.mp e2).1
    by_cases hk1 : k < m.length
    · rw [List.getElem?_append_left hk1] at e2
      obtain ⟨od, gs, q1, q2⟩ := h.fz k a kvs (low k a hk1 e1) e2
      exact ⟨od, gs, q1, q2.mono pr (Same.refl F)⟩
    · have hke : k = m.length := by rw [List.length_append] at hk; have : k < m.length + 1 := hk; omega
      subst hke
      have : (m ++ [c])[m.length]? = some c := by simp
      rw [this] at e2; cases e2
      exact hc.elim
  · have old : ∀ (k : Nat) x, (m ++ [c])[k]? = some (.fz x) → k < m.length ∧ m[k]? = some (.fz x) := fun k x e2 => by
      have hk : k < (m ++ [c]).length := (List.getElem?_eq_some_iff.mp e2).1
      by_cases hk1 : k < m.length
      · rw [List.getElem?_append_left hk1] at e2
        exact ⟨hk1, e2⟩
      · have hke : k = m.length := by rw [List.length_append] at hk; have : k < m.length + 1 := hk; omega
        subst hke
        have : (m ++ [c])[m.length]? = some c := by simp
        rw [this] at e2; cases e2
        exact hc.elim
    obtain ⟨k1, w1⟩ := old k x z1
    obtain ⟨k2, w2⟩ := old l y z2
    exact h.fzi k l a x y (low k a k1 e1) (low l a k2 e2) w1 w2
/-- a cell is written -/
theorem live_set {m : Store} {k l : Nat} {c : Cell} (hk : live m k) (h : live (m.set k c) l) : live m l := by
  by_cases e : k = l
  · subst e; exact hk
  · obtain ⟨c', e1, ng⟩ := h
    rw [List.getElem?_set_ne e] at e1
    exact ⟨c', e1, ng⟩
theorem HR.put (h : HR K r F H m) {k : Nat} {a : Addr} {c : Cell} {o : HO} (l : live m k) (e : r[k]? = some a) (no : ∀ b, H a ≠ some (.own b)) (hc : CellOk K r F (upd H a o) a c) : HR K r F (upd H a o) (m.set k c) := by
  obtain ⟨c0, e0, ng0⟩ := l
  have fa := (h.cell k a c0 e e0 ng0).1
  have hkl : k < m.length := live_lt ⟨c0, e0, ng0⟩
  refine ⟨by simp [h.len], fun b u q => ?_, fun l b c' e1 e2 ng => ?_, fun i j b e1 e2 l1 l2 => h.inj i j b e1 e2 (live_set ⟨c0, e0, ng0⟩ l1) (live_set ⟨c0, e0, ng0⟩ l2), fun l b kvs e1 e2 => ?_, fun i j b x y e1 e2 z1 z2 => ?_⟩
  · rw [upd_ne (ne_of_none q fa)]; exact h.sub b u q
  · by_cases hl : k = l
    · subst hl
      rw [e] at e1; cases e1
      rw [List.getElem?_set_self hkl] at e2; cases e2
      exact ⟨fa, hc⟩
    · rw [List.getElem?_set_ne hl] at e2
      obtain ⟨q1, q2⟩ := h.cell l b c' e1 e2 ng
      have nb : b ≠ a := fun z => hl (h.inj k l a e (by rw [e1, z]) ⟨c0, e0, ng0⟩ ⟨c', e2, ng⟩)
      refine ⟨q1, q2.heap fun x o' hx w => ?_⟩
      have : x ≠ a := by
        rintro rfl
        rcases w with w | w
        · exact nb w.symm
        · subst w; exact no _ hx
      rw [upd_ne this]; exact hx
  · by_cases hl : k = l
    · subst hl
      rw [List.getElem?_set_self hkl] at e2; cases e2
      exact hc.elim
    · rw [List.getElem?_set_ne hl] at e2
      exact h.fz l b kvs e1 e2
  · have old : ∀ (i : Nat) x, (m.set k c)[i]? = some (.fz x) → m[i]? = some (.fz x) := fun i x e2 => by
      by_cases hl : k = i
      · subst hl
        rw [List.getElem?_set_self hkl] at e2; cases e2
        exact hc.elim
      · rw [List.getElem?_set_ne hl] at e2
        exact e2
    exact h.fzi i j b x y e1 e2 (old i x z1) (old j y z2)
theorem Ext.put (h : HR K r F H m) {k : Nat} {a : Addr} {c : Cell} {o : HO} (l : live m k) (e : r[k]? = some a) : Ext r F H m r F (upd H a o) (m.set k c) where
  pre := Pre.refl r
  sub := Same.refl F
  keep := fun b u q n => by rw [upd_ne (fun z => n k l (by rw [e, z]))]; exact q
  new := fun a n e => absurd n e
  fresh := fun k a hk e => (Ext.refl h).fresh k a hk e
  dead := fun j _ z => live_set l z
  mlen := by simp
  trk := fun b u q => by
    by_cases hb : b = a
    · subst hb; exact ⟨_, upd_same⟩
    · exact ⟨u, by rw [upd_ne hb]; exact q⟩
/-- behind the work a place that was new becomes data, or a cell -/
theorem Ext.freeze (x : Ext r F H m r' F' H' m') {p : Addr} {o : HO} (fp : F' p = none) (n : H p = none) : Ext r F H m r' (upd F' p o) H' m' where
  pre := x.pre
  sub := fun b u e => by rw [upd_ne (ne_of_none (x.sub b u e) fp)]; exact x.sub b u e
  keep := x.keep
  new := fun a n' e => by
    by_cases ha : a = p
    · subst ha; exact .inl n
    · rw [upd_ne ha] at e; exact x.new a n' e
  fresh := x.fresh
  dead := x.dead
  mlen := x.mlen
  trk := x.trk
theorem Ext.toCell (x : Ext r F H m r' F' H' m') (hl : r'.length = m'.length) {p : Addr} {c : Cell} (n : H p = none) : Ext r F H m (r' ++ [p]) F' H' (m' ++ [c]) where
  pre := x.pre.trans (Pre.app _ _)
  sub := x.sub
  keep := x.keep
  new := x.new
  fresh := fun k a hk e => by
    by_cases hk1 : k < r'.length
    · rw [List.getElem?_append_left hk1] at e; exact x.fresh k a hk e
    · rw [List.getElem?_append_right (by omega)] at e
      have : a = p := by
        cases q : k - r'.length with
        | zero => rw [q] at e; simp at e; exact e.symm
        | succ j => rw [q] at e; simp at e
      rw [this]; exact n
  dead := fun k hk l => by
    rcases live_app l with z | rfl
    · exact x.dead k hk z
    · exact absurd x.mlen (by omega)
  mlen := by simp; exact Nat.le_succ_of_le x.mlen
  trk := x.trk
end

/-! ### the judgements -/
def ER (K : PySem.W.Frag) (r : List Addr) (F : Hp) (σ : L2.St) (δ : En) : Prop := σ.length = δ.length ∧ ∀ (i : Nat) d, δ[i]? = some (some d) → ∃ v, σ[i]? = some (some v) ∧ Rep K r F v d
theorem ER.mono {K : PySem.W.Frag} {r r' : List Addr} {F F' : Hp} {σ : L2.St} {δ : En} (p : Pre r r') (e : Same F F') (h : ER K r F σ δ) : ER K r' F' σ δ := ⟨h.1, fun i d q => let ⟨v, a, b⟩ := h.2 i d q; ⟨v, a, b.mono p e⟩⟩
theorem ER.ext {K : PySem.W.Frag} {r r' : List Addr} {F F' H H' : Hp} {m m' : Store} {σ : L2.St} {δ : En} (x : Ext r F H m r' F' H' m') (h : ER K r F σ δ) : ER K r' F' σ δ := h.mono x.pre x.sub
theorem ER.set {K : PySem.W.Frag} {r : List Addr} {F : Hp} {σ : L2.St} {δ : En} {v : V} {d : D} (h : ER K r F σ δ) (i : Nat) (q : Rep K r F v d) : ER K r F (σ.set i (some v)) (δ.set i (some d)) := by
  refine ⟨by simp [h.1], fun j e he => ?_⟩
  by_cases hj : i = j
  · subst hj
    have hl : i < (δ.set i (some d)).length := (List.getElem?_eq_some_iff.mp he).1
    rw [List.length_set] at hl
    rw [List.getElem?_set_self hl] at he
    cases he
    exact ⟨v, by rw [List.getElem?_set_self (by rw [h.1]; exact hl)], q⟩
  · rw [List.getElem?_set_ne hj] at he ⊢
    exact h.2 j e he
/-- what is forgotten -/
def Weak (δ δ' : En) : Prop := δ.length = δ'.length ∧ ∀ (i : Nat) d, δ'[i]? = some (some d) → δ[i]? = some (some d)
theorem ER.weak {K : PySem.W.Frag} {r : List Addr} {F : Hp} {σ : L2.St} {δ δ' : En} (h : ER K r F σ δ) (w : Weak δ δ') : ER K r F σ δ' := ⟨h.1.trans w.1, fun i d q => h.2 i d (w.2 i d q)⟩

abbrev Post1 (K : PySem.W.Frag) (r : List Addr) (F H : Hp) (m : Store) (d : D) (m' : Store) (Q : VK) : Prop := ∀ v r' F' H', HR K r' F' H' m' → Ext r F H m r' F' H' m' → Rep K r' F' v d → Q v H'
/-- on values -/
def Y2 (K : PySem.W.Frag) (rr : R2) (d e : D) (m : Store) (z : D) (m' : Store) : Prop := ∀ r F H x y, HR K r F H m → Rep K r F x d → Rep K r F y e → ∀ Q : VK, Post1 K r F H m z m' Q → rr x y H Q
def YC (K : PySem.W.Frag) (rr : List V → Hp → VK → Prop) (ds : List D) (m : Store) (z : D) (m' : Store) : Prop := ∀ r F H vs, HR K r F H m → RepAll K r F vs ds → ∀ Q : VK, Post1 K r F H m z m' Q → rr vs H Q
section
variable {K : PySem.W.Frag} {t ta tb tc : TE} {tt tu : TT} {tas : TA} {δ : En} {m m1 m2 m3 : Store} {d d1 d2 d3 : D} {ds : List D} {rr : R2}
theorem trk_back {r r' : List Addr} {F H F' H' : Hp} {m m' : Store} (x : Ext r F H m r' F' H' m') {p : Addr} (np : H' p = none) : H p = none := by
  cases e : H p with
  | none => rfl
  | some o =>
    obtain ⟨o', e'⟩ := x.trk p o e
    rw [e'] at np; cases np
end
end DL
namespace DL
open PySem PySem.Spec PyProof.Rows L2

/-! ### data and PyData -/
mutual
def D.toPy : D → PyData
  | .non => .none
  | .bl b => .bool b
  | .int i => .int i
  | .str x => .str x
  | .lst xs => .list (D.toPys xs)
  | .tup xs => .tuple (D.toPys xs)
  | .cell _ => .none
  | .scr ns => .list (ns.map PyData.int)
  | .exc _ => .none
def D.toPys : List D → List PyData
  | [] => []
  | d :: ds => D.toPy d :: D.toPys ds
end
theorem dp_ints {K : PySem.W.Frag} {H : Hp} : ∀ ns : List Int, DpAll K H (ns.map V.int) (ns.map PyData.int)
  | [] => .nil
  | n :: ns => .cons (.int n) (dp_ints ns)
section
variable {K : PySem.W.Frag} {r : List Addr} {F H : Hp}
mutual
theorem Rep.dp (s : Same F H) : ∀ {v : V} {d : D}, d.pure = true → Rep K r F v d → Dp K H v d.toPy
  | _, _, _, .non => .non
  | _, _, _, .bl b => .bl b
  | _, _, _, .int i => .int i
  | _, _, _, .str x => .str x
  | _, _, p, .lst h t => .lst (SqL.of (s _ _ h)) (RepAll.dp s p t)
  | _, _, p, .tup h t => .tup (SqT.of (s _ _ h)) (RepAll.dp s p t)
  | _, _, p, .cell h => nomatch p
  | _, _, _, .scr h => .lst (s.seq h) (dp_ints _)
  | _, _, p, .exc h => nomatch p
theorem RepAll.dp (s : Same F H) : ∀ {vs : List V} {ds : List D}, D.pures ds = true → RepAll K r F vs ds → DpAll K H vs (D.toPys ds)
  | _, _, _, .nil => .nil
  | _, _, p, .cons h t =>
    have q : (D.pure _ && D.pures _) = true := p
    .cons (Rep.dp s (Bool.and_eq_true_iff.mp q).1 h) (RepAll.dp s (Bool.and_eq_true_iff.mp q).2 t)
end
end
def D.isNon : D → Bool
  | .non => true
  | _ => false

section
variable {K : PySem.W.Frag} {m : Store} {d e : D} {i j : Int}
/-- an answer that makes nothing -/
theorem post1 {r : List Addr} {F H : Hp} {v : V} {z : D} {Q : VK} (hr : HR K r F H m) (q : Post1 K r F H m z m Q) (p : Rep K r F v z) : Q v H := q v r F H hr (Ext.refl hr) p
theorem dec_int (i j : Int) : decide (V.int i = V.int j) = decide (i = j) := by
  by_cases h : i = j
  · subst h; simp
  · rw [decide_eq_false h, decide_eq_false (fun q => h (V.int.inj q))]
theorem dec_bl (i j : Bool) : decide (V.bl i = V.bl j) = decide (i = j) := by
  by_cases h : i = j
  · subst h; simp
  · rw [decide_eq_false h, decide_eq_false (fun q => h (V.bl.inj q))]
theorem dec_str (i j : Str) : decide (V.str i = V.str j) = decide (i = j) := by
  by_cases h : i = j
  · subst h; simp
  · rw [decide_eq_false h, decide_eq_false (fun q => h (V.str.inj q))]
/-- == of data at any depth, of pure data or of what cells hold -/
inductive Pd (m : Store) : D → PyData → Prop
  | pure {d : D} : d.pure = true → Pd m d d.toPy
  | cell {k : Nat} {xs : List D} : m[k]? = some (.lst xs) → D.pures xs = true → Pd m (.cell k) (.list (D.toPys xs))
theorem Pd.dp {r : List Addr} {F H : Hp} {v : V} {p : PyData} (hr : HR K r F H m) (h : Pd m d p) (q : Rep K r F v d) : Dp K H v p := by
  cases h with
  | pure hp => exact q.dp hr.sub hp
  | cell hk hp =>
    cases q with
    | cell e =>
      obtain ⟨_, vs, h1, h2⟩ := hr.cell _ _ _ e hk rfl
      exact .lst (SqL.of h1) (h2.dp hr.sub hp)
/-! ### items -/
theorem atI_len {α β : Type} {xs : List α} {ys : List β} (h : xs.length = ys.length) {i : Int} {y : β} (e : atI ys i = some y) : ∃ j : Nat, ys[j]? = some y ∧ atI xs i = xs[j]? := by
  unfold atI at e ⊢
  rw [h]
  cases q : ixN ys.length i with
  | none => rw [q] at e; cases e
  | some j => rw [q] at e; exact ⟨j, e, rfl⟩
theorem RepAll.atI {r : List Addr} {F : Hp} {vs : List V} {ds : List D} {i : Int} (h : RepAll K r F vs ds) (e : L2.atI ds i = some d) : ∃ v, L2.atI vs i = some v ∧ Rep K r F v d := by
  obtain ⟨j, e1, e2⟩ := atI_len h.len e
  obtain ⟨v, e3, p⟩ := h.get e1
  exact ⟨v, by rw [e2, e3], p⟩
theorem y_ixT {ds : List D} (h : L2.atI ds i = some d) : Y2 K (rIxT K) (.tup ds) (.int i) m d m := fun r F H x y hr p1 p2 Q q => by
  cases p2
  cases p1 with
  | tup hs ha =>
    obtain ⟨v, e, p⟩ := ha.atI h
    exact ⟨_, _, i, v, rfl, rfl, SqT.of (hr.sub _ _ hs), e, post1 hr q p⟩
/-! ### built-ins on values -/
theorem nu_max (i j : Int) : nuMax2 (.int i) (.int j) = some (.int (max i j)) := by
  unfold nuMax2
  show (nuLt (.int i) (.int j)).map _ = _
  have : nuLt (.int i) (.int j) = some (decide (i < j)) := rfl
  rw [this]
  show some (if decide (i < j) = true then V.int j else V.int i) = _
  by_cases h : i < j
  · rw [decide_eq_true h, if_pos rfl, show max i j = j by omega]
  · rw [decide_eq_false h, if_neg Bool.false_ne_true, show max i j = i by omega]
theorem nu_min (i j : Int) : nuMin2 (.int i) (.int j) = some (.int (min i j)) := by
  unfold nuMin2
  show (nuLt (.int j) (.int i)).map _ = _
  have : nuLt (.int j) (.int i) = some (decide (j < i)) := rfl
  rw [this]
  show some (if decide (j < i) = true then V.int j else V.int i) = _
  by_cases h : j < i
  · rw [decide_eq_true h, if_pos rfl, show min i j = j by omega]
  · rw [decide_eq_false h, if_neg Bool.false_ne_true, show min i j = i by omega]
theorem y_max3 {k : Int} : YC K (rNuC3 nuMax3) [.int i, .int j, .int k] m (.int (max (max i j) k)) m := fun r F H vs hr p Q q => by
  cases p with
  | cons p1 p => cases p with
    | cons p2 p => cases p with
      | cons p3 p =>
            cases p; cases p1; cases p2; cases p3
            refine ⟨_, _, _, .int (max (max i j) k), rfl, ?_, post1 hr q (.int _)⟩
            unfold nuMax3
            rw [nu_max]
            show nuMax2 _ _ = _
            rw [nu_max]
theorem y_min3 {k : Int} : YC K (rNuC3 nuMin3) [.int i, .int j, .int k] m (.int (min (min i j) k)) m := fun r F H vs hr p Q q => by
  cases p with
  | cons p1 p => cases p with
    | cons p2 p => cases p with
      | cons p3 p =>
            cases p; cases p1; cases p2; cases p3
            refine ⟨_, _, _, .int (min (min i j) k), rfl, ?_, post1 hr q (.int _)⟩
            unfold nuMin3
            rw [nu_min]
            show nuMin2 _ _ = _
            rw [nu_min]
end

/-! ### the lists of two, joined; repeated; slices -/
section
variable {K : PySem.W.Frag} {m : Store} {d e : D} {i j : Int}
/-- what is read as a list of H: data, or a cell's -/
inductive IsL (m : Store) : D → List D → Prop
  | lst {ds : List D} : IsL m (.lst ds) ds
  | cell {k : Nat} {ds : List D} : m[k]? = some (.lst ds) → IsL m (.cell k) ds
theorem IsL.get {r : List Addr} {F H : Hp} {v : V} {ds : List D} (h : IsL m d ds) (hr : HR K r F H m) (p : Rep K r F v d) : ∃ a vs, v = .ref a ∧ H a = some (.lst vs) ∧ RepAll K r F vs ds := by
  cases h with
  | lst => cases p with
    | lst hs ha => exact ⟨_, _, rfl, hr.sub _ _ hs, ha⟩
  | cell hk => cases p with
    | cell ea =>
      obtain ⟨_, vs, h1, h2⟩ := hr.cell _ _ _ ea hk rfl
      exact ⟨_, _, rfl, h1, h2⟩
end
end DL
namespace DL
open PySem PySem.Spec PyProof.Rows L2

/-! ### statements -/
inductive Out where
  | nx (δ : En) (m : Store)
  | rt (d : D) (m : Store)
  | bk (δ : En) (m : Store)
  | ct (δ : En) (m : Store)
  | ex (C : Value) (δ : En) (m : Store)
def OutOk (K : PySem.W.Frag) (W : WX) (r : List Addr) (F H : Hp) (m : Store) (D : Ends) : Out → Prop
  | .nx δ' m' => ∀ σ' r' F' H', HR K r' F' H' m' → ER K r' F' σ' δ' → Ext r F H m r' F' H' m' → D.nx σ' H'
  | .rt d m' => ∀ v r' F' H', HR K r' F' H' m' → Ext r F H m r' F' H' m' → Rep K r' F' v d → D.rt v H'
  | .bk δ' m' => ∀ σ' r' F' H', HR K r' F' H' m' → ER K r' F' σ' δ' → Ext r F H m r' F' H' m' → D.bk σ' H'
  | .ct δ' m' => ∀ σ' r' F' H', HR K r' F' H' m' → ER K r' F' σ' δ' → Ext r F H m r' F' H' m' → D.ct σ' H'
  | .ex C δ' m' => ∀ σ' r' F' H', HR K r' F' H' m' → ER K r' F' σ' δ' → Ext r F H m r' F' H' m' → W C none σ' H'
def YS (K : PySem.W.Frag) (W : WX) (t : TS) (δ : En) (m : Store) (o : Out) : Prop := ∀ r F H σ D, HR K r F H m → ER K r F σ δ → OutOk K W r F H m D o → t D σ H
/-- a target: the slots change, the heap does not -/
def YG (K : PySem.W.Frag) (g : TG) (d : D) (δ δ' : En) : Prop := ∀ r F H m σ v, HR K r F H m → ER K r F σ δ → Rep K r F v d → ∀ Q : L2.St → Hp → Prop, (∀ σ', ER K r F σ' δ' → Q σ' H) → g v σ H Q
def YGs (K : PySem.W.Frag) (g : TGs) (ds : List D) (δ δ' : En) : Prop := ∀ r F H m σ vs, HR K r F H m → ER K r F σ δ → RepAll K r F vs ds → ∀ Q : L2.St → Hp → Prop, (∀ σ', ER K r F σ' δ' → Q σ' H) → g vs σ H Q

section
variable {K : PySem.W.Frag} {W : WX} {te ta tb : TE} {tt : TT} {t u : TS} {g : TG} {gs : TGs} {δ δ1 δ2 : En} {m m1 m2 m3 : Store} {d e : D} {o : Out}
theorem OutOk.ext {r r1 : List Addr} {F H F1 H1 : Hp} {D : Ends} (hr : r.length = m.length) (hr1 : r1.length = m1.length) (x : Ext r F H m r1 F1 H1 m1) : ∀ {o : Out}, OutOk K W r F H m D o → OutOk K W r1 F1 H1 m1 D o
  | .nx _ _, q => fun σ' r' F' H' h e y => q σ' r' F' H' h e (x.trans hr1 hr y)
  | .rt _ _, q => fun v r' F' H' h y p => q v r' F' H' h (x.trans hr1 hr y) p
  | .bk _ _, q => fun σ' r' F' H' h e y => q σ' r' F' H' h e (x.trans hr1 hr y)
  | .ct _ _, q => fun σ' r' F' H' h e y => q σ' r' F' H' h e (x.trans hr1 hr y)
  | .ex _ _ _, q => fun σ' r' F' H' h e y => q σ' r' F' H' h e (x.trans hr1 hr y)
theorem YS.of_eq {o' : Out} (h : YS K W t δ m o) (e : o = o') : YS K W t δ m o' := e ▸ h
theorem ys_next : YS K W tNext δ m (.nx δ m) := fun r F H σ D hr er q => q σ r F H hr er (Ext.refl hr)
theorem ys_seq (h1 : YS K W t δ m (.nx δ1 m1)) (h2 : YS K W u δ1 m1 o) : YS K W (tSeq t u) δ m o := fun r F H σ D hr er q =>
  h1 r F H σ { D with nx := u D } hr er fun σ1 r1 F1 H1 hr1 er1 x1 => h2 r1 F1 H1 σ1 D hr1 er1 (q.ext hr.len hr1.len x1)
/-- the first statement leaves -/
def Out.leaves : Out → Bool
  | .nx _ _ => false
  | _ => true
theorem ys_seqX (h1 : YS K W t δ m o) (hl : o.leaves = true) : YS K W (tSeq t u) δ m o := fun r F H σ D hr er q =>
  h1 r F H σ { D with nx := u D } hr er (by cases o with
    | nx _ _ => cases hl
    | rt _ _ => exact q
    | bk _ _ => exact q
    | ct _ _ => exact q
    | ex _ _ _ => exact q)
theorem yg_name {i : Nat} : YG K (gName i) d δ (δ.set i (some d)) := fun r F H m σ v hr er p Q q => q _ (er.set i p)
theorem ygs_nil : YGs K gNil [] δ δ := fun r F H m σ vs hr er p Q q => by cases p; exact ⟨rfl, q σ er⟩
theorem ygs_cons {ds : List D} (h : YG K g d δ δ1) (hs : YGs K gs ds δ1 δ2) : YGs K (gCons g gs) (d :: ds) δ δ2 := fun r F H m σ vs hr er p Q q => by
  cases p with
  | cons p1 p2 => exact ⟨_, _, rfl, h r F H m σ _ hr er p1 _ fun σ1 er1 => hs r F H m σ1 _ hr er1 p2 Q q⟩
theorem yg_tup {ds : List D} {n : Nat} (hl : ds.length = n) (h : YGs K gs ds δ δ1) : YG K (gTup K n gs) (.tup ds) δ δ1 := fun r F H m σ v hr er p Q q => by
  cases p with
  | tup hs ha => exact ⟨_, _, rfl, SqT.of (hr.sub _ _ hs), ha.len.trans hl, h r F H m σ _ hr er ha Q q⟩
theorem YS.weak {δ' : En} (h : YS K W t δ m (.nx δ1 m1)) (w : Weak δ1 δ') : YS K W t δ m (.nx δ' m1) := fun r F H σ D hr er q =>
  h r F H σ D hr er fun σ' r' F' H' h1 e1 x => q σ' r' F' H' h1 (e1.weak w) x
theorem YS.pre {δ' : En} (w : Weak δ' δ) (h : YS K W t δ m o) : YS K W t δ' m o := fun r F H σ D hr er q => h r F H σ D hr (er.weak w) q
end

/-! ### what is walked -/
/-- the iterator J yields xs, one by one, while C holds of the store -/
def ItOk (K : PySem.W.Frag) (C : Store → Prop) (J : It) (r : List Addr) (F : Hp) (xs : List D) : Prop := ∀ r' F' H' m', Pre r r' → Same F F' → HR K r' F' H' m' → C m' → ∀ i : Nat,
  (∀ d, xs[i]? = some d → J.go i H' ∧ ∀ x H'', J.yld i H' x H'' → ∃ F'', HR K r' F'' H'' m' ∧ Ext r' F' H' m' r' F'' H'' m' ∧ Rep K r' F'' x d) ∧ (xs.length ≤ i → J.stop i H')
section
variable {K : PySem.W.Frag} {W : WX} {te ta tb : TE} {tt : TT} {t u : TS} {g : TG} {gs : TGs} {δ δ1 δ2 : En} {m m1 m2 m3 : Store} {d e : D} {o : Out} {tas : TA}
/-- range(n) -/
def rng (lo : Int) (n : Nat) : List D := (List.range n).map fun i : Nat => D.int (lo + (i : Int))
theorem rng_get {lo : Int} {n i : Nat} {d : D} (h : (rng lo n)[i]? = some d) : i < n ∧ d = .int (lo + (i : Int)) := by
  unfold rng at h
  rw [List.getElem?_map] at h
  by_cases hi : i < n
  · rw [List.getElem?_range hi] at h; cases h; exact ⟨hi, rfl⟩
  · rw [List.getElem?_eq_none (by simpa using hi)] at h; cases h
theorem rng_len (lo : Int) (n : Nat) : (rng lo n).length = n := by simp [rng]
theorem itr_ok {C : Store → Prop} {lo : Int} {n : Nat} {r : List Addr} {F : Hp} : ItOk K C (Itr lo n) r F (rng lo n) := fun r' F' H' m' pr sm hr' _ i =>
  ⟨fun d hd => by
    obtain ⟨hi, rfl⟩ := rng_get hd
    refine ⟨hi, fun x H'' y => ?_⟩
    obtain ⟨rfl, rfl⟩ := y
    exact ⟨F', hr', Ext.refl hr', .int _⟩, fun hi => by rw [rng_len] at hi; exact hi⟩
/-! ### for -/
/-- how a turn that leaves the loop ends it -/
inductive LoopX : Out → Out → Prop
  | rt {d : D} {m : Store} : LoopX (.rt d m) (.rt d m)
  | bk {δ : En} {m : Store} : LoopX (.bk δ m) (.nx δ m)
  | ex {C : Value} {δ : En} {m : Store} : LoopX (.ex C δ m) (.ex C δ m)
/-- a turn's end -/
inductive TurnX (δ : En) (m : Store) : Out → Prop
  | nx {δ' : En} : Weak δ' δ → TurnX δ m (.nx δ' m)
  | ct {δ' : En} : Weak δ' δ → TurnX δ m (.ct δ' m)
end
end DL
namespace DL
open PySem PySem.Spec PyProof.Rows L2

/-! ### comprehensions -/
theorem wipe_get {σ : L2.St} {i : Nat} : ∀ {vs : List Nat}, (wipe σ vs)[i]? = if i ∈ vs then (if i < σ.length then some none else none) else σ[i]?
  | [] => by simp [wipe]
  | v :: vs => by
    unfold wipe
    by_cases hv : v = i
    · subst hv
      by_cases hl : v < σ.length
      · rw [List.getElem?_set_self (by rw [wipe_length]; exact hl)]; simp [hl]
      · rw [List.getElem?_eq_none (by rw [List.length_set, wipe_length]; omega)]; simp [hl]
    · rw [List.getElem?_set_ne hv, wipe_get (vs := vs)]
      have : (i ∈ v :: vs) ↔ i ∈ vs := by simp [Ne.symm hv]
      simp [this]
theorem wipe_set {σ : L2.St} {j : Nat} {x : Option V} {vs : List Nat} (h : j ∈ vs) : wipe (σ.set j x) vs = wipe σ vs := by
  apply List.ext_getElem?
  intro i
  rw [wipe_get, wipe_get]
  by_cases hi : i ∈ vs
  · simp [hi]
  · have : j ≠ i := fun e => hi (e ▸ h)
    simp [hi, List.getElem?_set_ne this]
theorem wipe_wipe {σ : L2.St} {vs : List Nat} : wipe (wipe σ vs) vs = wipe σ vs := by
  apply List.ext_getElem?
  intro i
  rw [wipe_get, wipe_length, wipe_get]
  by_cases hi : i ∈ vs <;> simp [hi]
def wipeE (δ : En) : List Nat → En
  | [] => δ
  | v :: vs => (wipeE δ vs).set v none
theorem wipeE_len (δ : En) : ∀ vs : List Nat, (wipeE δ vs).length = δ.length
  | [] => rfl
  | v :: vs => by unfold wipeE; rw [List.length_set, wipeE_len δ vs]
theorem wipeE_some {δ : En} {i : Nat} {d : D} : ∀ {vs : List Nat}, (wipeE δ vs)[i]? = some (some d) → δ[i]? = some (some d) ∧ i ∉ vs
  | [], h => ⟨h, by simp⟩
  | v :: vs, h => by
    unfold wipeE at h
    by_cases hi : v = i
    · subst hi
      by_cases hv : v < (wipeE δ vs).length
      · rw [List.getElem?_set_self hv] at h; cases h
      · rw [List.getElem?_eq_none (by simpa using hv)] at h; cases h
    · rw [List.getElem?_set_ne hi] at h
      obtain ⟨h1, h2⟩ := wipeE_some h
      exact ⟨h1, by simp only [List.mem_cons, not_or]; exact ⟨fun e => hi e.symm, h2⟩⟩
theorem ER.wipe {K : PySem.W.Frag} {r : List Addr} {F : Hp} {σ : L2.St} {δ : En} (h : ER K r F σ δ) (vs : List Nat) : ER K r F (L2.wipe σ vs) (wipeE δ vs) := by
  refine ⟨by rw [wipe_length, wipeE_len]; exact h.1, fun i d e => ?_⟩
  obtain ⟨e1, e2⟩ := wipeE_some e
  obtain ⟨v, q, p⟩ := h.2 i d e1
  exact ⟨v, by rw [wipe_get]; simp [e2, q], p⟩
/-- a target whose slots are vs's -/
def YGw (K : PySem.W.Frag) (vs : List Nat) (g : TG) (d : D) (δ δ' : En) : Prop := ∀ r F H m σ v, HR K r F H m → ER K r F σ δ → Rep K r F v d → ∀ Q : L2.St → Hp → Prop, (∀ σ', ER K r F σ' δ' → wipe σ' vs = wipe σ vs → Q σ' H) → g v σ H Q
def YGws (K : PySem.W.Frag) (vs : List Nat) (g : TGs) (ds : List D) (δ δ' : En) : Prop := ∀ r F H m σ ws, HR K r F H m → ER K r F σ δ → RepAll K r F ws ds → ∀ Q : L2.St → Hp → Prop, (∀ σ', ER K r F σ' δ' → wipe σ' vs = wipe σ vs → Q σ' H) → g ws σ H Q
section
variable {K : PySem.W.Frag} {W : WX} {te ta tb : TE} {tt : TT} {t u : TS} {g : TG} {gs : TGs} {δ δ1 δ2 : En} {m m1 m2 m3 : Store} {d e : D} {o : Out} {tas : TA} {vs : List Nat}
theorem ygw_name {i : Nat} (h : i ∈ vs) : YGw K vs (gName i) d δ (δ.set i (some d)) := fun r F H m σ v hr er p Q q => q _ (er.set i p) (wipe_set h)
theorem ygws_nil : YGws K vs gNil [] δ δ := fun r F H m σ ws hr er p Q q => by cases p; exact ⟨rfl, q σ er rfl⟩
theorem ygws_cons {ds : List D} (h : YGw K vs g d δ δ1) (hs : YGws K vs gs ds δ1 δ2) : YGws K vs (gCons g gs) (d :: ds) δ δ2 := fun r F H m σ ws hr er p Q q => by
  cases p with
  | cons p1 p2 => exact ⟨_, _, rfl, h r F H m σ _ hr er p1 _ fun σ1 er1 w1 => hs r F H m σ1 _ hr er1 p2 Q fun σ2 er2 w2 => q σ2 er2 (w2.trans w1)⟩
theorem ygw_tup {ds : List D} {n : Nat} (hl : ds.length = n) (h : YGws K vs gs ds δ δ1) : YGw K vs (gTup K n gs) (.tup ds) δ δ1 := fun r F H m σ v hr er p Q q => by
  cases p with
  | tup hs ha => exact ⟨_, _, rfl, SqT.of (hr.sub _ _ hs), ha.len.trans hl, h r F H m σ _ hr er ha Q q⟩
/-- a side object through the work -/
theorem Ext.side_keep {r r' : List Addr} {F F' H H' : Hp} {m' : Store} (x : Ext r F H m r' F' H' m') (hl : r.length = m.length) {p : Addr} {o : HO} (hp : H p = some o) (fp : F p = none) (np : ∀ (k : Nat), live m k → r[k]? ≠ some p) :
    H' p = some o ∧ F' p = none ∧ ∀ (k : Nat), live m' k → r'[k]? ≠ some p := by
  refine ⟨x.keep p o hp np, ?_, fun k l e => ?_⟩
  · cases q : F' p with
    | none => rfl
    | some u =>
      rcases x.new p fp (by rw [q]; exact fun z => nomatch z) with z | ⟨k, l, z⟩
      · rw [hp] at z; cases z
      · exact absurd z (np k l)
  · by_cases hk : k < m.length
    · have hr : k < r.length := by rw [hl]; exact hk
      have e1 : r[k]? = some r[k] := List.getElem?_eq_getElem hr
      have e2 := x.pre k _ e1
      rw [e] at e2
      exact np k (x.dead k hk l) (by rw [e1, ← e2])
    · have := x.fresh k p (Nat.not_lt.mp hk) e
      rw [hp] at this; cases this
theorem Ext.sideSet {r r' : List Addr} {F F' H H' : Hp} {m' : Store} (x : Ext r F H m r' F' H' m') {p : Addr} {o : HO} (hp : H p = none) : Ext r F H m r' F' (upd H' p o) m' where
  pre := x.pre
  sub := x.sub
  keep := fun a u e n => by rw [upd_ne (ne_of_none e hp)]; exact x.keep a u e n
  new := x.new
  fresh := x.fresh
  dead := x.dead
  mlen := x.mlen
  trk := fun a u e => by rw [upd_ne (ne_of_none e hp)]; exact x.trk a u e
/-! ### calls and defs -/
inductive Res where
  | ok (d : D)
  | ex (C : Value)
abbrev Spec := List D → Store → Res → Store → Prop
end
mutual
/-- its cells are below n -/
def D.und (n : Nat) : D → Bool
  | .lst xs => D.unds n xs
  | .tup xs => D.unds n xs
  | .cell k => decide (k < n)
  | _ => true
def D.unds (n : Nat) : List D → Bool
  | [] => true
  | d :: ds => D.und n d && D.unds n ds
end
mutual
theorem D.pure_und (n : Nat) : ∀ d : D, d.pure = true → d.und n = true
  | .non, _ => rfl
  | .bl _, _ => rfl
  | .int _, _ => rfl
  | .str _, _ => rfl
  | .scr _, _ => rfl
  | .cell _, h => nomatch h
  | .exc _, h => nomatch h
  | .lst xs, h => D.pures_und n xs h
  | .tup xs, h => D.pures_und n xs h
theorem D.pures_und (n : Nat) : ∀ ds : List D, D.pures ds = true → D.unds n ds = true
  | [], _ => rfl
  | d :: ds, h => by
    have q : (D.pure d && D.pures ds) = true := h
    show (D.und n d && D.unds n ds) = true
    rw [D.pure_und n d (Bool.and_eq_true_iff.mp q).1, D.pures_und n ds (Bool.and_eq_true_iff.mp q).2]; rfl
end
mutual
theorem D.und_mono {n n' : Nat} (h : n ≤ n') : ∀ d : D, d.und n = true → d.und n' = true
  | .non, _ => rfl
  | .bl _, _ => rfl
  | .int _, _ => rfl
  | .str _, _ => rfl
  | .scr _, _ => rfl
  | .exc _, _ => rfl
  | .cell k, q => by
    have : k < n := of_decide_eq_true q
    exact decide_eq_true (by omega)
  | .lst xs, q => D.unds_mono h xs q
  | .tup xs, q => D.unds_mono h xs q
theorem D.unds_mono {n n' : Nat} (h : n ≤ n') : ∀ ds : List D, D.unds n ds = true → D.unds n' ds = true
  | [], _ => rfl
  | d :: ds, q => by
    have q : (D.und n d && D.unds n ds) = true := q
    show (D.und n' d && D.unds n' ds) = true
    rw [D.und_mono h d (Bool.and_eq_true_iff.mp q).1, D.unds_mono h ds (Bool.and_eq_true_iff.mp q).2]; rfl
end
section
variable {K : PySem.W.Frag} {r : List Addr} {F : Hp} {n : Nat}
mutual
theorem Rep.und : ∀ {v : V} {d : D}, Rep K r F v d → d.und r.length = true
  | _, _, .non => rfl
  | _, _, .bl _ => rfl
  | _, _, .int _ => rfl
  | _, _, .str _ => rfl
  | _, _, .scr _ => rfl
  | _, _, .exc _ => rfl
  | _, _, .lst _ h => RepAll.und h
  | _, _, .tup _ h => RepAll.und h
  | _, _, .cell h => decide_eq_true (List.getElem?_eq_some_iff.mp h).1
theorem RepAll.und : ∀ {vs : List V} {ds : List D}, RepAll K r F vs ds → D.unds r.length ds = true
  | _, _, .nil => rfl
  | _, _, .cons h t => by
    show (D.und _ _ && D.unds _ _) = true
    rw [Rep.und h, RepAll.und t]; rfl
end
mutual
theorem Rep.cut : ∀ {v : V} {d : D}, d.und n = true → Rep K r F v d → Rep K (r.take n) F v d
  | _, _, _, .non => .non
  | _, _, _, .bl b => .bl b
  | _, _, _, .int i => .int i
  | _, _, _, .str x => .str x
  | _, _, _, .scr h => .scr h
  | _, _, _, .exc h => .exc h
  | _, _, p, .lst s h => .lst s (RepAll.cut p h)
  | _, _, p, .tup s h => .tup s (RepAll.cut p h)
  | _, _, p, .cell h => .cell (by rw [List.getElem?_take, if_pos (of_decide_eq_true p)]; exact h)
theorem RepAll.cut : ∀ {vs : List V} {ds : List D}, D.unds n ds = true → RepAll K r F vs ds → RepAll K (r.take n) F vs ds
  | _, _, _, .nil => .nil
  | _, _, p, .cons h t =>
    have q : (D.und n _ && D.unds n _) = true := p
    .cons (Rep.cut (Bool.and_eq_true_iff.mp q).1 h) (RepAll.cut (Bool.and_eq_true_iff.mp q).2 t)
end
end
def belowF (n : Nat) (fs : List (Str × D)) : Bool := fs.all fun p => p.2.und n
def belowK (n : Nat) (fs : List (Key × D)) : Bool := fs.all fun p => p.2.und n
def Cell.und (n : Nat) : Cell → Bool
  | .lst xs => D.unds n xs
  | .ins _ fs => belowF n fs
  | .dK kvs => belowK n kvs
  | .gone => true
  | .fz kvs => belowK n kvs
theorem belowF_mono {n n' : Nat} (h : n ≤ n') {fs : List (Str × D)} (q : belowF n fs = true) : belowF n' fs = true := List.all_eq_true.mpr fun p hp => D.und_mono h _ (List.all_eq_true.mp q p hp)
theorem belowK_mono {n n' : Nat} (h : n ≤ n') {fs : List (Key × D)} (q : belowK n fs = true) : belowK n' fs = true := List.all_eq_true.mpr fun p hp => D.und_mono h _ (List.all_eq_true.mp q p hp)
theorem Cell.und_mono {n n' : Nat} (h : n ≤ n') : ∀ {c : Cell}, c.und n = true → c.und n' = true
  | .lst xs, q => D.unds_mono h xs q
  | .ins _ fs, q => belowF_mono h q
  | .dK kvs, q => belowK_mono h q
  | .gone, _ => rfl
  | .fz kvs, q => belowK_mono h q
section
variable {K : PySem.W.Frag} {r : List Addr} {F H : Hp} {n : Nat} {m m' m0 loc : Store}
theorem RepF.und : ∀ {gs : List (Str × V)} {fs : List (Str × D)}, RepF K r F gs fs → belowF r.length fs = true
  | [], [], _ => rfl
  | (_, _) :: gs, (_, _) :: fs, h => by
    show ((D.und _ _) && belowF _ fs) = true
    rw [h.2.1.und, RepF.und h.2.2]; rfl
  | [], _ :: _, h => h.elim
  | _ :: _, [], h => h.elim
theorem RepK.und : ∀ {gs : List (Key × V)} {fs : List (Key × D)}, RepK K r F gs fs → belowK r.length fs = true
  | [], [], _ => rfl
  | (_, _) :: gs, (_, _) :: fs, h => by
    show ((D.und _ _) && belowK _ fs) = true
    rw [h.2.1.und, RepK.und h.2.2]; rfl
  | [], _ :: _, h => h.elim
  | _ :: _, [], h => h.elim
theorem RepF.cut : ∀ {gs : List (Str × V)} {fs : List (Str × D)}, belowF n fs = true → RepF K r F gs fs → RepF K (r.take n) F gs fs
  | [], [], _, _ => trivial
  | (_, _) :: gs, (_, _) :: fs, q, h => by
    have q : (D.und n _ && belowF n fs) = true := q
    exact ⟨h.1, h.2.1.cut (Bool.and_eq_true_iff.mp q).1, RepF.cut (Bool.and_eq_true_iff.mp q).2 h.2.2⟩
  | [], _ :: _, _, h => h.elim
  | _ :: _, [], _, h => h.elim
theorem RepK.cut : ∀ {gs : List (Key × V)} {fs : List (Key × D)}, belowK n fs = true → RepK K r F gs fs → RepK K (r.take n) F gs fs
  | [], [], _, _ => trivial
  | (_, _) :: gs, (_, _) :: fs, q, h => by
    have q : (D.und n _ && belowK n fs) = true := q
    exact ⟨h.1, h.2.1.cut (Bool.and_eq_true_iff.mp q).1, RepK.cut (Bool.and_eq_true_iff.mp q).2 h.2.2⟩
  | [], _ :: _, _, h => h.elim
  | _ :: _, [], _, h => h.elim
theorem CellOk.und {a : Addr} : ∀ {c : Cell}, CellOk K r F H a c → c.und r.length = true
  | .lst xs, ⟨vs, h, q⟩ => q.und
  | .ins C fs, ⟨dx, gs, h, h2, q⟩ => q.und
  | .dK kvs, ⟨gs, h, q⟩ => q.und
  | .gone, _ => rfl
  | .fz _, h => h.elim
theorem CellOk.cut {a : Addr} : ∀ {c : Cell}, c.und n = true → CellOk K r F H a c → CellOk K (r.take n) F H a c
  | .lst xs, b, ⟨vs, h, q⟩ => ⟨vs, h, q.cut b⟩
  | .ins C fs, b, ⟨dx, gs, h, h2, q⟩ => ⟨dx, gs, h, h2, q.cut b⟩
  | .dK kvs, b, ⟨gs, h, q⟩ => ⟨gs, h, q.cut b⟩
  | .gone, _, _ => trivial
  | .fz _, _, h => h.elim
theorem HR.und (h : HR K r F H m) {k : Nat} {c : Cell} (e : m[k]? = some c) : c.und m.length = true := by
  have hk : k < r.length := by rw [h.len]; exact (List.getElem?_eq_some_iff.mp e).1
  have on : c.on = true → c.und m.length = true := fun ng => by
    have := (h.cell k r[k] c (List.getElem?_eq_getElem hk) e ng).2.und
    rwa [h.len] at this
  cases c with
  | gone => rfl
  | fz kvs =>
    obtain ⟨od, gs, q1, q2⟩ := h.fz k r[k] kvs (List.getElem?_eq_getElem hk) e
    have := q2.und
    rwa [h.len] at this
  | lst xs => exact on rfl
  | ins C fs => exact on rfl
  | dK kvs => exact on rfl
/-- every cell of m' is m's, or its cells are below m''s length -/
def Tidy (m m' : Store) : Prop := m.length ≤ m'.length ∧ ∀ (k : Nat) c, m'[k]? = some c → m[k]? = some c ∨ c.und m'.length = true
theorem Tidy.refl (m : Store) : Tidy m m := ⟨Nat.le_refl _, fun _ _ e => .inl e⟩
theorem Tidy.set {c : Cell} {k : Nat} (h : Tidy m m') (hc : c.und m'.length = true) : Tidy m (m'.set k c) := ⟨by simpa using h.1, fun j c' e => by
  rw [List.length_set]
  by_cases hj : k = j
  · subst hj
    have : k < (m'.set k c).length := (List.getElem?_eq_some_iff.mp e).1
    rw [List.length_set] at this
    rw [List.getElem?_set_self this] at e; cases e; exact .inr hc
  · rw [List.getElem?_set_ne hj] at e; exact h.2 j c' e⟩
theorem Tidy.app {c : Cell} (h : Tidy m m') (hc : c.und (m'.length + 1) = true) : Tidy m (m' ++ [c]) := ⟨by simp; exact Nat.le_succ_of_le h.1, fun j c' e => by
  rw [List.length_append]
  by_cases hj : j < m'.length
  · rw [List.getElem?_append_left hj] at e
    rcases h.2 j c' e with z | z
    · exact .inl z
    · exact .inr (Cell.und_mono (Nat.le_add_right _ _) z)
  · rw [List.getElem?_append_right (by omega)] at e
    cases q : j - m'.length with
    | zero => rw [q] at e; simp at e; subst e; exact .inr hc
    | succ i => rw [q] at e; simp at e⟩
theorem HR.trunc {r0 : List Addr} {F0 H0 : Hp} (h0 : HR K r0 F0 H0 m0) (ti : Tidy m0 m) (h : HR K r F H (m ++ loc)) : HR K (r.take m.length) F H m := by
  have low : ∀ (k : Nat) a, (r.take m.length)[k]? = some a → r[k]? = some a ∧ k < m.length := fun k a e => by
    rw [List.getElem?_take] at e
    split at e
    · rename_i hk; exact ⟨e, hk⟩
    · cases e
  have lv : ∀ k, live m k → live (m ++ loc) k := fun k ⟨c, e, ng⟩ => ⟨c, by rw [List.getElem?_append_left (List.getElem?_eq_some_iff.mp e).1]; exact e, ng⟩
  refine ⟨?_, h.sub, fun k a c e1 e2 ng => ?_, fun k l a e1 e2 l1 l2 => h.inj k l a (low k a e1).1 (low l a e2).1 (lv k l1) (lv l l2), fun k a kvs e1 e2 => ?_, fun k l a x y e1 e2 z1 z2 => h.fzi k l a x y (low k a e1).1 (low l a e2).1 (by rw [List.getElem?_append_left (List.getElem?_eq_some_iff.mp z1).1]; exact z1) (by rw [List.getElem?_append_left (List.getElem?_eq_some_iff.mp z2).1]; exact z2)⟩
  · rw [List.length_take]
    have := h.len
    rw [List.length_append] at this
    omega
  · obtain ⟨e1', hk⟩ := low k a e1
    obtain ⟨q1, q2⟩ := h.cell k a c e1' (by rw [List.getElem?_append_left hk]; exact e2) ng
    refine ⟨q1, q2.cut ?_⟩
    rcases ti.2 k c e2 with z | z
    · exact Cell.und_mono ti.1 (h0.und z)
    · exact z
  · obtain ⟨e1', hk⟩ := low k a e1
    obtain ⟨od, gs, q1, q2⟩ := h.fz k a kvs e1' (by rw [List.getElem?_append_left hk]; exact e2)
    refine ⟨od, gs, q1, q2.cut ?_⟩
    rcases ti.2 k _ e2 with z | z
    · exact Cell.und_mono (c := .fz kvs) ti.1 (h0.und z)
    · exact z
theorem Ext.trunc {r0 : List Addr} {F0 H0 : Hp} (hl : r0.length = m0.length) (ti : m0.length ≤ m.length) (x : Ext r0 F0 H0 m0 r F H (m ++ loc)) : Ext r0 F0 H0 m0 (r.take m.length) F H m where
  pre := fun k a e => by
    have hk : k < r0.length := (List.getElem?_eq_some_iff.mp e).1
    rw [List.getElem?_take, if_pos (by omega)]; exact x.pre k a e
  sub := x.sub
  keep := x.keep
  new := x.new
  fresh := fun k a hk e => by
    rw [List.getElem?_take] at e
    split at e
    · exact x.fresh k a hk e
    · cases e
  dead := fun k hk l => x.dead k hk (by
    obtain ⟨c, e, ng⟩ := l
    exact ⟨c, by rw [List.getElem?_append_left (List.getElem?_eq_some_iff.mp e).1]; exact e, ng⟩)
  mlen := ti
  trk := x.trk
/-- how a body's end answers a call, from the store m0 -/
inductive Fits (m0 : Store) : Out → Res → Store → Prop
  | rt {d : D} {m : Store} : Fits m0 (.rt d m) (.ok d) m
  | nx {δ : En} {m : Store} : Fits m0 (.nx δ m) (.ok .non) m
  | ex {C : Value} {δ : En} {m : Store} : Fits m0 (.ex C δ m) (.ex C) m
  | rtd {d : D} {m : Store} (loc : Store) : Tidy m0 m → d.und m.length = true → Fits m0 (.rt d (m ++ loc)) (.ok d) m
  | nxd {δ : En} {m : Store} (loc : Store) : Tidy m0 m → Fits m0 (.nx δ (m ++ loc)) (.ok .non) m
  | exd {C : Value} {δ : En} {m : Store} (loc : Store) : Tidy m0 m → Fits m0 (.ex C δ (m ++ loc)) (.ex C) m
def st (n : Nat) (ds : List D) : En := ds.map some ++ List.replicate (n - ds.length) none
abbrev startD (N : List Str) (ds : List D) : En := st N.length ds
theorem er_start {N : List Str} {vs : List V} {ds : List D} (h : RepAll K r F vs ds) : ER K r F (L2.start N vs) (startD N ds) := by
  refine ⟨by simp [L2.start, startD, st, h.len], fun i d e => ?_⟩
  unfold startD st at e
  by_cases hi : i < ds.length
  · rw [List.getElem?_append_left (by simpa using hi), List.getElem?_map] at e
    cases q : ds[i]? with
    | none => rw [q] at e; cases e
    | some d' =>
      rw [q] at e; cases e
      obtain ⟨v, e1, p⟩ := h.get q
      refine ⟨v, ?_, p⟩
      unfold L2.start
      rw [List.getElem?_append_left (by rw [List.length_map, h.len]; exact hi), List.getElem?_map, e1]; rfl
  · rw [List.getElem?_append_right (by simpa using hi), List.getElem?_replicate] at e
    split at e <;> cases e
end
end DL
namespace DL
open PySem PySem.Spec PyProof.Rows L2
/-! ### short names of readings -/
abbrev oAdd : R2 := rI0 fun i j => .int (i + j)
abbrev oSub : R2 := rI0 fun i j => .int (i - j)
abbrev oMul : R2 := rI CMul fun i j => .int (i * j)
abbrev oDiv : R2 := rI CDivW fun i j => .int (i / j)
abbrev oMod : R2 := rI (fun _ j => 0 < j) fun i j => .int (i % j)
abbrev oPow : R2 := rI CPow fun i j => .int (i ^ j.toNat)
abbrev oLt : R2 := rI0 fun i j => .bl (decide (i < j))
abbrev oLe : R2 := rI0 fun i j => .bl (decide (i ≤ j))
abbrev oGt : R2 := rI0 fun i j => .bl (decide (j < i))
abbrev oGe : R2 := rI0 fun i j => .bl (decide (j ≤ i))
abbrev oIsN : R2 := fun x y H Q => y = .non ∧ Q (.bl (decide (x = .non))) H
abbrev oNotN : R2 := fun x y H Q => y = .non ∧ Q (.bl (!decide (x = .non))) H
abbrev rMin2 : List V → Hp → VK → Prop := fun xs H Q => ∃ i j, xs = [.int i, .int j] ∧ Q (.int (if j < i then j else i)) H
/-! ### what a callee is known by -/
section
variable {X : Cx} {k : Nat} {ps : List Str} {S : Spec} {x : Str} {p pos : Pos} {e : Expr} {es : List Expr} {t : TA}
/-- a constant of the top -/
theorem pe_const {i : Int} {pos : Pos} (h : ∃ t, X.mg x = some (.int i t)) (hg : Gl X x) (hd : (x == ("__debug__" : Str)) = false := by decide) : PE X (.Name x pos) (tC (.int i)) := by
  obtain ⟨t, h⟩ := h
  exact pe_glob hg h ⟨t, rfl⟩ hd
theorem pe_constS {i : Str} {pos : Pos} (h : ∃ t, X.mg x = some (.str i t)) (hg : Gl X x) (hd : (x == ("__debug__" : Str)) = false := by decide) : PE X (.Name x pos) (tC (.str i)) := by
  obtain ⟨t, h⟩ := h
  exact pe_glob hg h ⟨t, rfl⟩ hd
end
theorem bt_len : bootBuiltins "len" = some (.builtin "len") := by decide +kernel
theorem bt_max : bootBuiltins "max" = some (.builtin "max") := by decide +kernel
theorem bt_min : bootBuiltins "min" = some (.builtin "min") := by decide +kernel
theorem bt_all : bootBuiltins "all" = some (.builtin "all") := by decide +kernel
theorem bt_sorted : bootBuiltins "sorted" = some (.builtin "sorted") := by decide +kernel
theorem bt_isinstance : bootBuiltins "isinstance" = some (.builtin "isinstance") := by decide +kernel
theorem bt_int : bootBuiltins "int" = some (.type "int") := by decide +kernel
theorem bt_str : bootBuiltins "str" = some (.type "str") := by decide +kernel
theorem bt_set : bootBuiltins "set" = some (.type "set") := by decide +kernel
end DL
namespace DL
open PySem PySem.Spec PyProof.Rows L2
/-! ### isinstance of built-in classes -/
/-- the name of a datum's type -/
inductive Tn (m : Store) : D → String → Prop
  | non : Tn m .non "NoneType"
  | bl {b : Bool} : Tn m (.bl b) "bool"
  | int {i : Int} : Tn m (.int i) "int"
  | str {x : Str} : Tn m (.str x) "str"
  | lst {xs : List D} : Tn m (.lst xs) "list"
  | tup {xs : List D} : Tn m (.tup xs) "tuple"
  | cell {k : Nat} {xs : List D} : m[k]? = some (.lst xs) → Tn m (.cell k) "list"
end DL
namespace DL
open PySem PySem.Spec PyProof.Rows L2
section
variable {K : PySem.W.Frag} {W : WX} {te ta tb : TE} {tt : TT} {t u : TS} {g : TG} {δ δ1 δ2 : En} {m m1 m2 m3 : Store} {d e : D} {o : Out} {tas : TA} {i j : Int}
theorem atI_of {α : Type} {xs : List α} (h0 : 0 ≤ i) (h1 : i < xs.length) : L2.atI xs i = xs[i.toNat]? := by
  unfold L2.atI ixN
  rw [if_pos h0, if_pos h1]; rfl
theorem atI_map {α : Type} {xs : List α} {f : α → D} {x : α} (h : L2.atI xs i = some x) : L2.atI (xs.map f) i = some (f x) := by
  obtain ⟨j, e1, e2⟩ := atI_len (xs := xs.map f) (by simp) h
  rw [e2, List.getElem?_map, e1]; rfl
theorem atI_getD {α : Type} {xs : List α} (z : α) (h0 : 0 ≤ i) (h1 : i < xs.length) : L2.atI xs i = some (xs.getD i.toNat z) := by
  rw [atI_of h0 h1]
  have : i.toNat < xs.length := by omega
  rw [List.getElem?_eq_getElem this, List.getD_eq_getElem?_getD, List.getElem?_eq_getElem this]; rfl
theorem set_same {k : Nat} {c : Cell} (h : m[k]? = some c) : m.set k c = m := by
  apply List.ext_getElem?
  intro l
  by_cases hl : k = l
  · subst hl
    rw [List.getElem?_set_self (List.getElem?_eq_some_iff.mp h).1, h]
  · rw [List.getElem?_set_ne hl]
theorem set_get {k : Nat} {c c' : Cell} (h : m[k]? = some c) : (m.set k c')[k]? = some c' := List.getElem?_set_self (List.getElem?_eq_some_iff.mp h).1
theorem set_get_ne {k l : Nat} {c : Cell} (h : k ≠ l) : (m.set k c)[l]? = m[l]? := List.getElem?_set_ne h
theorem app_get {c : Cell} : (m ++ [c])[m.length]? = some c := by simp
theorem app_set {c c' : Cell} : (m ++ [c]).set m.length c' = m ++ [c'] := by simp
theorem Weak.refl (δ : En) : Weak δ δ := ⟨rfl, fun _ _ h => h⟩
/-- slot by slot -/
theorem Weak.nil : Weak [] [] := Weak.refl _
theorem Weak.keep {x : Option D} {δ δ' : En} (h : Weak δ δ') : Weak (x :: δ) (x :: δ') := ⟨by simp [h.1], fun i d q => by
  cases i with
  | zero => exact q
  | succ i => exact h.2 i d (by simpa using q)⟩
theorem Weak.drop {x : Option D} {δ δ' : En} (h : Weak δ δ') : Weak (x :: δ) (none :: δ') := ⟨by simp [h.1], fun i d q => by
  cases i with
  | zero => cases q
  | succ i => exact h.2 i d (by simpa using q)⟩
end
/-- data of depth at most n -/
def Sh : Nat → D → Prop
  | _, .non => True
  | _, .bl _ => True
  | _, .int _ => True
  | _, .str x => PyData.strOk x = true
  | _, .cell _ => False
  | _, .exc _ => False
  | 0, .lst _ => False
  | 0, .tup _ => False
  | 0, .scr _ => False
  | n + 1, .lst xs => ∀ x ∈ xs, Sh n x
  | n + 1, .tup xs => ∀ x ∈ xs, Sh n x
  | _ + 1, .scr _ => True
theorem lay_ints : ∀ ns : List Int, PyData.canLayAll0 (ns.map PyData.int) = true ∧ PyData.depthAll (ns.map PyData.int) ≤ 0
  | [] => ⟨rfl, by simp [PyData.depthAll]⟩
  | n :: ns => by
    obtain ⟨a, b⟩ := lay_ints ns
    refine ⟨?_, ?_⟩
    · show (PyData.canLay0 (.int n) && PyData.canLayAll0 (ns.map PyData.int)) = true
      rw [a]; rfl
    · show PyData.depthAll (PyData.int n :: ns.map PyData.int) ≤ 0
      simp only [PyData.depthAll, PyData.depth]; omega
theorem Sh.all : ∀ (n : Nat) (d : D), Sh n d → d.pure = true ∧ d.toPy.canLay0 = true ∧ d.toPy.depth ≤ n := by
  intro n
  induction n with
  | zero =>
    intro d h
    cases d with
    | non => exact ⟨rfl, rfl, by simp [D.toPy, PyData.depth]⟩
    | bl b => exact ⟨rfl, rfl, by simp [D.toPy, PyData.depth]⟩
    | int i => exact ⟨rfl, rfl, by simp [D.toPy, PyData.depth]⟩
    | str x => exact ⟨rfl, by simpa [D.toPy, PyData.canLay0, Sh] using h, by simp [D.toPy, PyData.depth]⟩
    | lst xs => exact absurd h (by simp [Sh])
    | tup xs => exact absurd h (by simp [Sh])
    | cell k => exact absurd h (by simp [Sh])
    | exc C => exact absurd h (by simp [Sh])
    | scr ns => exact absurd h (by simp [Sh])
  | succ n ih =>
    have all : ∀ xs : List D, (∀ x ∈ xs, Sh n x) → D.pures xs = true ∧ PyData.canLayAll0 (D.toPys xs) = true ∧ PyData.depthAll (D.toPys xs) ≤ n := by
      intro xs
      induction xs with
      | nil => intro _; exact ⟨rfl, rfl, by simp [D.toPys, PyData.depthAll]⟩
      | cons x xs ihx =>
        intro h
        obtain ⟨a1, a2, a3⟩ := ih x (h x List.mem_cons_self)
        obtain ⟨b1, b2, b3⟩ := ihx fun y hy => h y (List.mem_cons_of_mem _ hy)
        refine ⟨by show (x.pure && D.pures xs) = true; rw [a1, b1]; rfl, by show (x.toPy.canLay0 && PyData.canLayAll0 (D.toPys xs)) = true; rw [a2, b2]; rfl, ?_⟩
        show PyData.depthAll (x.toPy :: D.toPys xs) ≤ n
        simp only [PyData.depthAll]; omega
    intro d h
    cases d with
    | non => exact ⟨rfl, rfl, by simp [D.toPy, PyData.depth]⟩
    | bl b => exact ⟨rfl, rfl, by simp [D.toPy, PyData.depth]⟩
    | int i => exact ⟨rfl, rfl, by simp [D.toPy, PyData.depth]⟩
    | str x => exact ⟨rfl, by simpa [D.toPy, PyData.canLay0, Sh] using h, by simp [D.toPy, PyData.depth]⟩
    | lst xs =>
      obtain ⟨a, b, c⟩ := all xs h
      refine ⟨a, by simpa [D.toPy, PyData.canLay0] using b, ?_⟩
      simp only [D.toPy, PyData.depth]; omega
    | tup xs =>
      obtain ⟨a, b, c⟩ := all xs h
      refine ⟨a, by simpa [D.toPy, PyData.canLay0] using b, ?_⟩
      simp only [D.toPy, PyData.depth]; omega
    | cell k => exact absurd h (by simp [Sh])
    | exc C => exact absurd h (by simp [Sh])
    | scr ns =>
      obtain ⟨a, b⟩ := lay_ints ns
      refine ⟨rfl, by simpa [D.toPy, PyData.canLay0] using a, ?_⟩
      simp only [D.toPy, PyData.depth]; omega
theorem Sh.pure {n : Nat} {d : D} (h : Sh n d) : d.pure = true := (Sh.all n d h).1
theorem Sh.shaped {n : Nat} {d : D} (h : Sh n d) (hn : n ≤ 64) : SeqAt.shaped d.toPy = true := by
  obtain ⟨_, a, b⟩ := Sh.all n d h
  unfold SeqAt.shaped
  rw [a, decide_eq_true (show d.toPy.depth ≤ 64 by omega)]; rfl
theorem Sh.canLay {n : Nat} {d : D} (h : Sh n d) : d.toPy.canLay0 = true := (Sh.all n d h).2.1
theorem Sh.map {α : Type} {n : Nat} {f : α → D} {xs : List α} (h : ∀ x, Sh n (f x)) : Sh (n + 1) (.lst (xs.map f)) := fun y hy => by
  obtain ⟨x, _, rfl⟩ := List.mem_map.mp hy
  exact h x
/-- what reads as plain data: pure data, or what a cell holds -/
inductive Sd (m : Store) : D → D → Prop
  | data {d : D} : Sh 60 d → Sd m d d
  | cell {k : Nat} {xs : List D} : m[k]? = some (.lst xs) → Sh 60 (.lst xs) → Sd m (.cell k) (.lst xs)
theorem Sd.pd {m : Store} {d d' : D} (h : Sd m d d') : Pd m d d'.toPy ∧ SeqAt.shaped d'.toPy = true ∧ d'.toPy.canLay0 = true := by
  cases h with
  | data h => exact ⟨.pure h.pure, h.shaped (by omega), h.canLay⟩
  | cell hk h => exact ⟨.cell hk h.pure, h.shaped (by omega), h.canLay⟩
section
variable {K : PySem.W.Frag} {W : WX} {te ta tb : TE} {tt : TT} {t u : TS} {g : TG} {δ δ1 δ2 : En} {m m1 m2 m3 : Store} {d e d' e' : D} {o : Out} {tas : TA} {i j : Int}
/-- a list's emptiness -/
theorem eqv_nil (xs : List PyData) : PyData.eqv (.list xs) (.list []) = xs.isEmpty := by cases xs <;> rfl
theorem toPys_empty (xs : List D) : (D.toPys xs).isEmpty = xs.isEmpty := by cases xs <;> rfl
end
end DL
namespace DL
open PySem PySem.Spec PyProof.Rows L2

/-! ### isinstance of errors, of None -/
def rIsX (K : PySem.W.Frag) : List V → Hp → VK → Prop := fun xs H Q => ∃ (a E : Addr) (c : V) (cv : Value) (b : Bool), xs = [.ref a, c] ∧ (H a = some (ExV (.ref E) a) ∨ H a = some (ExO (.ref E) a)) ∧ ExcC K E ∧ ClsV c cv ∧ PySem.W.kitOne K (.ref E) cv = some b ∧ Q (.bl b) H
def rIsA (K : PySem.W.Frag) : List V → Hp → VK → Prop := fun xs H Q => rIsX K xs H Q ∨ rIsi K xs H Q
theorem exc_at {X : Cx} {pins : List (Addr × Obj)} {σ : L2.St} {H : Hp} {s : Shared} {a E : Addr} (I : Inv X pins σ H s) (h : H a = some (ExV (.ref E) a) ∨ H a = some (ExO (.ref E) a)) : ∃ oe, PySem.W.InstAt s.heap a oe E none := by
  have key : ∃ (oe : Obj) (vs : Array Value), s.heap.get? a = some oe ∧ Zc (.ref E) none oe ∧ oe.data = .fields vs := by
    rcases h with h | h
    · obtain ⟨⟨oe, vs, e, z, d⟩, _⟩ := I.hok a _ h
      exact ⟨oe, vs, e, z, d⟩
    · obtain ⟨⟨oe, vs, e, z, d, _⟩, _⟩ := I.hok a _ h
      exact ⟨oe, vs, e, z, d⟩
  obtain ⟨⟨oc, od, oda, osl⟩, vs, e, ⟨z1, z2⟩, d⟩ := key
  dsimp only at z1 z2 d
  subst z1 z2 d
  exact ⟨_, e, rfl, rfl, trivial⟩
theorem call_isA {X : Cx} : CallR X (.builtin "isinstance") (rIsA X.K) := by
  intro pins s σ H xs us Q I r h
  rcases h with ⟨a, E, c, cv, b, rfl, ha, C, k, e, q⟩ | h
  · cases r with
    | cons rx rr => cases rr with
      | cons rt rr =>
        cases rr
        cases rx
        have ec := k.eq rt
        subst ec
        obtain ⟨oe, J⟩ := exc_at I ha
        exact PySem.W.kia_one (PySem.W.handS_kitx_exc C.hg C.hk C.hs C.hd C.ha C.hn C.ht C.hm) I.kIn J e (fun z => nomatch z) fun tk => ⟨.bl b, H, I.kept (t' := tk) fun _ _ z => z, rfl, q⟩
  · exact call_isi pins s σ H xs us Q I r h

/-! ### the classes of refusals -/
def kinds : List Str := ["NoSpan", "NoPlace", "NoCover", "NoWeight", "NoCount", "NoName", "Twice", "Full", "Bare", "NoDeed", "NoText", "NoLine"]
def ga (K : PySem.W.Frag) (x : Str) : Addr := He.ga K x
def excB (K : PySem.W.Frag) (E : Addr) : Bool :=
  decide (PySem.W.findIn K (.ref E) "__getattribute__" = some (some (.builtin "BaseException.__getattribute__"))) && (decide (PySem.W.findIn K (.ref E) "__getattr__" = some none) &&
  (decide (PySem.W.subIn K (.ref E) (.type "BaseException") = some true) && (PySem.W.hasDictIn K E && (decide (PySem.W.findIn K (.ref E) "__class__" = some (some (.builtin "object.__class__"))) &&
  (decide (PySem.W.specialIn K (.builtin "object.__class__") "__get__" = some (some (.builtin "getset_descriptor.__get__"))) && (decide (PySem.W.takesIn K (.builtin "object.__class__") = some true) && decide (PySem.W.mroIn K E (.type "object") = some true)))))))
theorem excB_ok {K : PySem.W.Frag} {E : Addr} (h : excB K E = true) : ExcC K E := by
  unfold excB at h
  simp only [Bool.and_eq_true, decide_eq_true_eq] at h
  obtain ⟨h1, h2, h3, h4, h5, h6, h7, h8⟩ := h
  exact ⟨h1, h2, h3, h4, h5, h6, h7, h8⟩
def isK (K : PySem.W.Frag) (t c : Value) (b : Bool) : Bool := decide (PySem.W.kitOne K t c = some b)
/-- what is asked of the classes ns, which stand under ShelfError -/
def xsB (ns : List Str) (K : PySem.W.Frag) : Bool :=
  (ns.all fun x => (He.Fa.exc x).ok K && (excB K (ga K x) && (isK K (.ref (ga K x)) (.ref (ga K "ShelfError")) true && (isK K (.ref (ga K x)) (.type "ValueError") true && (isK K (.type "NoneType") (.ref (ga K x)) false && (isK K (.ref (ga K "ShelfError")) (.ref (ga K x)) false &&
    (decide (PySem.W.exmOne K (.ref (ga K x)) (.ref (ga K "ShelfError")) = some true) && (eqO1 K x && ns.all fun y => isK K (.ref (ga K x)) (.ref (ga K y)) (decide (x = y))))))))))
  && ((He.Fa.exc "ShelfError").ok K && (excB K (ga K "ShelfError") && (isK K (.ref (ga K "ShelfError")) (.ref (ga K "ShelfError")) true && (isK K (.ref (ga K "ShelfError")) (.type "ValueError") true && (isK K (.type "NoneType") (.ref (ga K "ShelfError")) false && (isK K (.type "NoneType") (.type "ValueError") false && eqO1 K "ShelfError"))))))
where eqO1 (K : PySem.W.Frag) (x : Str) : Bool := decide (PySem.W.nsIn K mainGlobals x = some (some (.ref (ga K x))))
structure XCls (K : PySem.W.Frag) (ns : List Str) (x : Str) : Prop where
  ex : PySem.W.excIn K (ga K x) He.veBase "ValueError.__new__" = true
  kp : PySem.W.keepIn K (.ref (ga K x)) = true
  sb : PySem.W.subIn K (.ref (ga K x)) (.type "BaseException") = some true
  ty : PySem.W.typeIn K (.ref (ga K x)) = some (.type "type")
  c : ExcC K (ga K x)
  s : PySem.W.kitOne K (.ref (ga K x)) (.ref (ga K "ShelfError")) = some true
  v : PySem.W.kitOne K (.ref (ga K x)) (.type "ValueError") = some true
  n : PySem.W.kitOne K (.type "NoneType") (.ref (ga K x)) = some false
  g : PySem.W.nsIn K mainGlobals x = some (some (.ref (ga K x)))
structure Xs (K : PySem.W.Frag) (ns : List Str) : Prop where
  one : ∀ x ∈ ns, XCls K ns x
  up : XCls K ns "ShelfError"
  kit : ∀ x ∈ ns, ∀ y ∈ ns, PySem.W.kitOne K (.ref (ga K x)) (.ref (ga K y)) = some (decide (x = y))
  down : ∀ x ∈ ns, PySem.W.kitOne K (.ref (ga K "ShelfError")) (.ref (ga K x)) = some false
  exm : ∀ x ∈ ns, PySem.W.exmOne K (.ref (ga K x)) (.ref (ga K "ShelfError")) = some true
  nv : PySem.W.kitOne K (.type "NoneType") (.type "ValueError") = some false
theorem xsB_ok {K : PySem.W.Frag} {ns : List Str} (h : xsB ns K = true) : Xs K ns := by
  unfold xsB at h
  obtain ⟨h1, h2⟩ := Bool.and_eq_true_iff.mp h
  have d := fun {p : Prop} [Decidable p] (q : decide p = true) => of_decide_eq_true q
  have one : ∀ x ∈ ns, XCls K ns x ∧ (∀ y ∈ ns, PySem.W.kitOne K (.ref (ga K x)) (.ref (ga K y)) = some (decide (x = y))) ∧ PySem.W.kitOne K (.ref (ga K "ShelfError")) (.ref (ga K x)) = some false ∧ PySem.W.exmOne K (.ref (ga K x)) (.ref (ga K "ShelfError")) = some true := by
    intro x hx
    have q := List.all_eq_true.mp h1 x hx
    simp only [Bool.and_eq_true] at q
    obtain ⟨q1, q2, q3, q4, q5, q6, q7, q8, q9⟩ := q
    obtain ⟨e1, e2, e3, e4⟩ := He.exc_ok q1
    exact ⟨⟨e1, e2, e3, e4, excB_ok q2, of_decide_eq_true q3, of_decide_eq_true q4, of_decide_eq_true q5, of_decide_eq_true q8⟩, fun y hy => of_decide_eq_true (List.all_eq_true.mp q9 y hy), of_decide_eq_true q6, of_decide_eq_true q7⟩
  simp only [Bool.and_eq_true] at h2
  obtain ⟨q1, q2, q3, q4, q5, q6, q7⟩ := h2
  obtain ⟨e1, e2, e3, e4⟩ := He.exc_ok q1
  exact ⟨fun x hx => (one x hx).1, ⟨e1, e2, e3, e4, excB_ok q2, of_decide_eq_true q3, of_decide_eq_true q4, of_decide_eq_true q5, of_decide_eq_true q7⟩, fun x hx => (one x hx).2.1, fun x hx => (one x hx).2.2.1, fun x hx => (one x hx).2.2.2, of_decide_eq_true q6⟩
theorem XCls.mg {K : PySem.W.Frag} {ns : List Str} {x : Str} {h : Heap} {mg : Str → Option Value} (c : XCls K ns x) (X : K.In h) (G : h.Ns mainGlobals mg) : mg x = some (.ref (ga K x)) := PySem.W.mg_of X G c.g

/-! ### the head's hook with one truth more -/
def obsB (n : Nat) (fa : List He.Fa) (fn : List He.DefD) (ex : PySem.W.Frag → Bool) (g : Addr → Option Obj) : He.AlD × Bool := (He.obsD fa fn (He.frG g (He.asD g n)), ex (He.frG g (He.asD g n)))
def hookB (n : Nat) (fa : List He.Fa) (fn : List He.DefD) (ex : PySem.W.Frag → Bool) : PySem.W.Hook where
  α := He.AlD × Bool
  obs := fun s => obsB n fa fn ex s.heap.get?
  val := fun _ => (He.valD fn, true)
  says := fun _ h => ∃ K : PySem.W.Frag, K.In h ∧ He.SaysD fa fn K ∧ ex K = true
  of := fun _ _ e => ⟨_, He.frG_in, congrArg Prod.fst e, congrArg Prod.snd e⟩
  keeps := fun _ _ _ ⟨K, hK, c⟩ k => ⟨K, PySem.W.Frag.In.keeps hK k, c⟩
theorem obsB_eq {n : Nat} {fa : List He.Fa} {fn : List He.DefD} {ex : PySem.W.Frag → Bool} {g : Addr → Option Obj} {s : Shared} (h : ∀ a, g a = s.heap.get? a) : obsB n fa fn ex g = (hookB n fa fn ex).obs s := by
  have e : g = s.heap.get? := funext h
  rw [e]; rfl

/-! ### raising -/
def tRaise (W : WX) (C : Value) : TS := fun _ σ H => W C none σ H
theorem ps_raiseK {X : Cx} {ns : List Str} {W : WX} {x msg : Str} {k : Nat} {p p2 pos pos2 : Pos} (c : XCls X.K ns x) (m : X.mg x = some (.ref (ga X.K x))) (hc : X.calm = true) (tk : Takes X W) (hg : Gl X x) (hdb : (x == ("__debug__" : Str)) = false := by decide) :
    PS X (.Raise (some (.Call (.Name x p) [.Constant (.str msg) k p2] [] pos)) none pos2) (tRaise W (.ref (ga X.K x))) := ps_raise hc tk (pmk_own PySem.F.excBase_ValueError c.ex m c.kp (raises_own c.sb c.ty) hg hdb)
section
variable {K : PySem.W.Frag} {W : WX} {te ta tb : TE} {tt : TT} {t u : TS} {g : TG} {δ δ1 δ2 : En} {m m1 m2 m3 : Store} {d e : D} {o : Out} {tas : TA} {i j : Nat} {C : Value}
theorem ys_raise : YS K W (tRaise W C) δ m (.ex C δ m) := fun r F H σ D hr er q => q σ r F H hr er (Ext.refl hr)
/-- try: .. except c as i: j = i -/
def tTry (K : PySem.W.Frag) (c : Value) (i j : Nat) (tb : WX → TS) : TS := fun D σ H => tb (wKeep K c i j D) D σ H
theorem er_none {r : List Addr} {F : Hp} {σ : L2.St} (h : ER K r F σ δ) : ER K r F (σ.set i none) (δ.set i none) := by
  refine ⟨by simp [h.1], fun l e he => ?_⟩
  by_cases hl : i = l
  · subst hl
    have q : i < (δ.set i none).length := (List.getElem?_eq_some_iff.mp he).1
    rw [List.length_set] at q
    rw [List.getElem?_set_self q] at he; cases he
  · rw [List.getElem?_set_ne hl] at he ⊢
    exact h.2 l e he
theorem ys_tryX {c : Value} {x : Str} {tb : WX → TS} (h : ∀ W', YS K W' (tb W') δ m (.ex (.ref (ga K x)) δ1 m1)) (he : PySem.W.exmOne K (.ref (ga K x)) c = some true) : YS K W (tTry K c i j tb) δ m (.nx (((δ1.set i (some (.exc x))).set j (some (.exc x))).set i none) m1) := fun r F H σ D hr er q =>
  h _ r F H σ D hr er fun σ1 r1 F1 H1 hr1 er1 x1 => ⟨he, rfl, fun a na => by
    have x2 : Ext r1 F1 H1 m1 r1 (upd F1 a (ExV (.ref (ga K x)) a)) (upd H1 a (ExV (.ref (ga K x)) a)) m1 := Ext.laid hr1 na
    have rp : Rep K r1 (upd F1 a (ExV (.ref (ga K x)) a)) (.ref a) (.exc x) := .exc (.inl upd_same)
    exact q _ r1 _ _ (hr1.laid na) (er_none (((er1.ext x2).set i rp).set j rp)) (x1.trans hr1.len hr.len x2)⟩
end
theorem bt_ValueError : bootBuiltins "ValueError" = some (.type "ValueError") := by decide +kernel
end DL
namespace LW
open PySem PySem.Spec PyProof.Rows L2 DL
def top (i : Nat) : Stmt := PySem.Challenge.pw_spanshelf_k79_texts_of_nothing.main.body.getD i (.Pass ⟨0, 0, 0, 0⟩)
abbrev FnP (K : PySem.W.Frag) (x : Str) (st : Stmt) (f : Addr) (fd : FuncData) : Prop := FunD K x x (defArgs st) (defBody st) (defScope st) [] [] f fd
def clsBody : Stmt → List Stmt
  | .ClassDef _ _ _ b _ _ _ _ _ _ _ => b
  | _ => []
abbrev s_law_mixed : Stmt := top 46
abbrev N_law_mixed : List Str := ["_law_cell", "_law_k", "_law_number_here"]
theorem sc_law_mixed : FnScope N_law_mixed ["_law_cell", "_law_k"] (defScope s_law_mixed) := ⟨rfl, rfl, rfl, by decide +kernel, rfl, by decide +kernel, by decide +kernel⟩
abbrev s_law_draw : Stmt := top 48
abbrev N_law_draw : List Str := ["_law_purse_here", "_law_out_of", "_law_drawn", "_law_number_here", "_law_k"]
theorem sc_law_draw : FnScope N_law_draw ["_law_purse_here", "_law_out_of"] (defScope s_law_draw) := ⟨rfl, rfl, rfl, by decide +kernel, rfl, by decide +kernel, by decide +kernel⟩
abbrev s_law_names : Stmt := top 50
abbrev N_law_names : List Str := ["_law_purse_here", "_law_many", "_law_letters", "_law_k", "_law_stem", "_law_at_here", "_law_first", "_law_found"]
theorem sc_law_names : FnScope N_law_names ["_law_purse_here", "_law_many"] (defScope s_law_names) := ⟨rfl, rfl, rfl, by decide +kernel, rfl, by decide +kernel, by decide +kernel⟩
abbrev s_law_at : Stmt := top 45
abbrev N_law_at : List Str := ["_law_script", "_law_k"]
theorem sc_law_at : FnScope N_law_at ["_law_script", "_law_k"] (defScope s_law_at) := ⟨rfl, rfl, rfl, by decide +kernel, rfl, by decide +kernel, by decide +kernel⟩
abbrev s_law_purse : Stmt := top 47
abbrev N_law_purse : List Str := ["_law_script", "_law_at_here", "_law_cell"]
theorem sc_law_purse : FnScope N_law_purse ["_law_script", "_law_at_here"] (defScope s_law_purse) := ⟨rfl, rfl, rfl, by decide +kernel, rfl, by decide +kernel, by decide +kernel⟩
abbrev s_law_number : Stmt := top 49
abbrev N_law_number : List Str := ["_law_purse_here", "_law_most", "_law_far"]
theorem sc_law_number : FnScope N_law_number ["_law_purse_here", "_law_most"] (defScope s_law_number) := ⟨rfl, rfl, rfl, by decide +kernel, rfl, by decide +kernel, by decide +kernel⟩
abbrev s_law_end : Stmt := top 51
abbrev N_law_end : List Str := ["_law_purse_here", "_law_ends", "_law_most", "_law_near"]
theorem sc_law_end : FnScope N_law_end ["_law_purse_here", "_law_ends", "_law_most"] (defScope s_law_end) := ⟨rfl, rfl, rfl, by decide +kernel, rfl, by decide +kernel, by decide +kernel⟩
abbrev s_law_cover : Stmt := top 53
abbrev N_law_cover : List Str := ["_law_purse_here", "_law_many", "_law_ends", "_law_k"]
theorem sc_law_cover : FnScope N_law_cover ["_law_purse_here", "_law_many"] (defScope s_law_cover) := ⟨rfl, rfl, rfl, by decide +kernel, rfl, by decide +kernel, by decide +kernel⟩
abbrev s_law_span_text : Stmt := top 55
abbrev N_law_span_text : List Str := ["_law_span_here"]
theorem sc_law_span_text : FnScope N_law_span_text ["_law_span_here"] (defScope s_law_span_text) := ⟨rfl, rfl, rfl, by decide +kernel, rfl, by decide +kernel, by decide +kernel⟩
abbrev s_law_shelf_text : Stmt := top 56
abbrev N_law_shelf_text : List Str := ["_law_kept", "_law_name", "_law_rows"]
theorem sc_law_shelf_text : FnScope N_law_shelf_text ["_law_kept"] (defScope s_law_shelf_text) := ⟨rfl, rfl, rfl, by decide +kernel, rfl, by decide +kernel, by decide +kernel⟩
abbrev s_law_number_read : Stmt := top 57
abbrev N_law_number_read : List Str := ["_law_text", "_law_figures", "_law_sign", "_law_good"]
theorem sc_law_number_read : FnScope N_law_number_read ["_law_text"] (defScope s_law_number_read) := ⟨rfl, rfl, rfl, by decide +kernel, rfl, by decide +kernel, by decide +kernel⟩
abbrev s_law_span_read : Stmt := top 58
abbrev N_law_span_read : List Str := ["_law_text", "_law_parts", "_law_part", "_law_low", "_law_high"]
theorem sc_law_span_read : FnScope N_law_span_read ["_law_text"] (defScope s_law_span_read) := ⟨rfl, rfl, rfl, by decide +kernel, rfl, by decide +kernel, by decide +kernel⟩
abbrev s_law_cover_read : Stmt := top 59
abbrev N_law_cover_read : List Str := ["_law_text", "_law_word", "_law_found", "_law_one", "_law_other"]
theorem sc_law_cover_read : FnScope N_law_cover_read ["_law_text"] (defScope s_law_cover_read) := ⟨rfl, rfl, rfl, by decide +kernel, rfl, by decide +kernel, by decide +kernel⟩
abbrev s_law_row_read : Stmt := top 60
abbrev N_law_row_read : List Str := ["_law_row", "_law_words", "_law_letters", "_law_sign", "_law_span_here", "_law_weight"]
theorem sc_law_row_read : FnScope N_law_row_read ["_law_row"] (defScope s_law_row_read) := ⟨rfl, rfl, rfl, by decide +kernel, rfl, by decide +kernel, by decide +kernel⟩
abbrev s_law_shelf_read : Stmt := top 61
abbrev N_law_shelf_read : List Str := ["_law_text", "_law_row", "_law_found", "_law_names_here", "_law_kept", "_law_name", "_law_one"]
theorem sc_law_shelf_read : FnScope N_law_shelf_read ["_law_text"] (defScope s_law_shelf_read) := ⟨rfl, rfl, rfl, by decide +kernel, rfl, by decide +kernel, by decide +kernel⟩
abbrev s_Shelf_names : Stmt := (clsBody (top 34)).getD 12 (.Pass ⟨0, 0, 0, 0⟩)
abbrev N_Shelf_names : List Str := ["self"]
theorem sc_Shelf_names : FnScope N_Shelf_names ["self"] (defScope s_Shelf_names) := ⟨rfl, rfl, rfl, by decide +kernel, rfl, by decide +kernel, by decide +kernel⟩
abbrev s_law_class : Stmt := top 54
abbrev N_law_class : List Str := ["_law_caught", "_law_some", "_law_words", "_law_word", "_law_truth", "_law_found"]
theorem sc_law_class : FnScope N_law_class ["_law_caught"] (defScope s_law_class) := ⟨rfl, rfl, rfl, by decide +kernel, rfl, by decide +kernel, by decide +kernel⟩
abbrev s_must : Stmt := top 39
abbrev N_must : List Str := ["fine"]
theorem sc_must : FnScope N_must ["fine"] (defScope s_must) := ⟨rfl, rfl, rfl, by decide +kernel, rfl, by decide +kernel, by decide +kernel⟩
abbrev s_is_number : Stmt := top 38
abbrev N_is_number : List Str := ["text", "figures", "sign"]
theorem sc_is_number : FnScope N_is_number ["text"] (defScope s_is_number) := ⟨rfl, rfl, rfl, by decide +kernel, rfl, by decide +kernel, by decide +kernel⟩
abbrev s_read_number : Stmt := top 40
abbrev N_read_number : List Str := ["text"]
theorem sc_read_number : FnScope N_read_number ["text"] (defScope s_read_number) := ⟨rfl, rfl, rfl, by decide +kernel, rfl, by decide +kernel, by decide +kernel⟩
abbrev s_is_place : Stmt := top 17
abbrev N_is_place : List Str := ["number"]
theorem sc_is_place : FnScope N_is_place ["number"] (defScope s_is_place) := ⟨rfl, rfl, rfl, by decide +kernel, rfl, by decide +kernel, by decide +kernel⟩
abbrev s_is_span : Stmt := top 19
abbrev N_is_span : List Str := ["span"]
theorem sc_is_span : FnScope N_is_span ["span"] (defScope s_is_span) := ⟨rfl, rfl, rfl, by decide +kernel, rfl, by decide +kernel, by decide +kernel⟩
abbrev s_read_span : Stmt := top 41
abbrev N_read_span : List Str := ["text", "low", "dots", "high", "span"]
theorem sc_read_span : FnScope N_read_span ["text"] (defScope s_read_span) := ⟨rfl, rfl, rfl, by decide +kernel, rfl, by decide +kernel, by decide +kernel⟩
abbrev s_Shelf_must_have : Stmt := (clsBody (top 34)).getD 1 (.Pass ⟨0, 0, 0, 0⟩)
abbrev N_Shelf_must_have : List Str := ["self", "name"]
theorem sc_Shelf_must_have : FnScope N_Shelf_must_have ["self", "name"] (defScope s_Shelf_must_have) := ⟨rfl, rfl, rfl, by decide +kernel, rfl, by decide +kernel, by decide +kernel⟩
abbrev s_Shelf_span : Stmt := (clsBody (top 34)).getD 14 (.Pass ⟨0, 0, 0, 0⟩)
abbrev N_Shelf_span : List Str := ["self", "name"]
theorem sc_Shelf_span : FnScope N_Shelf_span ["self", "name"] (defScope s_Shelf_span) := ⟨rfl, rfl, rfl, by decide +kernel, rfl, by decide +kernel, by decide +kernel⟩
abbrev s_Shelf_weight : Stmt := (clsBody (top 34)).getD 15 (.Pass ⟨0, 0, 0, 0⟩)
abbrev N_Shelf_weight : List Str := ["self", "name"]
theorem sc_Shelf_weight : FnScope N_Shelf_weight ["self", "name"] (defScope s_Shelf_weight) := ⟨rfl, rfl, rfl, by decide +kernel, rfl, by decide +kernel, by decide +kernel⟩
abbrev s_must_span : Stmt := top 20
abbrev N_must_span : List Str := ["span"]
theorem sc_must_span : FnScope N_must_span ["span"] (defScope s_must_span) := ⟨rfl, rfl, rfl, by decide +kernel, rfl, by decide +kernel, by decide +kernel⟩
abbrev s_must_spans : Stmt := top 21
abbrev N_must_spans : List Str := ["spans", "span"]
theorem sc_must_spans : FnScope N_must_spans ["spans"] (defScope s_must_spans) := ⟨rfl, rfl, rfl, by decide +kernel, rfl, by decide +kernel, by decide +kernel⟩
abbrev s_must_cover : Stmt := top 25
abbrev N_must_cover : List Str := ["cover", "one", "other"]
theorem sc_must_cover : FnScope N_must_cover ["cover"] (defScope s_must_cover) := ⟨rfl, rfl, rfl, by decide +kernel, rfl, by decide +kernel, by decide +kernel⟩
abbrev s_read_cover : Stmt := top 42
abbrev N_read_cover : List Str := ["text", "word", "found"]
theorem sc_read_cover : FnScope N_read_cover ["text"] (defScope s_read_cover) := ⟨rfl, rfl, rfl, by decide +kernel, rfl, by decide +kernel, by decide +kernel⟩
abbrev s_Shelf___init__ : Stmt := (clsBody (top 34)).getD 0 (.Pass ⟨0, 0, 0, 0⟩)
abbrev N_Shelf___init__ : List Str := ["self"]
theorem sc_Shelf___init__ : FnScope N_Shelf___init__ ["self"] (defScope s_Shelf___init__) := ⟨rfl, rfl, rfl, by decide +kernel, rfl, by decide +kernel, by decide +kernel⟩
abbrev s_is_name : Stmt := top 33
abbrev N_is_name : List Str := ["text", "sign"]
theorem sc_is_name : FnScope N_is_name ["text"] (defScope s_is_name) := ⟨rfl, rfl, rfl, by decide +kernel, rfl, by decide +kernel, by decide +kernel⟩
abbrev s_read_shelf : Stmt := top 43
abbrev N_read_shelf : List Str := ["text", "shelf", "last", "line", "words", "weight"]
theorem sc_read_shelf : FnScope N_read_shelf ["text"] (defScope s_read_shelf) := ⟨rfl, rfl, rfl, by decide +kernel, rfl, by decide +kernel, by decide +kernel⟩
abbrev s_law_asked : Stmt := top 62
abbrev N_law_asked : List Str := ["_law_text", "_law_way", "_law_caught", "_law_found", "e", "_law_kept", "_law_name"]
theorem sc_law_asked : FnScope N_law_asked ["_law_text", "_law_way"] (defScope s_law_asked) := ⟨rfl, rfl, rfl, by decide +kernel, rfl, by decide +kernel, by decide +kernel⟩
abbrev s_law_right : Stmt := top 63
abbrev N_law_right : List Str := ["_law_text", "_law_way", "_law_due"]
theorem sc_law_right : FnScope N_law_right ["_law_text"] (defScope s_law_right) := ⟨rfl, rfl, rfl, by decide +kernel, rfl, by decide +kernel, by decide +kernel⟩
abbrev s_law_spoilt : Stmt := top 64
abbrev N_law_spoilt : List Str := ["_law_purse_here", "_law_text", "_law_way", "_law_at_here", "_law_words", "_law_k", "_law_signs", "_law_sign", "_law_odd"]
theorem sc_law_spoilt : FnScope N_law_spoilt ["_law_purse_here", "_law_text"] (defScope s_law_spoilt) := ⟨rfl, rfl, rfl, by decide +kernel, rfl, by decide +kernel, by decide +kernel⟩
abbrev s_law_span : Stmt := top 52
abbrev N_law_span : List Str := ["_law_purse_here", "_law_ends", "_law_most", "_law_one", "_law_other", "_law_low", "_law_high"]
theorem sc_law_span : FnScope N_law_span ["_law_purse_here", "_law_ends", "_law_most"] (defScope s_law_span) := ⟨rfl, rfl, rfl, by decide +kernel, rfl, by decide +kernel, by decide +kernel⟩
abbrev s_law : Stmt := top 65
abbrev N_law : List Str := ["_law_script", "_law_names_here", "_law_cell", "_law_purse_here", "_law_kept", "_law_name", "_law_cover_here", "_law_span_here", "_law_some", "_law_text", "_law_turn", "_law_letters", "_law_k", "_law_rows", "_law_spans"]
theorem sc_law : FnScope N_law ["_law_script"] (defScope s_law) := ⟨rfl, rfl, rfl, by decide +kernel, rfl, by decide +kernel, by decide +kernel⟩
abbrev xnames : List Str := kinds
def XM (K : PySem.W.Frag) : Prop := PySem.W.exmOne K (.ref (DL.ga K "NoCover")) (.ref (DL.ga K "NoCover")) = some true
def xsM (K : PySem.W.Frag) : Bool := xsB xnames K && decide (PySem.W.exmOne K (.ref (DL.ga K "NoCover")) (.ref (DL.ga K "NoCover")) = some true)
theorem xm_ok {K : PySem.W.Frag} (h : decide (PySem.W.exmOne K (.ref (DL.ga K "NoCover")) (.ref (DL.ga K "NoCover")) = some true) = true) : XM K := by
  unfold XM
  exact of_decide_eq_true h
def d_law_mixed : He.DefD := ⟨("_law_mixed", none), "_law_mixed", "_law_mixed", defArgs s_law_mixed, defBody s_law_mixed, defScope s_law_mixed, [], []⟩
def d_law_draw : He.DefD := ⟨("_law_draw", none), "_law_draw", "_law_draw", defArgs s_law_draw, defBody s_law_draw, defScope s_law_draw, [], []⟩
def d_law_names : He.DefD := ⟨("_law_names", none), "_law_names", "_law_names", defArgs s_law_names, defBody s_law_names, defScope s_law_names, [], []⟩
def d_law_at : He.DefD := ⟨("_law_at", none), "_law_at", "_law_at", defArgs s_law_at, defBody s_law_at, defScope s_law_at, [], []⟩
def d_law_purse : He.DefD := ⟨("_law_purse", none), "_law_purse", "_law_purse", defArgs s_law_purse, defBody s_law_purse, defScope s_law_purse, [], []⟩
def d_law_number : He.DefD := ⟨("_law_number", none), "_law_number", "_law_number", defArgs s_law_number, defBody s_law_number, defScope s_law_number, [], []⟩
def d_law_end : He.DefD := ⟨("_law_end", none), "_law_end", "_law_end", defArgs s_law_end, defBody s_law_end, defScope s_law_end, [], []⟩
def d_law_cover : He.DefD := ⟨("_law_cover", none), "_law_cover", "_law_cover", defArgs s_law_cover, defBody s_law_cover, defScope s_law_cover, [], []⟩
def d_law_span_text : He.DefD := ⟨("_law_span_text", none), "_law_span_text", "_law_span_text", defArgs s_law_span_text, defBody s_law_span_text, defScope s_law_span_text, [], []⟩
def d_law_shelf_text : He.DefD := ⟨("_law_shelf_text", none), "_law_shelf_text", "_law_shelf_text", defArgs s_law_shelf_text, defBody s_law_shelf_text, defScope s_law_shelf_text, [], []⟩
def d_law_number_read : He.DefD := ⟨("_law_number_read", none), "_law_number_read", "_law_number_read", defArgs s_law_number_read, defBody s_law_number_read, defScope s_law_number_read, [], []⟩
def d_law_span_read : He.DefD := ⟨("_law_span_read", none), "_law_span_read", "_law_span_read", defArgs s_law_span_read, defBody s_law_span_read, defScope s_law_span_read, [], []⟩
def d_law_cover_read : He.DefD := ⟨("_law_cover_read", none), "_law_cover_read", "_law_cover_read", defArgs s_law_cover_read, defBody s_law_cover_read, defScope s_law_cover_read, [], []⟩
def d_law_row_read : He.DefD := ⟨("_law_row_read", none), "_law_row_read", "_law_row_read", defArgs s_law_row_read, defBody s_law_row_read, defScope s_law_row_read, [], []⟩
def d_law_shelf_read : He.DefD := ⟨("_law_shelf_read", none), "_law_shelf_read", "_law_shelf_read", defArgs s_law_shelf_read, defBody s_law_shelf_read, defScope s_law_shelf_read, [], []⟩
def d_Shelf_names : He.DefD := ⟨("Shelf", some "names"), "names", "Shelf.names", defArgs s_Shelf_names, defBody s_Shelf_names, defScope s_Shelf_names, [], []⟩
def d_law_class : He.DefD := ⟨("_law_class", none), "_law_class", "_law_class", defArgs s_law_class, defBody s_law_class, defScope s_law_class, [], []⟩
def d_must : He.DefD := ⟨("must", none), "must", "must", defArgs s_must, defBody s_must, defScope s_must, [], []⟩
def d_is_number : He.DefD := ⟨("is_number", none), "is_number", "is_number", defArgs s_is_number, defBody s_is_number, defScope s_is_number, [], []⟩
def d_read_number : He.DefD := ⟨("read_number", none), "read_number", "read_number", defArgs s_read_number, defBody s_read_number, defScope s_read_number, [], []⟩
def d_is_place : He.DefD := ⟨("is_place", none), "is_place", "is_place", defArgs s_is_place, defBody s_is_place, defScope s_is_place, [], []⟩
def d_is_span : He.DefD := ⟨("is_span", none), "is_span", "is_span", defArgs s_is_span, defBody s_is_span, defScope s_is_span, [], []⟩
def d_read_span : He.DefD := ⟨("read_span", none), "read_span", "read_span", defArgs s_read_span, defBody s_read_span, defScope s_read_span, [], []⟩
def d_Shelf_must_have : He.DefD := ⟨("Shelf", some "must_have"), "must_have", "Shelf.must_have", defArgs s_Shelf_must_have, defBody s_Shelf_must_have, defScope s_Shelf_must_have, [], []⟩
def d_Shelf_span : He.DefD := ⟨("Shelf", some "span"), "span", "Shelf.span", defArgs s_Shelf_span, defBody s_Shelf_span, defScope s_Shelf_span, [], []⟩
def d_Shelf_weight : He.DefD := ⟨("Shelf", some "weight"), "weight", "Shelf.weight", defArgs s_Shelf_weight, defBody s_Shelf_weight, defScope s_Shelf_weight, [], []⟩
def d_must_span : He.DefD := ⟨("must_span", none), "must_span", "must_span", defArgs s_must_span, defBody s_must_span, defScope s_must_span, [], []⟩
def d_must_spans : He.DefD := ⟨("must_spans", none), "must_spans", "must_spans", defArgs s_must_spans, defBody s_must_spans, defScope s_must_spans, [], []⟩
def d_must_cover : He.DefD := ⟨("must_cover", none), "must_cover", "must_cover", defArgs s_must_cover, defBody s_must_cover, defScope s_must_cover, [], []⟩
def d_read_cover : He.DefD := ⟨("read_cover", none), "read_cover", "read_cover", defArgs s_read_cover, defBody s_read_cover, defScope s_read_cover, [], []⟩
def d_Shelf___init__ : He.DefD := ⟨("Shelf", some "__init__"), "__init__", "Shelf.__init__", defArgs s_Shelf___init__, defBody s_Shelf___init__, defScope s_Shelf___init__, [], []⟩
def d_is_name : He.DefD := ⟨("is_name", none), "is_name", "is_name", defArgs s_is_name, defBody s_is_name, defScope s_is_name, [], []⟩
def d_read_shelf : He.DefD := ⟨("read_shelf", none), "read_shelf", "read_shelf", defArgs s_read_shelf, defBody s_read_shelf, defScope s_read_shelf, [], []⟩
def d_law_asked : He.DefD := ⟨("_law_asked", none), "_law_asked", "_law_asked", defArgs s_law_asked, defBody s_law_asked, defScope s_law_asked, [], []⟩
def d_law_right : He.DefD := ⟨("_law_right", none), "_law_right", "_law_right", defArgs s_law_right, defBody s_law_right, defScope s_law_right, [], []⟩
def d_law_spoilt : He.DefD := ⟨("_law_spoilt", none), "_law_spoilt", "_law_spoilt", defArgs s_law_spoilt, defBody s_law_spoilt, defScope s_law_spoilt, [], []⟩
def d_law_span : He.DefD := ⟨("_law_span", none), "_law_span", "_law_span", defArgs s_law_span, defBody s_law_span, defScope s_law_span, [], []⟩
def d_law : He.DefD := ⟨("law", none), "law", "law", defArgs s_law, defBody s_law, defScope s_law, [], []⟩
def fn : List He.DefD := [d_law_mixed, d_law_draw, d_law_names, d_law_at, d_law_purse, d_law_number, d_law_end, d_law_cover, d_law_span_text, d_law_shelf_text, d_law_number_read, d_law_span_read, d_law_cover_read, d_law_row_read, d_law_shelf_read, d_Shelf_names, d_law_class, d_must, d_is_number, d_read_number, d_is_place, d_is_span, d_read_span, d_Shelf_must_have, d_Shelf_span, d_Shelf_weight, d_must_span, d_must_spans, d_must_cover, d_read_cover, d_Shelf___init__, d_is_name, d_read_shelf, d_law_asked, d_law_right, d_law_spoilt, d_law_span, d_law]
def fa : List He.Fa := [.glo "_law_mixed", .glo "_law_draw", .glo "_law_names", .glo "_law_at", .glo "_law_purse", .glo "_law_number", .glo "_law_end", .glo "_law_cover", .glo "_law_span_text", .glo "_law_shelf_text", .glo "_law_number_read", .glo "_law_span_read", .glo "_law_cover_read", .glo "_law_row_read", .glo "_law_shelf_read", .meth "Shelf" "names", .glo "_law_class", .glo "must", .glo "is_number", .glo "read_number", .glo "is_place", .glo "is_span", .glo "read_span", .meth "Shelf" "must_have", .meth "Shelf" "span", .meth "Shelf" "weight", .glo "must_span", .glo "must_spans", .glo "must_cover", .glo "read_cover", .mkr "Shelf", .glo "is_name", .glo "read_shelf", .glo "_law_asked", .glo "_law_right", .glo "_law_spoilt", .glo "_law_span", .glo "law", .free "range", .free "len", .free "max", .free "min", .free "sorted", .free "set", .free "str", .free "int", .free "zip", .free "isinstance", .free "ValueError", .free "all", .int "MOST_FIGURES" 12, .str "FIGURES" "0123456789", .int "BEYOND" 1000000000000, .int "MOST_SPANS_covers" 200, .int "MOST_LETTERS" 8, .str "LETTERS" "abcdefghijklmnopqrstuvwxyz", .int "MOST_WEIGHT" 1000000000, .int "MOST_SPANS_shelf" 60, .glo "Shelf", .cls "Shelf", .noat "Shelf" "kept", .noat "Shelf" "behind", .noat "Shelf" "ahead"]
abbrev R : PySem.W.OpenRow := PySem.W.OpenLaw.row PySem.Challenge.rw_spanshelf_k79_texts_of_nothing
abbrev hk : PySem.W.Hook := hookB 4 fa fn (xsM)
def ob (s : PySem.W.SharedT) : He.AlD × Bool := obsB 4 fa fn (xsM) (HandSHeadRun.getT s)
theorem ob_eq (s : PySem.W.SharedT) : ob s = hk.obs s.abs := obsB_eq (HandSHeadRun.getT_eq s)
def loose0 : List Str := ["_wall", "__name__", "ShelfError", "NoSpan", "NoPlace", "NoCover", "NoWeight", "NoCount", "NoName", "Twice", "Full", "Bare", "NoDeed", "NoText", "NoLine", "BEYOND", "is_place", "must_place", "is_span", "must_span", "must_spans", "touches", "MOST_SPANS_covers", "must_cover", "poured", "MOST_WEIGHT", "LETTERS", "MOST_LETTERS", "MOST_SPANS_shelf", "MOST_LENGTH"]
def loose1 : List Str := ["is_name", "Shelf", "FIGURES", "MOST_FIGURES", "is_number", "must", "read_number", "read_span", "read_cover", "read_shelf", "_law_at", "_law_mixed", "_law_purse", "_law_draw", "_law_number", "_law_names", "_law_end", "_law_span", "_law_cover", "_law_class", "_law_span_text", "_law_shelf_text", "_law_number_read", "_law_span_read", "_law_cover_read", "_law_row_read", "_law_shelf_read", "_law_asked", "_law_right", "_law_spoilt"]
abbrev loose : List Str := loose0 ++ loose1
theorem run (w : World) : HandSHeadRun.RunEq R (PySem.W.view R.prog [65]) hk ob 40000 loose w := by
  intro os
  kernel_rfl
end LW
/-! The evaluator over plain data: what a reading computes, as a Lean function; each construct's function is sound for its reading, once for all. -/
namespace DL
open PySem PySem.Spec PyProof.Rows L2

inductive RX (α : Type) where
  | ok (a : α)
  | ex (x : Str)
abbrev MX (α : Type) := Option (RX α × Store)
def MX.bind {α β : Type} (x : MX α) (k : α → Store → MX β) : MX β :=
  match x with
  | some (.ok a, m) => k a m
  | some (.ex x, m) => some (.ex x, m)
  | none => none
abbrev ret {α : Type} (a : α) (m : Store) : MX α := some (.ok a, m)
section
variable {α β : Type} {a : α} {m : Store} {x : Str} {k : α → Store → MX β}
theorem bind_ok : MX.bind (some (.ok a, m)) k = k a m := rfl
theorem bind_ex : MX.bind (some (.ex x, m)) k = some (.ex x, m) := rfl
theorem bind_some {x : MX α} {res : RX β} {m' : Store} (h : x.bind k = some (res, m')) : (∃ a m1, x = some (.ok a, m1) ∧ k a m1 = some (res, m')) ∨ ∃ y, x = some (.ex y, m') ∧ res = .ex y := by
  cases x with
  | none => cases h
  | some p =>
    obtain ⟨r, m1⟩ := p
    cases r with
    | ok a => exact .inl ⟨a, m1, rfl, h⟩
    | ex y => cases h; exact .inr ⟨y, rfl, rfl⟩
end
abbrev ME := En → Store → MX D
abbrev MT := En → Store → MX Bool
abbrev MA := En → Store → MX (List D)
/-! ### the judgement -/
abbrev Rel (α β : Type) := Hp → Store → List Addr → Hp → Hp → α → β → Prop
section
variable {α β γ κ : Type}
def JAt (K : PySem.W.Frag) (W : WX) (R : Rel α β) (r : List Addr) (F H : Hp) (σ : L2.St) (m : Store) (t : Hp → (α → Hp → Prop) → Prop) : RX β → Store → Prop
  | .ok b, m' => ∀ Q : α → Hp → Prop, (∀ a r' F' H', HR K r' F' H' m' → Ext r F H m r' F' H' m' → R H m' r' F' H' a b → Q a H') → t H Q
  | .ex x, m' => (∀ r' F' H', HR K r' F' H' m' → Ext r F H m r' F' H' m' → W (.ref (ga K x)) none σ H') → ∀ Q : α → Hp → Prop, t H Q
def JX (K : PySem.W.Frag) (W : WX) (R : Rel α β) (t : L2.St → Hp → (α → Hp → Prop) → Prop) (δ : En) (m : Store) (res : RX β) (m' : Store) : Prop := ∀ r F H σ, HR K r F H m → ER K r F σ δ → JAt K W R r F H σ m (t σ) res m'
def So (K : PySem.W.Frag) (W : WX) (R : Rel α β) (t : L2.St → Hp → (α → Hp → Prop) → Prop) (e : En → Store → MX β) : Prop := ∀ δ m res m', e δ m = some (res, m') → JX K W R t δ m res m'
def RMon (R : Rel α β) : Prop := ∀ H H1 m r F G a b, (∀ p, H1 p = none → H p = none) → R H1 m r F G a b → R H m r F G a b
variable {K : PySem.W.Frag} {W : WX} {R : Rel α β} {R' : Rel γ κ} {r : List Addr} {F H : Hp} {σ : L2.St} {m m1 m2 : Store} {t : Hp → (α → Hp → Prop) → Prop} {u : α → Hp → (γ → Hp → Prop) → Prop} {b : β} {res : RX κ}
theorem JAt.bind (mon : RMon R') (hr : HR K r F H m) (h : JAt K W R r F H σ m t (.ok b) m1)
    (k : ∀ a r1 F1 H1, HR K r1 F1 H1 m1 → Ext r F H m r1 F1 H1 m1 → R H m1 r1 F1 H1 a b → JAt K W R' r1 F1 H1 σ m1 (u a) res m2) : JAt K W R' r F H σ m (fun H Q => t H fun a H1 => u a H1 Q) res m2 := by
  cases res with
  | ok c => exact fun Q q => h _ fun a r1 F1 H1 hr1 x1 ra => k a r1 F1 H1 hr1 x1 ra Q fun c' r2 F2 H2 hr2 x2 rc => q c' r2 F2 H2 hr2 (x1.trans hr1.len hr.len x2) (mon _ _ _ _ _ _ _ _ (fun p => trk_back x1) rc)
  | ex x => exact fun q Q => h _ fun a r1 F1 H1 hr1 x1 ra => k a r1 F1 H1 hr1 x1 ra (fun r2 F2 H2 hr2 x2 => q r2 F2 H2 hr2 (x1.trans hr1.len hr.len x2)) Q
theorem JAt.thrown {x : Str} (h : JAt K W R r F H σ m t (.ex x) m1) : JAt K W R' r F H σ m (fun H Q => t H fun a H1 => u a H1 Q) (.ex x) m1 := fun q Q => h q _
theorem JAt.ret {a : α} (hr : HR K r F H m) (h : R H m r F H a b) : JAt K W R r F H σ m (fun H Q => Q a H) (.ok b) m := fun Q q => q a r F H hr (Ext.refl hr) h
/-- the bind of readings and of functions -/
theorem So.bind {ta : L2.St → Hp → (α → Hp → Prop) → Prop} {a : En → Store → MX β} {u : α → L2.St → Hp → (γ → Hp → Prop) → Prop} {k : β → En → Store → MX κ} (mon : RMon R') (ha : So K W R ta a)
    (hk : ∀ b δ m res m', k b δ m = some (res, m') → ∀ v r F H σ H0, HR K r F H m → ER K r F σ δ → R H0 m r F H v b → JAt K W R' r F H σ m (u v σ) res m') :
    So K W R' (fun σ H Q => ta σ H fun v H1 => u v σ H1 Q) (fun δ m => (a δ m).bind fun x m => k x δ m) := fun δ m res m' e r F H σ hr er => by
  rcases bind_some e with ⟨x, m1, e1, e2⟩ | ⟨y, e1, rfl⟩
  · exact (ha δ m _ _ e1 r F H σ hr er).bind mon hr fun v r1 F1 H1 hr1 x1 rv => hk x δ m1 res m' e2 v r1 F1 H1 σ H hr1 (er.ext x1) rv
  · exact (ha δ m _ _ e1 r F H σ hr er).thrown
end
abbrev RE (K : PySem.W.Frag) : Rel V D := fun _ _ r F _ v d => Rep K r F v d
abbrev RB : Rel Bool Bool := fun _ _ _ _ _ a b => a = b
abbrev RA (K : PySem.W.Frag) : Rel (List V) (List D) := fun _ _ r F _ v d => RepAll K r F v d
abbrev RO : Rel (Option Int) (Option Int) := fun _ _ _ _ _ a b => a = b
theorem re_mon {K : PySem.W.Frag} : RMon (RE K) := fun _ _ _ _ _ _ _ _ _ h => h
theorem rb_mon : RMon RB := fun _ _ _ _ _ _ _ _ _ h => h
theorem ra_mon {K : PySem.W.Frag} : RMon (RA K) := fun _ _ _ _ _ _ _ _ _ h => h
theorem ro_mon : RMon RO := fun _ _ _ _ _ _ _ _ _ h => h

/-! ### expressions -/
def eC (d : D) : ME := fun _ m => ret d m
def eVar (i : Nat) : ME := fun δ m => match δ[i]? with
  | some (some d) => ret d m
  | _ => none
def eOp (o : D → D → Store → MX D) (a b : ME) : ME := fun δ m => (a δ m).bind fun x m => (b δ m).bind fun y m => o x y m
def eUn (o : D → Store → MX D) (a : ME) : ME := fun δ m => (a δ m).bind fun x m => o x m
def eAnd (a b : ME) : ME := fun δ m => (a δ m).bind fun x m => match x with
  | .bl c => cond c (b δ m) (ret (.bl false) m)
  | _ => none
def eOr (a b : ME) : ME := fun δ m => (a δ m).bind fun x m => match x with
  | .bl c => cond c (ret (.bl true) m) (b δ m)
  | _ => none
def eNot (a : ME) : ME := fun δ m => (a δ m).bind fun x m => match x with
  | .bl c => ret (.bl (!c)) m
  | _ => none
def tst (a : ME) : MT := fun δ m => (a δ m).bind fun x m => match x with
  | .bl c => ret c m
  | _ => none
def mAnd (a b : MT) : MT := fun δ m => (a δ m).bind fun c m => cond c (b δ m) (ret false m)
def mOr (a b : MT) : MT := fun δ m => (a δ m).bind fun c m => cond c (ret true m) (b δ m)
def mNot (a : MT) : MT := fun δ m => (a δ m).bind fun c m => ret (!c) m
def mYes : MT := fun _ m => ret true m
def eIf (t : MT) (a b : ME) : ME := fun δ m => (t δ m).bind fun c m => cond c (a δ m) (b δ m)
def eChain (o1 o2 : D → D → Store → MX D) (a b c : ME) : ME := fun δ m => (a δ m).bind fun x m => (b δ m).bind fun y m => (o1 x y m).bind fun z m => match z with
  | .bl k => cond k ((c δ m).bind fun w m => o2 y w m) (ret (.bl false) m)
  | _ => none
def aNil : MA := fun _ m => ret [] m
def aCons (a : ME) (as : MA) : MA := fun δ m => (a δ m).bind fun x m => (as δ m).bind fun xs m => ret (x :: xs) m
def eTup (as : MA) : ME := fun δ m => (as δ m).bind fun xs m => if xs.length ≤ 100000 then ret (.tup xs) m else none
def eCB (p : List D → Store → MX D) (as : MA) : ME := fun δ m => (as δ m).bind fun xs m => p xs m
section
variable {K : PySem.W.Frag} {W : WX} {ta tb tc : TE} {tt tu : TT} {tas : TA} {a b c : ME} {t u : MT} {as : MA}
/-- values -/
def S2 (K : PySem.W.Frag) (W : WX) (rr : R2) (o : D → D → Store → MX D) : Prop := ∀ x y m res m', o x y m = some (res, m') → ∀ r F H σ vx vy, HR K r F H m → Rep K r F vx x → Rep K r F vy y → JAt K W (RE K) r F H σ m (rr vx vy) res m'
def S1 (K : PySem.W.Frag) (W : WX) (rr : V → Hp → VK → Prop) (o : D → Store → MX D) : Prop := ∀ x m res m', o x m = some (res, m') → ∀ r F H σ vx, HR K r F H m → Rep K r F vx x → JAt K W (RE K) r F H σ m (rr vx) res m'
def SC {γ κ : Type} (K : PySem.W.Frag) (W : WX) (R : Rel γ κ) (rr : List V → Hp → (γ → Hp → Prop) → Prop) (o : List D → Store → MX κ) : Prop := ∀ xs m res m', o xs m = some (res, m') → ∀ r F H σ vs, HR K r F H m → RepAll K r F vs xs → JAt K W R r F H σ m (rr vs) res m'
theorem so_cint {i : Int} : So K W (RE K) (tC (.int i)) (eC (.int i)) := fun δ m res m' e r F H σ hr er => by cases e; exact JAt.ret hr (.int i)
theorem so_cbl {i : Bool} : So K W (RE K) (tC (.bl i)) (eC (.bl i)) := fun δ m res m' e r F H σ hr er => by cases e; exact JAt.ret hr (.bl i)
theorem so_cstr {i : Str} : So K W (RE K) (tC (.str i)) (eC (.str i)) := fun δ m res m' e r F H σ hr er => by cases e; exact JAt.ret hr (.str i)
theorem so_cnon : So K W (RE K) (tC .non) (eC .non) := fun δ m res m' e r F H σ hr er => by cases e; exact JAt.ret hr .non
theorem so_var {i : Nat} : So K W (RE K) (tVar i) (eVar i) := fun δ m res m' e r F H σ hr er => by
  unfold eVar at e
  split at e
  · rename_i d h
    cases e
    obtain ⟨v, e1, p⟩ := er.2 i d h
    exact fun Q q => ⟨v, e1, q v r F H hr (Ext.refl hr) p⟩
  · cases e
theorem so_op {rr : R2} {o : D → D → Store → MX D} (ho : S2 K W rr o) (ha : So K W (RE K) ta a) (hb : So K W (RE K) tb b) : So K W (RE K) (tOp rr ta tb) (eOp o a b) := fun δ m res m' e r F H σ hr er => by
  show JAt K W (RE K) r F H σ m (fun H Q => ta σ H fun x H1 => tb σ H1 fun y H2 => rr x y H2 Q) res m'
  rcases bind_some e with ⟨x, m1, e1, e2⟩ | ⟨y, e1, rfl⟩
  · refine (ha δ m _ _ e1 r F H σ hr er).bind re_mon hr fun v r1 F1 H1 hr1 x1 rv => ?_
    rcases bind_some e2 with ⟨y, m2, e3, e4⟩ | ⟨y, e3, rfl⟩
    · refine (hb δ m1 _ _ e3 r1 F1 H1 σ hr1 (er.ext x1)).bind re_mon hr1 fun w r2 F2 H2 hr2 x2 rw => ?_
      exact ho x y m2 res m' e4 r2 F2 H2 σ v w hr2 (rv.mono x2.pre x2.sub) rw
    · exact (hb δ m1 _ _ e3 r1 F1 H1 σ hr1 (er.ext x1)).thrown
  · exact (ha δ m _ _ e1 r F H σ hr er).thrown
theorem so_and (ha : So K W (RE K) ta a) (hb : So K W (RE K) tb b) : So K W (RE K) (tAndV ta tb) (eAnd a b) :=
  So.bind re_mon ha (k := fun x δ m => match x with
    | .bl c => cond c (b δ m) (ret (.bl false) m)
    | _ => none) (u := fun x σ H Q => ∃ c, x = .bl c ∧ if c = true then tb σ H Q else Q (.bl false) H) fun x δ m res m' e v r F H σ _ hr er rv => by
    cases x with
    | bl c =>
      cases rv
      cases c with
      | true =>
        have h := hb δ m res m' e r F H σ hr er
        cases res with
        | ok z => exact fun Q q => ⟨true, rfl, h Q q⟩
        | ex z => exact fun q Q => ⟨true, rfl, h q Q⟩
      | false => cases e; exact fun Q q => ⟨false, rfl, q _ r F H hr (Ext.refl hr) (.bl false)⟩
    | _ => cases e
theorem so_or (ha : So K W (RE K) ta a) (hb : So K W (RE K) tb b) : So K W (RE K) (tOrV ta tb) (eOr a b) :=
  So.bind re_mon ha (k := fun x δ m => match x with
    | .bl c => cond c (ret (.bl true) m) (b δ m)
    | _ => none) (u := fun x σ H Q => ∃ c, x = .bl c ∧ if c = true then Q (.bl true) H else tb σ H Q) fun x δ m res m' e v r F H σ _ hr er rv => by
    cases x with
    | bl c =>
      cases rv
      cases c with
      | false =>
        have h := hb δ m res m' e r F H σ hr er
        cases res with
        | ok z => exact fun Q q => ⟨false, rfl, h Q q⟩
        | ex z => exact fun q Q => ⟨false, rfl, h q Q⟩
      | true => cases e; exact fun Q q => ⟨true, rfl, q _ r F H hr (Ext.refl hr) (.bl true)⟩
    | _ => cases e
theorem so_test (ha : So K W (RE K) ta a) : So K W RB (tTest ta) (tst a) :=
  So.bind rb_mon ha (k := fun (x : D) δ m => match x with
    | .bl c => ret c m
    | _ => none) (u := fun (x : V) σ H Q => ∃ c : Bool, x = V.bl c ∧ Q c H) fun x δ m res m' e v r F H σ _ hr er rv => by
    cases x with
    | bl c => cases rv; cases e; exact fun Q q => ⟨c, rfl, q _ r F H hr (Ext.refl hr) rfl⟩
    | _ => cases e
theorem so_B (ha : So K W (RE K) ta a) : So K W RB (tB ta) (tst a) := so_test ha
theorem so_mAnd (ha : So K W RB tt t) (hb : So K W RB tu u) : So K W RB (tAnd tt tu) (mAnd t u) :=
  So.bind rb_mon ha (k := fun (c : Bool) δ m => cond c (u δ m) (ret false m)) (u := fun (c : Bool) σ H Q => if c = true then tu σ H Q else Q false H) fun x δ m res m' e v r F H σ _ hr er rv => by
    cases rv
    cases x with
    | true => exact hb δ m res m' e r F H σ hr er
    | false => cases e; exact fun Q q => q _ r F H hr (Ext.refl hr) rfl
theorem so_mOr (ha : So K W RB tt t) (hb : So K W RB tu u) : So K W RB (tOr tt tu) (mOr t u) :=
  So.bind rb_mon ha (k := fun (c : Bool) δ m => cond c (ret true m) (u δ m)) (u := fun (c : Bool) σ H Q => if c = true then Q true H else tu σ H Q) fun x δ m res m' e v r F H σ _ hr er rv => by
    cases rv
    cases x with
    | false => exact hb δ m res m' e r F H σ hr er
    | true => cases e; exact fun Q q => q _ r F H hr (Ext.refl hr) rfl
theorem so_mNot (ha : So K W RB tt t) : So K W RB (tNot tt) (mNot t) :=
  So.bind rb_mon ha (k := fun c δ m => ret (!c) m) (u := fun c σ H Q => Q (!c) H) fun x δ m res m' e v r F H σ _ hr er rv => by
    cases rv; cases e; exact fun Q q => q _ r F H hr (Ext.refl hr) rfl
theorem so_yes : So K W RB tYes mYes := fun δ m res m' e r F H σ hr er => by cases e; exact fun Q q => q _ r F H hr (Ext.refl hr) rfl
theorem so_chain {q1 q2 : R2} {o1 o2 : D → D → Store → MX D} (h1 : S2 K W q1 o1) (h2 : S2 K W q2 o2) (ha : So K W (RE K) ta a) (hb : So K W (RE K) tb b) (hc : So K W (RE K) tc c) : So K W (RE K) (tChain q1 q2 ta tb tc) (eChain o1 o2 a b c) := fun δ m res m' e r F H σ hr er => by
  show JAt K W (RE K) r F H σ m (fun H Q => ta σ H fun x H1 => tb σ H1 fun y H2 => q1 x y H2 fun z H3 => ∃ k, z = .bl k ∧ if k = true then tc σ H3 (fun w H4 => q2 y w H4 Q) else Q (.bl false) H3) res m'
  rcases bind_some e with ⟨x, m1, e1, e2⟩ | ⟨y, e1, rfl⟩
  · refine (ha δ m _ _ e1 r F H σ hr er).bind re_mon hr fun v r1 F1 H1 hr1 x1 rv => ?_
    rcases bind_some e2 with ⟨y, m2, e3, e4⟩ | ⟨y, e3, rfl⟩
    · refine (hb δ m1 _ _ e3 r1 F1 H1 σ hr1 (er.ext x1)).bind re_mon hr1 fun w r2 F2 H2 hr2 x2 rw => ?_
      rcases bind_some e4 with ⟨z, m3, e5, e6⟩ | ⟨z, e5, rfl⟩
      · refine (h1 x y m2 _ m3 e5 r2 F2 H2 σ v w hr2 (rv.mono x2.pre x2.sub) rw).bind re_mon hr2 fun z' r3 F3 H3 hr3 x3 rz => ?_
        cases z with
        | bl k =>
          cases rz
          cases k with
          | false => cases e6; exact fun Q q => ⟨false, rfl, q _ r3 F3 H3 hr3 (Ext.refl hr3) (.bl false)⟩
          | true =>
            have er3 := ((er.ext x1).ext x2).ext x3
            have key : JAt K W (RE K) r3 F3 H3 σ m3 (fun H Q => tc σ H fun w' H4 => q2 w w' H4 Q) res m' := by
              rcases bind_some e6 with ⟨u, m4, e7, e8⟩ | ⟨u, e7, rfl⟩
              · exact (hc δ m3 _ _ e7 r3 F3 H3 σ hr3 er3).bind re_mon hr3 fun w' r4 F4 H4 hr4 x4 rw' => h2 y u m4 res m' e8 r4 F4 H4 σ w w' hr4 (rw.mono (x3.pre.trans x4.pre) (x3.sub.trans x4.sub)) rw'
              · exact (hc δ m3 _ _ e7 r3 F3 H3 σ hr3 er3).thrown
            cases res with
            | ok z => exact fun Q q => ⟨true, rfl, key Q q⟩
            | ex z => exact fun q Q => ⟨true, rfl, key q Q⟩
        | _ => cases e6
      · exact (h1 x y m2 _ _ e5 r2 F2 H2 σ v w hr2 (rv.mono x2.pre x2.sub) rw).thrown
    · exact (hb δ m1 _ _ e3 r1 F1 H1 σ hr1 (er.ext x1)).thrown
  · exact (ha δ m _ _ e1 r F H σ hr er).thrown
theorem so_anil : So K W (RA K) tNil aNil := fun δ m res m' e r F H σ hr er => by cases e; exact JAt.ret hr .nil
theorem so_acons (ha : So K W (RE K) ta a) (hs : So K W (RA K) tas as) : So K W (RA K) (tCons ta tas) (aCons a as) := fun δ m res m' e r F H σ hr er => by
  show JAt K W (RA K) r F H σ m (fun H Q => ta σ H fun x H1 => tas σ H1 fun xs H2 => Q (x :: xs) H2) res m'
  rcases bind_some e with ⟨x, m1, e1, e2⟩ | ⟨y, e1, rfl⟩
  · refine (ha δ m _ _ e1 r F H σ hr er).bind ra_mon hr fun v r1 F1 H1 hr1 x1 rv => ?_
    rcases bind_some e2 with ⟨y, m2, e3, e4⟩ | ⟨y, e3, rfl⟩
    · refine (hs δ m1 _ _ e3 r1 F1 H1 σ hr1 (er.ext x1)).bind ra_mon hr1 fun ws r2 F2 H2 hr2 x2 rw => ?_
      cases e4
      exact JAt.ret hr2 (.cons (rv.mono x2.pre x2.sub) rw)
    · exact (hs δ m1 _ _ e3 r1 F1 H1 σ hr1 (er.ext x1)).thrown
  · exact (ha δ m _ _ e1 r F H σ hr er).thrown
theorem so_tup (hs : So K W (RA K) tas as) : So K W (RE K) (tTup tas) (eTup as) :=
  So.bind re_mon hs (k := fun xs δ m => if xs.length ≤ 100000 then ret (.tup xs) m else none) (u := fun xs σ H Q => xs.length ≤ sizeLine ∧ ∀ p, H p = none → Q (.ref p) (upd H p (.tup xs))) fun x δ m res m' e v r F H σ _ hr er rv => by
    split at e
    · rename_i hl
      cases e
      exact fun Q q => ⟨Evl.sz_of (by rw [rv.len]; exact hl), fun p hp => q _ r _ _ (hr.laid hp) (Ext.laid hr hp) (.tup upd_same (rv.mono (Pre.refl _) (Ext.laid hr hp).sub))⟩
    · cases e
theorem so_cb {γ κ : Type} {R : Rel γ κ} {rr : List V → Hp → (γ → Hp → Prop) → Prop} {o : List D → Store → MX κ} (mon : RMon R) (ho : SC K W R rr o) (hs : So K W (RA K) tas as) : So K W R (fun σ H Q => tas σ H fun vs H1 => rr vs H1 Q) (fun δ m => (as δ m).bind fun xs m => o xs m) :=
  So.bind mon hs (k := fun x δ m => o x m) (u := fun x σ H Q => rr x H Q) fun x δ m res m' e v r F H σ _ hr er rv => ho x m res m' e r F H σ v hr rv
theorem so_eCB {rr : List V → Hp → VK → Prop} {o : List D → Store → MX D} (ho : SC K W (RE K) rr o) (hs : So K W (RA K) tas as) : So K W (RE K) (tCB rr tas) (eCB o as) := so_cb re_mon ho hs
end
end DL
namespace DL
open PySem PySem.Spec PyProof.Rows L2

/-! ### what is new: lists that nothing else holds -/
inductive F1 where
  | pl (d : D)
  | own (xs : List D)
inductive FT where
  | pl (d : D)
  | own (xs : List D)
  | tup (fs : List F1)
abbrev MF := En → Store → MX FT
def F1.dat : F1 → D
  | .pl d => d
  | .own xs => .lst xs
def FT.dat : FT → D
  | .pl d => d
  | .own xs => .lst xs
  | .tup fs => .tup (fs.map F1.dat)
def celL : List F1 → Store → List D × Store
  | [], m => ([], m)
  | .pl d :: fs, m => (d :: (celL fs m).1, (celL fs m).2)
  | .own xs :: fs, m => (.cell m.length :: (celL fs (m ++ [.lst xs])).1, (celL fs (m ++ [.lst xs])).2)
def FT.cel : FT → Store → D × Store
  | .pl d, m => (d, m)
  | .own xs, m => (.cell m.length, m ++ [.lst xs])
  | .tup fs, m => (.tup (celL fs m).1, (celL fs m).2)
inductive OwnL (K : PySem.W.Frag) (r : List Addr) (F H : Hp) : List V → List F1 → List Addr → Prop
  | nil : OwnL K r F H [] [] []
  | pl {v : V} {d : D} {vs : List V} {fs : List F1} {as : List Addr} : Rep K r F v d → OwnL K r F H vs fs as → OwnL K r F H (v :: vs) (.pl d :: fs) as
  | own {p : Addr} {ws : List V} {xs : List D} {vs : List V} {fs : List F1} {as : List Addr} : H p = some (.lst ws) → RepAll K r F ws xs → OwnL K r F H vs fs as → OwnL K r F H (.ref p :: vs) (.own xs :: fs) (p :: as)
def OwnT (K : PySem.W.Frag) (r : List Addr) (F H : Hp) (v : V) : FT → List Addr → Prop
  | .pl d, as => Rep K r F v d ∧ as = []
  | .own xs, as => OwnL K r F H [v] [.own xs] as
  | .tup fs, as => ∃ p vs, v = .ref p ∧ F p = some (.tup vs) ∧ OwnL K r F H vs fs as
/-- the new ones' places -/
def New (H0 : Hp) (m : Store) (r : List Addr) (F : Hp) (as : List Addr) : Prop := as.Nodup ∧ ∀ p ∈ as, H0 p = none ∧ F p = none ∧ ∀ k : Nat, live m k → r[k]? ≠ some p
def RF (K : PySem.W.Frag) : Rel V FT := fun H0 m r F H v ft => ∃ as, OwnT K r F H v ft as ∧ New H0 m r F as
theorem rf_mon {K : PySem.W.Frag} : RMon (RF K) := fun H H1 m r F G a b k ⟨as, h1, h2, h3⟩ => ⟨as, h1, h2, fun p hp => ⟨k p (h3 p hp).1, (h3 p hp).2⟩⟩
section
variable {K : PySem.W.Frag} {r r0 : List Addr} {F H F0 H0 : Hp} {m m0 : Store}
theorem OwnL.mono {r' : List Addr} {F' : Hp} (p : Pre r r') (e : Same F F') : ∀ {vs : List V} {fs : List F1} {as : List Addr}, OwnL K r F H vs fs as → OwnL K r' F' H vs fs as
  | _, _, _, .nil => .nil
  | _, _, _, .pl h t => .pl (h.mono p e) (t.mono p e)
  | _, _, _, .own h q t => .own h (q.mono p e) (t.mono p e)
theorem OwnL.at_some : ∀ {vs : List V} {fs : List F1} {as : List Addr}, OwnL K r F H vs fs as → ∀ p ∈ as, ∃ o, H p = some o
  | _, _, _, .nil, p, hp => nomatch hp
  | _, _, _, .pl _ t, p, hp => t.at_some p hp
  | _, _, _, .own h _ t, p, hp => by
    rcases List.mem_cons.mp hp with rfl | hp
    · exact ⟨_, h⟩
    · exact t.at_some p hp
/-- all are frozen -/
theorem freezeAll : ∀ {as : List Addr} {F : Hp}, New H0 m r F as → (∀ p ∈ as, ∃ o, H p = some o) → HR K r F H m → Ext r0 F0 H0 m0 r F H m → ∃ F', HR K r F' H m ∧ Ext r0 F0 H0 m0 r F' H m ∧ Same F F' ∧ ∀ p ∈ as, F' p = H p
  | [], F, _, _, hr, x => ⟨F, hr, x, Same.refl F, fun p hp => nomatch hp⟩
  | a :: as, F, ⟨nd, hn⟩, ho, hr, x => by
    obtain ⟨o, eo⟩ := ho a List.mem_cons_self
    obtain ⟨h1, h2, h3⟩ := hn a List.mem_cons_self
    have nd' := List.nodup_cons.mp nd
    have s1 : Same F (upd F a o) := fun b u e => by rw [upd_ne (ne_of_none e h2)]; exact e
    obtain ⟨F', hr', x', s', e'⟩ := freezeAll (as := as) (F := upd F a o) ⟨nd'.2, fun p hp => by
      obtain ⟨q1, q2, q3⟩ := hn p (List.mem_cons_of_mem _ hp)
      have ne : p ≠ a := fun z => nd'.1 (z ▸ hp)
      exact ⟨q1, by rw [upd_ne ne]; exact q2, q3⟩⟩ (fun p hp => ho p (List.mem_cons_of_mem _ hp)) (hr.freeze h2 h3 eo) (x.freeze h2 h1)
    refine ⟨F', hr', x', s1.trans s', fun p hp => ?_⟩
    rcases List.mem_cons.mp hp with rfl | hp
    · rw [s' p o upd_same, eo]
    · exact e' p hp
theorem OwnL.dat {F' : Hp} (s : Same F F') : ∀ {vs : List V} {fs : List F1} {as : List Addr}, OwnL K r F H vs fs as → (∀ p ∈ as, F' p = H p) → RepAll K r F' vs (fs.map F1.dat)
  | _, _, _, .nil, _ => .nil
  | _, _, _, .pl h t, e => .cons (h.mono (Pre.refl _) s) (t.dat s e)
  | _, _, _, .own h q t, e => .cons (.lst ((e _ List.mem_cons_self).trans h) (q.mono (Pre.refl _) s)) (t.dat s fun p hp => e p (List.mem_cons_of_mem _ hp))
theorem rf_dat {v : V} {ft : FT} (hr : HR K r F H m) (x : Ext r0 F0 H0 m0 r F H m) (h : RF K H0 m r F H v ft) : ∃ F', HR K r F' H m ∧ Ext r0 F0 H0 m0 r F' H m ∧ Rep K r F' v ft.dat := by
  obtain ⟨as, h1, h2⟩ := h
  cases ft with
  | pl d => exact ⟨F, hr, x, h1.1⟩
  | own xs =>
    obtain ⟨F', hr', x', s, e⟩ := freezeAll h2 (OwnL.at_some h1) hr x
    have := OwnL.dat s h1 e
    cases this with
    | cons q _ => exact ⟨F', hr', x', q⟩
  | tup fs =>
    obtain ⟨p, vs, rfl, hp, h1⟩ := h1
    obtain ⟨F', hr', x', s, e⟩ := freezeAll h2 (OwnL.at_some h1) hr x
    exact ⟨F', hr', x', .tup (s _ _ hp) (OwnL.dat s h1 e)⟩
theorem celAll : ∀ {vs : List V} {fs : List F1} {as : List Addr} {r : List Addr} {m : Store}, OwnL K r F H vs fs as → New H0 m r F as → HR K r F H m → Ext r0 F0 H0 m0 r F H m → ∃ r', HR K r' F H (celL fs m).2 ∧ Ext r0 F0 H0 m0 r' F H (celL fs m).2 ∧ Pre r r' ∧ RepAll K r' F vs (celL fs m).1
  | _, _, _, r, m, .nil, _, hr, x => ⟨r, hr, x, Pre.refl _, .nil⟩
  | _, _, _, r, m, .pl h t, n, hr, x => by
    obtain ⟨r', hr', x', p, q⟩ := celAll t n hr x
    exact ⟨r', hr', x', p, .cons (h.mono p (Same.refl _)) q⟩
  | _, _, _, r, m, .own (p := p) (ws := ws) (xs := xs) h q t, ⟨nd, hn⟩, hr, x => by
    obtain ⟨h1, h2, h3⟩ := hn p List.mem_cons_self
    have nd' := List.nodup_cons.mp nd
    have hc := hr.toCell (c := .lst xs) h2 h3 ⟨ws, h, q⟩
    have pr : Pre r (r ++ [p]) := Pre.app r [p]
    obtain ⟨r', hr', x', p', q'⟩ := celAll (t.mono pr (Same.refl _)) ⟨nd'.2, fun a ha => by
      obtain ⟨q1, q2, q3⟩ := hn a (List.mem_cons_of_mem _ ha)
      refine ⟨q1, q2, fun k l e => ?_⟩
      rcases live_app l with z | rfl
      · rw [List.getElem?_append_left (by rw [hr.len]; exact live_lt z)] at e
        exact q3 k z e
      · have last : (r ++ [p])[m.length]? = some p := by rw [← hr.len]; simp
        rw [last] at e
        cases e
        exact nd'.1 ha⟩ hc (x.toCell hr.len h1)
    refine ⟨r', hr', x', pr.trans p', .cons (.cell (p' _ _ ?_)) q'⟩
    rw [← hr.len]; simp
theorem rf_cel {v : V} {ft : FT} (hr : HR K r F H m) (x : Ext r0 F0 H0 m0 r F H m) (h : RF K H0 m r F H v ft) : ∃ r', HR K r' F H (ft.cel m).2 ∧ Ext r0 F0 H0 m0 r' F H (ft.cel m).2 ∧ Rep K r' F v (ft.cel m).1 := by
  obtain ⟨as, h1, h2⟩ := h
  cases ft with
  | pl d => exact ⟨r, hr, x, h1.1⟩
  | own xs =>
    obtain ⟨r', hr', x', _, q⟩ := celAll h1 h2 hr x
    cases q with
    | cons q _ => exact ⟨r', hr', x', q⟩
  | tup fs =>
    obtain ⟨p, vs, rfl, hp, h1⟩ := h1
    obtain ⟨r', hr', x', _, q⟩ := celAll h1 h2 hr x
    exact ⟨r', hr', x', .tup hp q⟩
end
section
variable {α β κ : Type} {K : PySem.W.Frag} {W : WX} {R : Rel α β} {R' : Rel α κ} {r : List Addr} {F H : Hp} {σ : L2.St} {m m1 m2 : Store} {t : Hp → (α → Hp → Prop) → Prop} {b : β} {c : κ}
theorem JAt.re (h : JAt K W R r F H σ m t (.ok b) m1) (k : ∀ a r' F' H', HR K r' F' H' m1 → Ext r F H m r' F' H' m1 → R H m1 r' F' H' a b → ∃ r'' F'', HR K r'' F'' H' m2 ∧ Ext r F H m r'' F'' H' m2 ∧ R' H m2 r'' F'' H' a c) : JAt K W R' r F H σ m t (.ok c) m2 := fun Q q =>
  h Q fun a r' F' H' h1 h2 h3 => let ⟨r'', F'', q1, q2, q3⟩ := k a r' F' H' h1 h2 h3; q a r'' F'' H' q1 q2 q3
end
/-- taken as data; as a cell; plain -/
def dat (e : MF) : ME := fun δ m => (e δ m).bind fun ft m => ret ft.dat m
def cel (e : MF) : ME := fun δ m => (e δ m).bind fun ft m => ret (ft.cel m).1 (ft.cel m).2
def pla (e : MF) : ME := fun δ m => (e δ m).bind fun ft m => match ft with
  | .pl d => ret d m
  | _ => none
section
variable {K : PySem.W.Frag} {W : WX} {t : TE} {e : MF} {tas : TA} {as : MA}
theorem so_dat (h : So K W (RF K) t e) : So K W (RE K) t (dat e) := fun δ m res m' q r F H σ hr er => by
  rcases bind_some q with ⟨ft, m1, e1, e2⟩ | ⟨y, e1, rfl⟩
  · cases e2
    exact (h δ m _ _ e1 r F H σ hr er).re fun a r' F' H' h1 h2 h3 => let ⟨F'', q1, q2, q3⟩ := rf_dat h1 h2 h3; ⟨r', F'', q1, q2, q3⟩
  · exact h δ m _ _ e1 r F H σ hr er
theorem so_cel (h : So K W (RF K) t e) : So K W (RE K) t (cel e) := fun δ m res m' q r F H σ hr er => by
  rcases bind_some q with ⟨ft, m1, e1, e2⟩ | ⟨y, e1, rfl⟩
  · cases e2
    exact (h δ m _ _ e1 r F H σ hr er).re fun a r' F' H' h1 h2 h3 => let ⟨r'', q1, q2, q3⟩ := rf_cel h1 h2 h3; ⟨r'', F', q1, q2, q3⟩
  · exact h δ m _ _ e1 r F H σ hr er
theorem so_pla (h : So K W (RF K) t e) : So K W (RE K) t (pla e) := fun δ m res m' q r F H σ hr er => by
  rcases bind_some q with ⟨ft, m1, e1, e2⟩ | ⟨y, e1, rfl⟩
  · cases ft with
    | pl d =>
      cases e2
      exact (h δ m _ _ e1 r F H σ hr er).re fun a r' F' H' h1 h2 ⟨as, h3, _⟩ => ⟨r', F', h1, h2, h3.1⟩
    | own xs => cases e2
    | tup fs => cases e2
  · exact h δ m _ _ e1 r F H σ hr er
/-- one new list -/
theorem rf_new {r : List Addr} {F H : Hp} {m : Store} {p : Addr} {vs : List V} {xs : List D} (hr : HR K r F H m) (hp : H p = none) (ra : RepAll K r F vs xs) : HR K r F (upd H p (.lst vs)) m ∧ Ext r F H m r F (upd H p (.lst vs)) m ∧ RF K H m r F (upd H p (.lst vs)) (.ref p) (.own xs) :=
  ⟨hr.side hp, Ext.side hr hp, [p], .own upd_same ra .nil, by simp, fun q hq => by
    cases List.mem_singleton.mp hq
    exact ⟨hp, hr.sub.free hp, fun k l e => (hr.ne_new hp l e) rfl⟩⟩
def fLst (as : MA) : MF := fun δ m => (as δ m).bind fun xs m => if xs.length ≤ 100000 then ret (.own xs) m else none
theorem so_lst (hs : So K W (RA K) tas as) : So K W (RF K) (tLst tas) (fLst as) :=
  So.bind rf_mon hs (k := fun xs δ m => if xs.length ≤ 100000 then ret (FT.own xs) m else none) (u := fun xs σ H Q => xs.length ≤ sizeLine ∧ ∀ p, H p = none → Q (.ref p) (upd H p (.lst xs))) fun x δ m res m' e v r F H σ _ hr er rv => by
    split at e
    · rename_i hl
      cases e
      exact fun Q q => ⟨Evl.sz_of (by rw [rv.len]; exact hl), fun p hp => let ⟨q1, q2, q3⟩ := rf_new hr hp rv; q _ r F _ q1 q2 q3⟩
    · cases e
end

/-! ### statements -/
inductive OT where
  | nx (δ : En) (m : Store)
  | rt (d : D) (m : Store)
  | bk (δ : En) (m : Store)
  | ct (δ : En) (m : Store)
  | ex (x : Str) (δ : En) (m : Store)
def OT.out (K : PySem.W.Frag) : OT → Out
  | .nx δ m => .nx δ m
  | .rt d m => .rt d m
  | .bk δ m => .bk δ m
  | .ct δ m => .ct δ m
  | .ex x δ m => .ex (.ref (ga K x)) δ m
abbrev MS := En → Store → Option OT
def SS (K : PySem.W.Frag) (t : WX → TS) (e : MS) : Prop := ∀ W δ m o, e δ m = some o → YS K W (t W) δ m (o.out K)
def MX.run {α : Type} (x : MX α) (δ : En) (k : α → Store → Option OT) : Option OT :=
  match x with
  | some (.ok a, m) => k a m
  | some (.ex y, m) => some (.ex y δ m)
  | none => none
section
variable {α β : Type} {a : α} {δ : En} {m : Store} {y : Str} {k : α → Store → Option OT}
theorem run_ok : MX.run (some (.ok a, m)) δ k = k a m := rfl
theorem run_ex : MX.run (some (.ex y, m)) δ k = some (.ex y δ m) := rfl
theorem run_some {x : MX α} {o : OT} (h : x.run δ k = some o) : (∃ a m1, x = some (.ok a, m1) ∧ k a m1 = some o) ∨ ∃ y m1, x = some (.ex y, m1) ∧ o = .ex y δ m1 := by
  cases x with
  | none => cases h
  | some p =>
    obtain ⟨r, m1⟩ := p
    cases r with
    | ok a => exact .inl ⟨a, m1, rfl, h⟩
    | ex y => cases h; exact .inr ⟨y, m1, rfl, rfl⟩
end
theorem SS.run {α β : Type} {K : PySem.W.Frag} {R : Rel α β} {te : WX → L2.St → Hp → (α → Hp → Prop) → Prop} {e : En → Store → MX β} {u : WX → α → TS} {k : β → En → Store → Option OT} (he : ∀ W, So K W R (te W) e)
    (hk : ∀ W b δ m o, k b δ m = some o → ∀ v r F H σ H0 D, HR K r F H m → ER K r F σ δ → R H0 m r F H v b → OutOk K W r F H m D (o.out K) → u W v D σ H) :
    SS K (fun W D σ H => te W σ H fun v H1 => u W v D σ H1) (fun δ m => (e δ m).run δ fun b m => k b δ m) := fun W δ m o q r F H σ D hr er h => by
  rcases run_some q with ⟨b, m1, e1, e2⟩ | ⟨y, m1, e1, rfl⟩
  · exact he W δ m _ _ e1 r F H σ hr er _ fun v r1 F1 H1 hr1 x1 rv => hk W b δ m1 o e2 v r1 F1 H1 σ H D hr1 (er.ext x1) rv (h.ext hr.len hr1.len x1)
  · exact he W δ m _ _ e1 r F H σ hr er (fun r' F' H' hr' x' => h σ r' F' H' hr' (er.ext x') x') _
abbrev MG := D → En → Option En
def SG (K : PySem.W.Frag) (g : TG) (mg : MG) : Prop := ∀ d δ δ', mg d δ = some δ' → YG K g d δ δ'
def SGw (K : PySem.W.Frag) (vs : List Nat) (g : TG) (mg : MG) : Prop := ∀ d δ δ', mg d δ = some δ' → YGw K vs g d δ δ'
abbrev MGs := List D → En → Option En
def SGs (K : PySem.W.Frag) (g : TGs) (mg : MGs) : Prop := ∀ d δ δ', mg d δ = some δ' → YGs K g d δ δ'
def SGws (K : PySem.W.Frag) (vs : List Nat) (g : TGs) (mg : MGs) : Prop := ∀ d δ δ', mg d δ = some δ' → YGws K vs g d δ δ'
def mName (i : Nat) : MG := fun d δ => some (δ.set i (some d))
def msNil : MGs := fun ds δ => match ds with
  | [] => some δ
  | _ => none
def msCons (g : MG) (gs : MGs) : MGs := fun ds δ => match ds with
  | d :: ds => (g d δ).bind fun δ => gs ds δ
  | _ => none
def mTup (gs : MGs) : MG := fun d δ => match d with
  | .tup ds => gs ds δ
  | _ => none
section
variable {K : PySem.W.Frag} {g : TG} {gs : TGs} {mg : MG} {mgs : MGs} {vs : List Nat}
theorem sg_name {i : Nat} : SG K (gName i) (mName i) := fun d δ δ' e => by cases e; exact yg_name
theorem sgs_nil : SGs K gNil msNil := fun d δ δ' e => by
  cases d with
  | nil => cases e; exact ygs_nil
  | cons _ _ => cases e
theorem sgs_cons (h : SG K g mg) (hs : SGs K gs mgs) : SGs K (gCons g gs) (msCons mg mgs) := fun d δ δ' e => by
  cases d with
  | nil => cases e
  | cons d ds =>
    cases q : mg d δ with
    | none => simp [msCons, q] at e
    | some δ1 => simp [msCons, q] at e; exact ygs_cons (h d δ δ1 q) (hs ds δ1 δ' e)
/-- so many targets -/
inductive Many : MGs → Nat → Prop
  | nil : Many msNil 0
  | cons {g : MG} {gs : MGs} {n : Nat} : Many gs n → Many (msCons g gs) (n + 1)
theorem Many.len {gs : MGs} {n : Nat} (h : Many gs n) : ∀ {ds : List D} {δ δ' : En}, gs ds δ = some δ' → ds.length = n := by
  induction h with
  | nil =>
    intro ds δ δ' e
    cases ds with
    | nil => rfl
    | cons _ _ => cases e
  | cons _ ih =>
    intro ds δ δ' e
    cases ds with
    | nil => cases e
    | cons d ds =>
      rename_i g gs' n' _
      cases q : g d δ with
      | none => simp [msCons, q] at e
      | some δ1 =>
        simp [msCons, q] at e
        show ds.length + 1 = n' + 1
        rw [ih e]
theorem sg_tup {n : Nat} (hm : Many mgs n) (hs : SGs K gs mgs) : SG K (gTup K n gs) (mTup mgs) := fun d δ δ' e => by
  cases d with
  | tup ds => exact yg_tup (hm.len e) (hs ds δ δ' e)
  | _ => cases e
theorem sgw_name {i : Nat} (h : i ∈ vs) : SGw K vs (gName i) (mName i) := fun d δ δ' e => by cases e; exact ygw_name h
theorem sgws_nil : SGws K vs gNil msNil := fun d δ δ' e => by
  cases d with
  | nil => cases e; exact ygws_nil
  | cons _ _ => cases e
theorem sgws_cons (h : SGw K vs g mg) (hs : SGws K vs gs mgs) : SGws K vs (gCons g gs) (msCons mg mgs) := fun d δ δ' e => by
  cases d with
  | nil => cases e
  | cons d ds =>
    cases q : mg d δ with
    | none => simp [msCons, q] at e
    | some δ1 => simp [msCons, q] at e; exact ygws_cons (h d δ δ1 q) (hs ds δ1 δ' e)
theorem sgw_tup {n : Nat} (hm : Many mgs n) (hs : SGws K vs gs mgs) : SGw K vs (gTup K n gs) (mTup mgs) := fun d δ δ' e => by
  cases d with
  | tup ds => exact ygw_tup (hm.len e) (hs ds δ δ' e)
  | _ => cases e
end
def sNext : MS := fun δ m => some (.nx δ m)
def sBreak : MS := fun δ m => some (.bk δ m)
def sCont : MS := fun δ m => some (.ct δ m)
def sRetN : MS := fun _ m => some (.rt .non m)
def sSeq (a b : MS) : MS := fun δ m => match a δ m with
  | some (.nx δ m) => b δ m
  | o => o
def sAsg (e : ME) (g : MG) : MS := fun δ m => (e δ m).run δ fun d m => (g d δ).map fun δ => .nx δ m
def sSet (i : Nat) (e : ME) : MS := fun δ m => (e δ m).run δ fun d m => some (.nx (δ.set i (some d)) m)
def sExpr (e : ME) : MS := fun δ m => (e δ m).run δ fun _ m => some (.nx δ m)
def sRet (e : ME) : MS := fun δ m => (e δ m).run δ fun d m => some (.rt d m)
def sIf (t : MT) (a b : MS) : MS := fun δ m => (t δ m).run δ fun c m => cond c (a δ m) (b δ m)
def sRaise (x : Str) : MS := fun δ m => some (.ex x δ m)
section
variable {K : PySem.W.Frag} {te : WX → TE} {tt : WX → TT} {ts tu : WX → TS} {e : ME} {t : MT} {a b : MS} {g : TG} {mg : MG}
theorem ss_next : SS K (fun _ => tNext) sNext := fun W δ m o q => by cases q; exact ys_next
theorem ss_seq (ha : SS K ts a) (hb : SS K tu b) : SS K (fun W => tSeq (ts W) (tu W)) (sSeq a b) := fun W δ m o q => by
  unfold sSeq at q
  cases h : a δ m with
  | none => rw [h] at q; cases q
  | some o1 =>
    rw [h] at q
    cases o1 with
    | nx δ1 m1 => exact ys_seq (ha W δ m _ h) (hb W δ1 m1 o q)
    | rt d m1 => cases q; exact ys_seqX (ha W δ m _ h) rfl
    | bk d m1 => cases q; exact ys_seqX (ha W δ m _ h) rfl
    | ct d m1 => cases q; exact ys_seqX (ha W δ m _ h) rfl
    | ex x d m1 => cases q; exact ys_seqX (ha W δ m _ h) rfl
theorem ss_asg (he : ∀ W, So K W (RE K) (te W) e) (hg : SG K g mg) : SS K (fun W => tAsg (te W) g) (sAsg e mg) :=
  SS.run he (u := fun W v D σ H => g v σ H D.nx) (k := fun d δ m => (mg d δ).map fun δ => OT.nx δ m) fun W d δ m o q v r F H σ H0 D hr er rv h => by
    cases z : mg d δ with
    | none => rw [z] at q; cases q
    | some δ1 =>
      rw [z] at q; cases q
      exact hg d δ δ1 z r F H m σ v hr er rv _ fun σ1 er1 => h σ1 r F H hr er1 (Ext.refl hr)
theorem ss_set {i : Nat} (he : ∀ W, So K W (RE K) (te W) e) : SS K (fun W => tAsg (te W) (gName i)) (sSet i e) := ss_asg he sg_name
theorem ss_expr (he : ∀ W, So K W (RE K) (te W) e) : SS K (fun W => tDrop (te W)) (sExpr e) :=
  SS.run he (u := fun W v D σ H => D.nx σ H) (k := fun d δ m => some (OT.nx δ m)) fun W d δ m o q v r F H σ H0 D hr er rv h => by
    cases q; exact h σ r F H hr er (Ext.refl hr)
theorem ss_ret (he : ∀ W, So K W (RE K) (te W) e) : SS K (fun W => tRet (te W)) (sRet e) :=
  SS.run he (u := fun W v D σ H => D.rt v H) (k := fun d δ m => some (OT.rt d m)) fun W d δ m o q v r F H σ H0 D hr er rv h => by
    cases q; exact h v r F H hr (Ext.refl hr) rv
theorem ss_if (ht : ∀ W, So K W RB (tt W) t) (ha : SS K ts a) (hb : SS K tu b) : SS K (fun W => tIfS (tt W) (ts W) (tu W)) (sIf t a b) :=
  SS.run ht (u := fun W (c : Bool) D σ H => if c = true then ts W D σ H else tu W D σ H) (k := fun (c : Bool) δ m => cond c (a δ m) (b δ m)) fun W c δ m o q v r F H σ H0 D hr er rv h => by
    cases rv
    cases c with
    | true => exact ha W δ m o q r F H σ D hr er h
    | false => exact hb W δ m o q r F H σ D hr er h
theorem ss_raise {x : Str} : SS K (fun W => tRaise W (.ref (ga K x))) (sRaise x) := fun W δ m o q => by cases q; exact ys_raise
end
end DL
namespace DL
open PySem PySem.Spec PyProof.Rows L2

/-! ### loops -/
structure Wk where
  xs : List D
  src : List (Nat × List D)
def Wk.chk (w : Wk) (m : Store) : Prop := ∀ p ∈ w.src, m[p.1]? = some (.lst p.2)
abbrev MI := En → Store → MX Wk
def RI (K : PySem.W.Frag) : Rel It Wk := fun _ _ r F _ J w => ItOk K w.chk J r F w.xs
theorem ri_mon {K : PySem.W.Frag} : RMon (RI K) := fun _ _ _ _ _ _ _ _ _ h => h
open Classical in
noncomputable def forM (g : MG) (b : MS) (c : Store → Prop) : List D → En → Store → Option OT
  | [], δ, m => if c m then some (.nx δ m) else none
  | x :: xs, δ, m => if c m then (g x δ).bind fun δ => match b δ m with
      | some (.nx δ m) => forM g b c xs δ m
      | some (.ct δ m) => forM g b c xs δ m
      | some (.bk δ m) => some (.nx δ m)
      | o => o
    else none
noncomputable def sFor (w : MI) (g : MG) (b : MS) : MS := fun δ m => (w δ m).run δ fun w m => forM g b w.chk w.xs δ m
theorem ss_for {K : PySem.W.Frag} {wi : WX → TI} {g : TG} {t : WX → TS} {w : MI} {mg : MG} {b : MS} (hw : ∀ W, So K W (RI K) (wi W) w) (hg : SG K g mg) (hb : SS K t b) : SS K (fun W => tFor (wi W) g (t W)) (sFor w mg b) :=
  SS.run hw (u := fun W (J : It) D σ H1 => ∃ W' : Nat → Nat → L2.St → Hp → Prop, (∃ m, W' 0 m σ H1) ∧ ∀ i m σ H, W' i m σ H →
    (J.stop i H ∧ D.nx σ H) ∨ (J.go i H ∧ ∃ N : L2.St → Hp → Prop, (∀ σ' H', N σ' H' → ∃ m', m' < m ∧ W' (i + 1) m' σ' H') ∧ ∀ x H', J.yld i H x H' → g x σ H' fun σ2 H2 => t W { D with nx := N, ct := N, bk := D.nx } σ2 H2))
    (k := fun (w : Wk) δ m => forM mg b w.chk w.xs δ m) fun W wk δ m o e J r F H σ H0 D hr er ok q => by
    refine ⟨fun i mm σ' H' => mm = wk.xs.length - i ∧ i ≤ wk.xs.length ∧ ∃ δ' m' r' F', HR K r' F' H' m' ∧ ER K r' F' σ' δ' ∧ Ext r F H m r' F' H' m' ∧ forM mg b wk.chk (wk.xs.drop i) δ' m' = some o,
      ⟨wk.xs.length, by simp, Nat.zero_le _, δ, m, r, F, hr, er, Ext.refl hr, e⟩, ?_⟩
    rintro i mm σ' H' ⟨rfl, hin, δ', m', r', F', hr', er', x', e'⟩
    by_cases hlt : i < wk.xs.length
    · have ed : wk.xs[i]? = some wk.xs[i] := List.getElem?_eq_getElem hlt
      rw [List.drop_eq_getElem_cons hlt] at e'
      unfold forM at e'
      split at e'
      · rename_i hc
        obtain ⟨go, stop⟩ := ok r' F' H' m' x'.pre x'.sub hr' hc i
        obtain ⟨hgo, hy⟩ := go _ ed
        cases hg1 : mg wk.xs[i] δ' with
        | none => rw [hg1] at e'; cases e'
        | some δ1 =>
          rw [hg1] at e'
          simp only [Option.bind_some] at e'
          refine .inr ⟨hgo, fun σ2 H2 => ∃ δ2 m2 r2 F2, HR K r2 F2 H2 m2 ∧ ER K r2 F2 σ2 δ2 ∧ Ext r F H m r2 F2 H2 m2 ∧ forM mg b wk.chk (wk.xs.drop (i + 1)) δ2 m2 = some o, fun σ2 H2 p2 => ⟨wk.xs.length - (i + 1), by omega, rfl, hlt, p2⟩, fun x H'' y => ?_⟩
          obtain ⟨F2, hr2, x2, p2⟩ := hy x H'' y
          refine hg _ _ _ hg1 r' F2 H'' m' σ' x hr2 (er'.ext x2) p2 _ fun σ3 er3 => ?_
          have x02 := x'.trans hr'.len hr.len x2
          cases hb1 : b δ1 m' with
          | none => rw [hb1] at e'; cases e'
          | some o1 =>
            rw [hb1] at e'
            refine hb W δ1 m' o1 hb1 r' F2 H'' σ3 _ hr2 er3 ?_
            cases o1 with
            | nx δ4 m4 => exact fun σ4 r4 F4 H4 hr4 er4 x4 => ⟨δ4, m4, r4, F4, hr4, er4, x02.trans hr2.len hr.len x4, e'⟩
            | ct δ4 m4 => exact fun σ4 r4 F4 H4 hr4 er4 x4 => ⟨δ4, m4, r4, F4, hr4, er4, x02.trans hr2.len hr.len x4, e'⟩
            | bk δ4 m4 => cases e'; exact fun σ4 r4 F4 H4 hr4 er4 x4 => q σ4 r4 F4 H4 hr4 er4 (x02.trans hr2.len hr.len x4)
            | rt d m4 => cases e'; exact fun v r4 F4 H4 hr4 x4 p4 => q v r4 F4 H4 hr4 (x02.trans hr2.len hr.len x4) p4
            | ex y δ4 m4 => cases e'; exact fun σ4 r4 F4 H4 hr4 er4 x4 => q σ4 r4 F4 H4 hr4 er4 (x02.trans hr2.len hr.len x4)
      · cases e'
    · have hi' : i = wk.xs.length := by omega
      subst hi'
      rw [List.drop_length] at e'
      unfold forM at e'
      split at e'
      · rename_i hc
        cases e'
        obtain ⟨go, stop⟩ := ok r' F' H' m' x'.pre x'.sub hr' hc wk.xs.length
        exact .inl ⟨stop (Nat.le_refl _), q σ' r' F' H' hr' er' x'⟩
      · cases e'
/-! ### comprehensions -/
def MX.sure {α β : Type} (x : MX α) (k : α → Store → MX β) : MX β :=
  match x with
  | some (.ok a, m) => k a m
  | _ => none
section
variable {α β : Type} {a : α} {m : Store} {x : Str} {k : α → Store → MX β}
theorem sure_ok : MX.sure (some (.ok a, m)) k = k a m := rfl
theorem sure_some {x : MX α} {z : RX β × Store} (h : x.sure k = some z) : ∃ a m1, x = some (.ok a, m1) ∧ k a m1 = some z := by
  cases x with
  | none => cases h
  | some p =>
    obtain ⟨r, m1⟩ := p
    cases r with
    | ok a => exact ⟨a, m1, rfl, h⟩
    | ex y => cases h
end
open Classical in
noncomputable def lcM (g : MG) (t : MT) (e : ME) (c : Store → Prop) (δ : En) : List D → Store → MX (List D)
  | [], m => if c m then ret [] m else none
  | x :: xs, m => if c m then (g x δ).bind fun δ1 => (t δ1 m).sure fun b m => cond b ((e δ1 m).sure fun z m => (lcM g t e c δ xs m).sure fun zs m => ret (z :: zs) m) (lcM g t e c δ xs m)
    else none
noncomputable def fLc (w : MI) (g : MG) (t : MT) (e : ME) (vs : List Nat) : MF := fun δ m => (w δ m).bind fun w m => if w.xs.length < 100000 then (lcM g t e w.chk (wipeE δ vs) w.xs m).sure fun zs m => ret (.own zs) m else none
theorem so_lc {K : PySem.W.Frag} {W : WX} {wi : TI} {g : TG} {tt : TT} {te : TE} {vs : List Nat} {w : MI} {mg : MG} {t : MT} {e : ME} (hw : So K W (RI K) wi w) (hg : SGw K vs g mg) (ht : So K W RB tt t) (he : So K W (RE K) te e) : So K W (RF K) (tLc wi g tt te vs) (fLc w mg t e vs) := fun δ m res mf q r F H σ hr er => by
  rcases bind_some q with ⟨wk, m1, e1, e2⟩ | ⟨y, e1, rfl⟩
  · split at e2
    · rename_i hlen
      obtain ⟨zs, m2, e3, e4⟩ := sure_some e2
      cases e4
      intro Q q
      refine hw δ m _ _ e1 r F H σ hr er _ fun J r1 F1 H1 hr1 x1 ok Dl hD => ?_
      have hD0 : H Dl = none := trk_back x1 hD
      refine ⟨fun i mm H' => mm = wk.xs.length - i ∧ i ≤ wk.xs.length ∧ ∃ m' r' F' ws acc rest, HR K r' F' H' m' ∧ Ext r F H m r' F' H' m' ∧ Pre r1 r' ∧ Same F1 F' ∧ H' Dl = some (.lst ws) ∧ RepAll K r' F' ws acc ∧ F' Dl = none ∧ (∀ (k : Nat), live m' k → r'[k]? ≠ some Dl) ∧ acc.length ≤ i ∧ lcM mg t e wk.chk (wipeE δ vs) (wk.xs.drop i) m' = some (.ok rest, mf) ∧ acc ++ rest = zs,
        ⟨wk.xs.length, by simp, Nat.zero_le _, m1, r1, F1, [], [], zs, hr1.side hD, x1.trans hr1.len hr.len (Ext.side hr1 hD), Pre.refl _, Same.refl _, upd_same, .nil, hr1.sub.free hD, fun k l e => (hr1.ne_new hD l e) rfl, Nat.zero_le _, e3, rfl⟩, ?_⟩
      rintro i mm H' ⟨rfl, hin, m', r', F', ws, acc, rest, hr', x', pr', sm', hw', ra, fD, nD, hacc, ev, hz⟩
      by_cases hlt : i < wk.xs.length
      · have ed : wk.xs[i]? = some wk.xs[i] := List.getElem?_eq_getElem hlt
        rw [List.drop_eq_getElem_cons hlt] at ev
        unfold lcM at ev
        split at ev
        · rename_i hc
          obtain ⟨go, stop⟩ := ok r' F' H' m' pr' sm' hr' hc i
          obtain ⟨hgo, hy⟩ := go _ ed
          cases hg1 : mg wk.xs[i] (wipeE δ vs) with
          | none => rw [hg1] at ev; cases ev
          | some δ1 =>
            rw [hg1] at ev
            simp only [Option.bind_some] at ev
            obtain ⟨b, m3, et, ev2⟩ := sure_some ev
            refine .inr ⟨hgo, fun H2 => ∃ m' r' F' ws acc rest, HR K r' F' H2 m' ∧ Ext r F H m r' F' H2 m' ∧ Pre r1 r' ∧ Same F1 F' ∧ H2 Dl = some (.lst ws) ∧ RepAll K r' F' ws acc ∧ F' Dl = none ∧ (∀ (k : Nat), live m' k → r'[k]? ≠ some Dl) ∧ acc.length ≤ i + 1 ∧ lcM mg t e wk.chk (wipeE δ vs) (wk.xs.drop (i + 1)) m' = some (.ok rest, mf) ∧ acc ++ rest = zs,
              fun H2 p2 => ⟨wk.xs.length - (i + 1), by omega, rfl, hlt, p2⟩, fun x H'' y => ?_⟩
            obtain ⟨F2, hr2, x2, p2⟩ := hy x H'' y
            have er2 : ER K r' F2 (wipe σ vs) (wipeE δ vs) := ((er.ext x').ext x2).wipe vs
            refine hg _ _ _ hg1 r' F2 H'' m' (wipe σ vs) x hr2 er2 p2 _ fun σ3 er3 w3 => ⟨w3.trans wipe_wipe, ?_⟩
            refine ht δ1 m' _ _ et r' F2 H'' σ3 hr2 er3 _ fun b' r4 F4 H4 hr4 x4 rb => ?_
            cases rb
            have x24 := x2.trans hr2.len hr'.len x4
            obtain ⟨hw4, fD4, nD4⟩ := x24.side_keep hr'.len hw' fD nD
            have x04 := x'.trans hr'.len hr.len x24
            cases b with
            | true =>
              rw [if_pos rfl]
              dsimp only [cond] at ev2
              obtain ⟨z, m5, ee, ev3⟩ := sure_some ev2
              obtain ⟨zs', m6, ez, ev4⟩ := sure_some ev3
              cases ev4
              refine he δ1 m3 _ _ ee r4 F4 H4 σ3 hr4 (er3.ext x4) _ fun v r5 F5 H5 hr5 x5 p5 => ?_
              obtain ⟨hw5, fD5, nD5⟩ := x5.side_keep hr4.len hw4 fD4 nD4
              have ra5 := (ra.mono x24.pre x24.sub).mono x5.pre x5.sub
              refine ⟨ws, hw5, Evl.sz_lt (by rw [ra.len]; omega), m5, r5, F5, ws ++ [v], acc ++ [z], zs', hr5.sideSet fD5 nD5 (fun b z => by rw [hw5] at z; cases z), (x04.trans hr4.len hr.len x5).sideSet hD0, (pr'.trans x24.pre).trans x5.pre, (sm'.trans x24.sub).trans x5.sub, upd_same, ra5.app (.one p5), fD5, nD5, ?_, ez, ?_⟩
              · rw [List.length_append]; show acc.length + 1 ≤ i + 1; omega
              · rw [List.append_assoc]; exact hz
            | false =>
              rw [if_neg Bool.false_ne_true]
              exact ⟨m3, r4, F4, ws, acc, rest, hr4, x04, pr'.trans x24.pre, sm'.trans x24.sub, hw4, ra.mono x24.pre x24.sub, fD4, nD4, by omega, ev2, hz⟩
        · cases ev
      · have hi' : i = wk.xs.length := by omega
        subst hi'
        rw [List.drop_length] at ev
        unfold lcM at ev
        split at ev
        · rename_i hc
          cases ev
          rw [List.append_nil] at hz
          subst hz
          obtain ⟨go, stop⟩ := ok r' F' H' mf pr' sm' hr' hc wk.xs.length
          refine .inl ⟨stop (Nat.le_refl _), q (.ref Dl) r' F' H' hr' x' ⟨[Dl], .own hw' ra .nil, by simp, fun p hp => ?_⟩⟩
          cases List.mem_singleton.mp hp
          exact ⟨hD0, fD, nD⟩
        · cases ev
    · cases e2
  · exact fun q Q => hw δ m _ _ e1 r F H σ hr er q _

/-! ### defs and calls -/
abbrev FnS := List D → Store → MX FT
def ResF (K : PySem.W.Frag) (r : List Addr) (F H : Hp) (m : Store) (Q : VK) (E : XK) : RX FT → Store → Prop
  | .ok ft, m' => ∀ v r' F' H', HR K r' F' H' m' → Ext r F H m r' F' H' m' → RF K H m' r' F' H' v ft → Q v H'
  | .ex x, m' => ∀ r' F' H', HR K r' F' H' m' → Ext r F H m r' F' H' m' → E (.ref (ga K x)) none H'
def spF (K : PySem.W.Frag) (f : FnS) : Sp := fun vs H Q E => ∃ r F m ds res m', HR K r F H m ∧ RepAll K r F vs ds ∧ f ds m = some (res, m') ∧ ResF K r F H m Q E res m'
def fCall (f : FnS) (as : MA) : MF := fun δ m => (as δ m).bind fun ds m => f ds m
def fCall0 (f : FnS) (as : MA) : MF := fun δ m => (as δ m).bind fun ds m => (f ds m).sure ret
section
variable {K : PySem.W.Frag} {W : WX} {tas : TA} {as : MA} {f : FnS}
theorem so_call (hs : So K W (RA K) tas as) : So K W (RF K) (tCallS (spF K f) (WE W) tas) (fCall f as) :=
  So.bind rf_mon hs (k := fun ds δ m => f ds m) (u := fun vs σ H Q => spF K f vs H Q (WE W σ)) fun ds δ m res m' e vs r F H σ H0 hr er rv => by
    cases res with
    | ok ft => exact fun Q q => ⟨r, F, m, ds, .ok ft, m', hr, rv, e, fun v r' F' H' h1 h2 h3 => q v r' F' H' h1 h2 h3⟩
    | ex x => exact fun q Q => ⟨r, F, m, ds, .ex x, m', hr, rv, e, fun r' F' H' h1 h2 => q r' F' H' h1 h2⟩
theorem so_call0 (hs : So K W (RA K) tas as) : So K W (RF K) (tCall (spF K f) [] E0 tas) (fCall0 f as) :=
  So.bind rf_mon hs (k := fun ds δ m => (f ds m).sure ret) (u := fun vs σ H Q => spF K f (vs ++ []) H Q E0) fun ds δ m res m' e vs r F H σ H0 hr er rv => by
    obtain ⟨ft, m1, e1, e2⟩ := sure_some e
    cases e2
    intro Q q
    rw [List.append_nil]
    exact ⟨r, F, m, ds, .ok ft, m', hr, rv, e1, fun v r' F' H' h1 h2 h3 => q v r' F' H' h1 h2 h3⟩
end
/-- what a def hands back, seen from outside: its own cells are dropped, what it hands back of them is new -/
def F1.ft : F1 → FT
  | .pl d => .pl d
  | .own xs => .own xs
def resE (n : Nat) (m : Store) (d : D) : Option F1 := match d with
  | .cell k => if k < n then some (.pl (.cell k)) else match m[k]? with
    | some (.lst xs) => if D.unds n xs = true then some (.own xs) else none
    | _ => none
  | d => if d.und n = true then some (.pl d) else none
def resA (n : Nat) (m : Store) : List D → Option (List F1)
  | [] => some []
  | d :: ds => (resE n m d).bind fun f => (resA n m ds).map fun fs => f :: fs
def newK (n : Nat) : List D → List Nat
  | [] => []
  | .cell k :: ds => if k < n then newK n ds else k :: newK n ds
  | _ :: ds => newK n ds
open Classical in
noncomputable def resT (n : Nat) (m : Store) (d : D) : Option FT := match d with
  | .tup ds => if D.unds n ds = true then some (.pl (.tup ds)) else if (newK n ds).Nodup then (resA n m ds).map FT.tup else none
  | d => (resE n m d).map F1.ft
open Classical in
noncomputable def cutS (m0 m' : Store) : Option Store := if m'.length = m0.length then some m' else if Tidy m0 (m'.take m0.length) then some (m'.take m0.length) else none
open Classical in
noncomputable def finF (m0 : Store) (d : D) (m' : Store) : MX FT := if m'.length = m0.length then ret (.pl d) m' else if Tidy m0 (m'.take m0.length) then (resT m0.length m' d).map fun ft => (.ok ft, m'.take m0.length) else none
noncomputable def endF (m0 : Store) : Option OT → MX FT
  | some (.rt d m') => finF m0 d m'
  | some (.nx _ m') => finF m0 .non m'
  | some (.ex x _ m') => (cutS m0 m').map fun m => (.ex x, m)
  | _ => none
noncomputable def fnOf (n N : Nat) (b : MS) : FnS := fun ds m => if ds.length = n then endF m (b (st N ds) m) else none
section
variable {K : PySem.W.Frag} {r r' : List Addr} {F H F' H' : Hp} {m m' m2 : Store}
theorem cut_ok (hr0 : HR K r F H m) (hr : HR K r' F' H' m') (x : Ext r F H m r' F' H' m') (h : cutS m m' = some m2) : ∃ r'', HR K r'' F' H' m2 ∧ Ext r F H m r'' F' H' m2 := by
  unfold cutS at h
  split at h
  · cases h; exact ⟨r', hr, x⟩
  · split at h
    · rename_i ti
      cases h
      have e : m' = m'.take m.length ++ m'.drop m.length := (List.take_append_drop _ _).symm
      have hl : (m'.take m.length).length = m.length := by rw [List.length_take]; have := x.mlen; omega
      rw [e] at hr x
      have q1 := hr0.trunc ti hr
      have q2 := x.trunc hr0.len ti.1
      exact ⟨_, q1, q2⟩
    · cases h
theorem resE_ok (hr0 : HR K r F H m) (hr : HR K r' F' H' m') (x : Ext r F H m r' F' H' m') {v : V} {d : D} {f : F1} (h : resE m.length m' d = some f) (p : Rep K r' F' v d) :
    ∃ as, OwnL K (r'.take m.length) F' H' [v] [f] as ∧ ((∃ d', f = .pl d' ∧ as = []) ∨ ∃ k a, d = .cell k ∧ m.length ≤ k ∧ live m' k ∧ r'[k]? = some a ∧ as = [a] ∧ F' a = none) := by
  have plain : ∀ d : D, (if d.und m.length = true then some (F1.pl d) else none) = some f → Rep K r' F' v d → ∃ as, OwnL K (r'.take m.length) F' H' [v] [f] as ∧ ((∃ d', f = .pl d' ∧ as = []) ∨ ∃ k a, d = .cell k ∧ m.length ≤ k ∧ live m' k ∧ r'[k]? = some a ∧ as = [a] ∧ F' a = none) := by
    intro d h p
    split at h
    · rename_i hu; cases h; exact ⟨[], .pl (p.cut hu) .nil, .inl ⟨d, rfl, rfl⟩⟩
    · cases h
  cases d with
  | cell k =>
    unfold resE at h
    dsimp only at h
    split at h
    · rename_i hk
      cases h
      exact ⟨[], .pl (p.cut (decide_eq_true hk)) .nil, .inl ⟨_, rfl, rfl⟩⟩
    · rename_i hk
      cases p with
      | cell ea =>
        split at h
        · rename_i xs hx
          split at h
          · rename_i hu
            cases h
            obtain ⟨q1, vs, q2, q3⟩ := hr.cell _ _ _ ea hx rfl
            exact ⟨[_], .own q2 (q3.cut hu) .nil, .inr ⟨k, _, rfl, Nat.not_lt.mp hk, ⟨_, hx, rfl⟩, ea, rfl, q1⟩⟩
          · cases h
        · cases h
  | non => exact plain _ h p
  | bl b => exact plain _ h p
  | int b => exact plain _ h p
  | str b => exact plain _ h p
  | lst b => exact plain _ h p
  | tup b => exact plain _ h p
  | scr b => exact plain _ h p
  | exc b => exact plain _ h p
theorem resA_ok (hr0 : HR K r F H m) (hr : HR K r' F' H' m') (x : Ext r F H m r' F' H' m') : ∀ {ds : List D} {vs : List V} {fs : List F1}, resA m.length m' ds = some fs → (newK m.length ds).Nodup → RepAll K r' F' vs ds →
    ∃ as, OwnL K (r'.take m.length) F' H' vs fs as ∧ as.Nodup ∧ ∀ a ∈ as, F' a = none ∧ ∃ k, k ∈ newK m.length ds ∧ m.length ≤ k ∧ live m' k ∧ r'[k]? = some a
  | [], _, _, h, _, .nil => by
    cases h
    exact ⟨[], .nil, .nil, fun a ha => nomatch ha⟩
  | d :: ds, _, fs, h, nd, .cons (v := v) (vs := vs) p ps => by
    unfold resA at h
    cases q : resE m.length m' d with
    | none => rw [q] at h; cases h
    | some f =>
      rw [q] at h
      simp only [Option.bind_some] at h
      cases q2 : resA m.length m' ds with
      | none => rw [q2] at h; cases h
      | some fs' =>
        rw [q2] at h
        cases h
        have sub : ∀ k, k ∈ newK m.length ds → k ∈ newK m.length (d :: ds) := fun k hk => by
          cases d <;> unfold newK <;> first | exact hk | (split <;> first | exact hk | exact List.mem_cons_of_mem _ hk)
        have nd' : (newK m.length ds).Nodup := by
          cases d <;> first | exact nd | (unfold newK at nd; split at nd <;> first | exact nd | exact (List.nodup_cons.mp nd).2)
        obtain ⟨as, h1, h2, h3⟩ := resA_ok hr0 hr x q2 nd' ps
        obtain ⟨as1, g1, g2⟩ := resE_ok hr0 hr x q p
        rcases g2 with ⟨d', rfl, rfl⟩ | ⟨k, a, rfl, hk, lv, ea, rfl, fa⟩
        · cases g1 with
          | pl g _ => exact ⟨as, .pl g h1, h2, fun a ha => let ⟨z1, k, z2, z3⟩ := h3 a ha; ⟨z1, k, sub k z2, z3⟩⟩
        · cases g1 with
          | pl _ g => cases g
          | own g g' _ =>
            have hnk : newK m.length (D.cell k :: ds) = k :: newK m.length ds := by
              show (if k < m.length then newK m.length ds else k :: newK m.length ds) = _
              rw [if_neg (by omega)]
            rw [hnk] at nd
            refine ⟨_ :: as, .own g g' h1, List.nodup_cons.mpr ⟨fun hm => ?_, h2⟩, fun b hb => ?_⟩
            · obtain ⟨_, k2, hk2, _, lv2, ea2⟩ := h3 _ hm
              have := hr.inj k k2 _ ea ea2 lv lv2
              subst this
              exact (List.nodup_cons.mp nd).1 hk2
            · rcases List.mem_cons.mp hb with rfl | hb
              · exact ⟨fa, k, by rw [hnk]; exact List.mem_cons_self, hk, lv, ea⟩
              · obtain ⟨z1, k2, z2, z3⟩ := h3 b hb
                exact ⟨z1, k2, sub k2 z2, z3⟩
theorem fin_ok (hr0 : HR K r F H m) (hr : HR K r' F' H' m') (x : Ext r F H m r' F' H' m') {v : V} {d : D} {res : RX FT} (h : finF m d m' = some (res, m2)) (p : Rep K r' F' v d) : ∃ r'' ft, res = .ok ft ∧ HR K r'' F' H' m2 ∧ Ext r F H m r'' F' H' m2 ∧ RF K H m2 r'' F' H' v ft := by
  unfold finF at h
  split at h
  · cases h
    exact ⟨r', _, rfl, hr, x, [], ⟨p, rfl⟩, .nil, fun a ha => nomatch ha⟩
  · split at h
    · rename_i hne ti
      cases hq : resT m.length m' d with
      | none => rw [hq] at h; cases h
      | some ft =>
        rw [hq] at h
        cases h
        have e : m' = m'.take m.length ++ m'.drop m.length := (List.take_append_drop _ _).symm
        have hl : (m'.take m.length).length = m.length := by rw [List.length_take]; have := x.mlen; omega
        have hrq := hr
        have xq := x
        rw [e] at hr x
        have q1 := hr0.trunc ti hr
        have q2 := x.trunc hr0.len ti.1
        rw [hl] at q1 q2
        have lv' : ∀ j, live (m'.take m.length) j → live m' j ∧ j < m.length := fun j ⟨c, ec, ng⟩ => by
          rw [List.getElem?_take] at ec
          split at ec
          · rename_i hj; exact ⟨⟨c, ec, ng⟩, hj⟩
          · cases ec
        have newOk : ∀ a : Addr, F' a = none → (∃ k : Nat, m.length ≤ k ∧ live m' k ∧ r'[k]? = some a) → H a = none ∧ F' a = none ∧ ∀ j : Nat, live (m'.take m.length) j → (r'.take m.length)[j]? ≠ some a := by
          rintro a fa ⟨k, hk, lv, ea⟩
          refine ⟨xq.fresh k a hk ea, fa, fun j lj ej => ?_⟩
          obtain ⟨l1, l2⟩ := lv' j lj
          rw [List.getElem?_take, if_pos l2] at ej
          have := hrq.inj j k a ej ea l1 lv
          omega
        refine ⟨_, ft, rfl, q1, q2, ?_⟩
        have one : ∀ {d : D} {ft : FT}, (resE m.length m' d).map F1.ft = some ft → Rep K r' F' v d → RF K H (m'.take m.length) (r'.take m.length) F' H' v ft := by
          intro d ft hq p
          cases z : resE m.length m' d with
          | none => rw [z] at hq; cases hq
          | some f =>
            rw [z] at hq
            obtain ⟨as, g1, g2⟩ := resE_ok hr0 hrq xq z p
            rcases g2 with ⟨d', rfl, rfl⟩ | ⟨k, a, rfl, hk, lv, ea, rfl, fa⟩
            · cases hq
              cases g1 with
              | pl g _ => exact ⟨[], ⟨g, rfl⟩, .nil, fun a ha => nomatch ha⟩
            · cases f with
              | pl d' =>
                cases g1 with
                | pl _ g => cases g
              | own xs =>
                cases hq
                exact ⟨[a], g1, by simp, fun b hb => by cases List.mem_singleton.mp hb; exact newOk a fa ⟨k, hk, lv, ea⟩⟩
        cases d with
        | tup ds =>
          unfold resT at hq
          dsimp only at hq
          split at hq
          · rename_i hu
            cases hq
            exact ⟨[], ⟨p.cut hu, rfl⟩, .nil, fun a ha => nomatch ha⟩
          · split at hq
            · rename_i nd
              cases z : resA m.length m' ds with
              | none => rw [z] at hq; cases hq
              | some fs =>
                rw [z] at hq
                cases hq
                cases p with
                | tup hp ps =>
                  obtain ⟨as, g1, g2, g3⟩ := resA_ok hr0 hrq xq z nd ps
                  exact ⟨as, ⟨_, _, rfl, hp, g1⟩, g2, fun a ha => let ⟨z1, k, _, z3⟩ := g3 a ha; newOk a z1 ⟨k, z3⟩⟩
            · cases hq
        | cell k => exact one (d := (.cell k)) hq p
        | non => exact one (d := .non) hq p
        | bl b => exact one (d := (.bl b)) hq p
        | int b => exact one (d := (.int b)) hq p
        | str b => exact one (d := (.str b)) hq p
        | lst b => exact one (d := (.lst b)) hq p
        | scr b => exact one (d := (.scr b)) hq p
        | exc b => exact one (d := (.exc b)) hq p
    · cases h
end
/-- THE RULE for a def -/
theorem fn_okF {CX : CXT} {P : Program} {w : World} {K : PySem.W.Frag} {mg : Str → Option Value} {base : Heap} {x qual : Str} {params : Arguments} {body : List Stmt} {scope : Scope} {f : Addr} {fd : FuncData} {N ps : List Str} {k : Nat} {b : MS}
    (F : FunD K x qual params body scope [] [] f fd) (sc : FnScope N ps scope) (t : WX → TS)
    (hP : ∀ (cdv : Value) (A : Around) (outer : List Env) (s : Shared) (H : Hp) (E : XK), Room k (A.deeper (envOfC qual scope s.heap.objs.size f cdv)) → PSs (cxOf CX P w K mg base N qual scope f cdv A outer s H E) body (t fun cls d _ H' => E cls d H'))
    (hS : SS K t b) : FnOk P w K mg base CX (k + 1) f fd ps (spF K (fnOf ps.length N.length b)) := by
  refine F.ok sc (fun vs H Q E h => ?_) (fun cdv A outer s H vs Q E hr h => ?_)
  · obtain ⟨r, F, m, ds, res, m', _, p, hs, _⟩ := h
    rw [p.len]
    unfold fnOf at hs
    split at hs
    · rename_i hl; exact hl
    · cases hs
  · obtain ⟨r, F, m, ds, res, m', hr0, p, hs, q⟩ := h
    unfold fnOf at hs
    split at hs
    · refine ⟨_, hP cdv A outer s H E hr, ?_⟩
      cases ho : b (st N.length ds) m with
      | none => rw [ho] at hs; cases hs
      | some o =>
        rw [ho] at hs
        refine hS (fun cls d _ H' => E cls d H') _ _ _ ho r F H _ _ hr0 (er_start p) ?_
        cases o with
        | rt d m1 =>
            intro v r' F' H' h1 x1 p1
            obtain ⟨r'', ft, rfl, z1, z2, z3⟩ := fin_ok hr0 h1 x1 hs p1
            exact q v r'' F' H' z1 z2 z3
        | nx δ m1 =>
            intro σ' r' F' H' h1 _ x1
            obtain ⟨r'', ft, rfl, z1, z2, z3⟩ := fin_ok (v := .non) hr0 h1 x1 hs .non
            exact q .non r'' F' H' z1 z2 z3
        | ex y δ m1 =>
            intro σ' r' F' H' h1 _ x1
            have hs' : (cutS m m1).map (fun m => ((RX.ex y : RX FT), m)) = some (res, m') := hs
            cases z : cutS m m1 with
            | none => rw [z] at hs'; cases hs'
            | some m3 =>
              rw [z] at hs'
              cases hs'
              obtain ⟨r'', z1, z2⟩ := cut_ok hr0 h1 x1 z
              exact q r'' F' H' z1 z2
        | bk δ m1 => cases hs
        | ct δ m1 => cases hs
    · cases hs
end DL
namespace DL
open PySem PySem.Spec PyProof.Rows L2
/-! ### what is read as a list -/
def rdL (m : Store) : D → Option (List D)
  | .lst xs => some xs
  | .cell k => match m[k]? with
    | some (.lst xs) => some xs
    | _ => none
  | _ => none
def rdQ (m : Store) : D → Option (List D)
  | .lst xs => some xs
  | .cell k => match m[k]? with
    | some (.lst xs) => some xs
    | _ => none
  | .scr ns => some (ns.map D.int)
  | _ => none
/-- .. or as a tuple -/
def rdS (m : Store) : D → Option (List D)
  | .lst xs => some xs
  | .cell k => match m[k]? with
    | some (.lst xs) => some xs
    | _ => none
  | .scr ns => some (ns.map D.int)
  | .tup xs => some xs
  | _ => none
section
variable {K : PySem.W.Frag} {m : Store} {d : D} {r : List Addr} {F H : Hp} {v : V} {xs : List D}
theorem cell_some {k : Nat} (h : (match m[k]? with | some (.lst xs) => some xs | _ => none) = some xs) : m[k]? = some (.lst xs) := by
  split at h
  · rename_i e; cases h; exact e
  · cases h
theorem rdL_get (h : rdL m d = some xs) (hr : HR K r F H m) (p : Rep K r F v d) : ∃ a vs, v = .ref a ∧ H a = some (.lst vs) ∧ RepAll K r F vs xs := by
  cases d with
  | lst ys => cases h; exact IsL.get (.lst (m := m)) hr p
  | cell k => exact IsL.get (.cell (cell_some h)) hr p
  | _ => cases h
theorem repAll_ints : ∀ (ns : List Int), RepAll K r F (ns.map V.int) (ns.map D.int)
  | [] => .nil
  | n :: ns => .cons (.int n) (repAll_ints ns)
theorem rdQ_get (h : rdQ m d = some xs) (hr : HR K r F H m) (p : Rep K r F v d) : ∃ a vs, v = .ref a ∧ SqL K H a vs ∧ RepAll K r F vs xs := by
  cases d with
  | lst ys => cases h; obtain ⟨a, vs, e, h1, h2⟩ := IsL.get (.lst (m := m)) hr p; exact ⟨a, vs, e, SqL.of h1, h2⟩
  | cell k => obtain ⟨a, vs, e, h1, h2⟩ := IsL.get (.cell (cell_some h)) hr p; exact ⟨a, vs, e, SqL.of h1, h2⟩
  | scr ns => cases h; cases p with
    | scr hs => exact ⟨_, _, rfl, hr.sub.seq hs, repAll_ints ns⟩
  | _ => cases h
theorem rdS_get (h : rdS m d = some xs) (hr : HR K r F H m) (p : Rep K r F v d) : ∃ a vs, v = .ref a ∧ (SqL K H a vs ∨ SqT K H a vs) ∧ RepAll K r F vs xs := by
  cases d with
  | lst ys => cases h; obtain ⟨a, vs, e, h1, h2⟩ := IsL.get (.lst (m := m)) hr p; exact ⟨a, vs, e, .inl (SqL.of h1), h2⟩
  | cell k => obtain ⟨a, vs, e, h1, h2⟩ := IsL.get (.cell (cell_some h)) hr p; exact ⟨a, vs, e, .inl (SqL.of h1), h2⟩
  | scr ns => cases h; cases p with
    | scr hs => exact ⟨_, _, rfl, .inl (hr.sub.seq hs), repAll_ints ns⟩
  | tup ys => cases h; cases p with
    | tup hs ha => exact ⟨_, _, rfl, .inr (SqT.of (hr.sub _ _ hs)), ha⟩
  | _ => cases h
end
/-! ### whole numbers -/
def pAdd : D → D → Store → MX D := fun x y m => match x, y with
  | .int i, .int j => ret (.int (i + j)) m
  | _, _ => none
theorem s2_pAdd {K : PySem.W.Frag} {W : WX} : S2 K W oAdd pAdd := fun x y m res m' e r F H σ vx vy hr px py => by
  unfold pAdd at e
  split at e
  · cases e; cases px; cases py
    exact fun Q q => ⟨_, _, rfl, rfl, q _ r F H hr (Ext.refl hr) (.int _)⟩
  · cases e
def pSub : D → D → Store → MX D := fun x y m => match x, y with
  | .int i, .int j => ret (.int (i - j)) m
  | _, _ => none
theorem s2_pSub {K : PySem.W.Frag} {W : WX} : S2 K W oSub pSub := fun x y m res m' e r F H σ vx vy hr px py => by
  unfold pSub at e
  split at e
  · cases e; cases px; cases py
    exact fun Q q => ⟨_, _, rfl, rfl, q _ r F H hr (Ext.refl hr) (.int _)⟩
  · cases e
open Classical in
noncomputable def pMul : D → D → Store → MX D := fun x y m => match x, y with
  | .int i, .int j => if CMul i j then ret (.int (i * j)) m else none
  | _, _ => none
theorem s2_pMul {K : PySem.W.Frag} {W : WX} : S2 K W oMul pMul := fun x y m res m' e r F H σ vx vy hr px py => by
  unfold pMul at e
  split at e
  · split at e
    · rename_i hc
      cases e; cases px; cases py
      exact fun Q q => ⟨_, _, rfl, rfl, hc, q _ r F H hr (Ext.refl hr) (.int _)⟩
    · cases e
  · cases e
open Classical in
noncomputable def pDiv : D → D → Store → MX D := fun x y m => match x, y with
  | .int i, .int j => if CDivW i j then ret (.int (i / j)) m else none
  | _, _ => none
theorem s2_pDiv {K : PySem.W.Frag} {W : WX} : S2 K W oDiv pDiv := fun x y m res m' e r F H σ vx vy hr px py => by
  unfold pDiv at e
  split at e
  · split at e
    · rename_i hc
      cases e; cases px; cases py
      exact fun Q q => ⟨_, _, rfl, rfl, hc, q _ r F H hr (Ext.refl hr) (.int _)⟩
    · cases e
  · cases e
open Classical in
noncomputable def pMod : D → D → Store → MX D := fun x y m => match x, y with
  | .int i, .int j => if 0 < j then ret (.int (i % j)) m else none
  | _, _ => none
theorem s2_pMod {K : PySem.W.Frag} {W : WX} : S2 K W oMod pMod := fun x y m res m' e r F H σ vx vy hr px py => by
  unfold pMod at e
  split at e
  · split at e
    · rename_i hc
      cases e; cases px; cases py
      exact fun Q q => ⟨_, _, rfl, rfl, hc, q _ r F H hr (Ext.refl hr) (.int _)⟩
    · cases e
  · cases e
open Classical in
noncomputable def pPow : D → D → Store → MX D := fun x y m => match x, y with
  | .int i, .int j => if CPow i j then ret (.int (i ^ j.toNat)) m else none
  | _, _ => none
theorem s2_pPow {K : PySem.W.Frag} {W : WX} : S2 K W oPow pPow := fun x y m res m' e r F H σ vx vy hr px py => by
  unfold pPow at e
  split at e
  · split at e
    · rename_i hc
      cases e; cases px; cases py
      exact fun Q q => ⟨_, _, rfl, rfl, hc, q _ r F H hr (Ext.refl hr) (.int _)⟩
    · cases e
  · cases e
def pLt : D → D → Store → MX D := fun x y m => match x, y with
  | .int i, .int j => ret (.bl (decide (i < j))) m
  | _, _ => none
theorem s2_pLt {K : PySem.W.Frag} {W : WX} : S2 K W oLt pLt := fun x y m res m' e r F H σ vx vy hr px py => by
  unfold pLt at e
  split at e
  · cases e; cases px; cases py
    exact fun Q q => ⟨_, _, rfl, rfl, q _ r F H hr (Ext.refl hr) (.bl _)⟩
  · cases e
def pLe : D → D → Store → MX D := fun x y m => match x, y with
  | .int i, .int j => ret (.bl (decide (i ≤ j))) m
  | _, _ => none
theorem s2_pLe {K : PySem.W.Frag} {W : WX} : S2 K W oLe pLe := fun x y m res m' e r F H σ vx vy hr px py => by
  unfold pLe at e
  split at e
  · cases e; cases px; cases py
    exact fun Q q => ⟨_, _, rfl, rfl, q _ r F H hr (Ext.refl hr) (.bl _)⟩
  · cases e
def pGt : D → D → Store → MX D := fun x y m => match x, y with
  | .int i, .int j => ret (.bl (decide (j < i))) m
  | _, _ => none
theorem s2_pGt {K : PySem.W.Frag} {W : WX} : S2 K W oGt pGt := fun x y m res m' e r F H σ vx vy hr px py => by
  unfold pGt at e
  split at e
  · cases e; cases px; cases py
    exact fun Q q => ⟨_, _, rfl, rfl, q _ r F H hr (Ext.refl hr) (.bl _)⟩
  · cases e
def pGe : D → D → Store → MX D := fun x y m => match x, y with
  | .int i, .int j => ret (.bl (decide (j ≤ i))) m
  | _, _ => none
theorem s2_pGe {K : PySem.W.Frag} {W : WX} : S2 K W oGe pGe := fun x y m res m' e r F H σ vx vy hr px py => by
  unfold pGe at e
  split at e
  · cases e; cases px; cases py
    exact fun Q q => ⟨_, _, rfl, rfl, q _ r F H hr (Ext.refl hr) (.bl _)⟩
  · cases e
def pNeg : D → Store → MX D := fun x m => match x with
  | .int i => ret (.int (-i)) m
  | _ => none
def pEq : D → D → Store → MX D := fun x y m => match x, y with
  | .int i, .int j => ret (.bl (decide (i = j))) m
  | .bl i, .bl j => ret (.bl (decide (i = j))) m
  | .str i, .str j => ret (.bl (decide (i = j))) m
  | .non, .non => ret (.bl (true)) m
  | .non, .int _ => ret (.bl (false)) m
  | .int _, .non => ret (.bl (false)) m
  | _, _ => none
theorem s2_pEq {K : PySem.W.Frag} {W : WX} : S2 K W rEq pEq := fun x y m res m' e r F H σ vx vy hr px py => by
  unfold pEq at e
  split at e
  · cases e; cases px; cases py
    refine fun Q q => ⟨rfl, ?_⟩
    rw [DL.dec_int]; exact q _ r F H hr (Ext.refl hr) (.bl _)
  · cases e; cases px; cases py
    refine fun Q q => ⟨rfl, ?_⟩
    rw [DL.dec_bl]; exact q _ r F H hr (Ext.refl hr) (.bl _)
  · cases e; cases px; cases py
    refine fun Q q => ⟨rfl, ?_⟩
    rw [DL.dec_str]; exact q _ r F H hr (Ext.refl hr) (.bl _)
  · cases e; cases px; cases py
    exact fun Q q => ⟨rfl, q _ r F H hr (Ext.refl hr) (.bl _)⟩
  · cases e; cases px; cases py
    exact fun Q q => ⟨rfl, q _ r F H hr (Ext.refl hr) (.bl _)⟩
  · cases e; cases px; cases py
    exact fun Q q => ⟨rfl, q _ r F H hr (Ext.refl hr) (.bl _)⟩
  · cases e
def pNe : D → D → Store → MX D := fun x y m => match x, y with
  | .int i, .int j => ret (.bl (!decide (i = j))) m
  | .bl i, .bl j => ret (.bl (!decide (i = j))) m
  | .str i, .str j => ret (.bl (!decide (i = j))) m
  | .non, .non => ret (.bl (!true)) m
  | .non, .int _ => ret (.bl (!false)) m
  | .int _, .non => ret (.bl (!false)) m
  | _, _ => none
theorem s2_pNe {K : PySem.W.Frag} {W : WX} : S2 K W rNe pNe := fun x y m res m' e r F H σ vx vy hr px py => by
  unfold pNe at e
  split at e
  · cases e; cases px; cases py
    refine fun Q q => ⟨rfl, ?_⟩
    rw [DL.dec_int]; exact q _ r F H hr (Ext.refl hr) (.bl _)
  · cases e; cases px; cases py
    refine fun Q q => ⟨rfl, ?_⟩
    rw [DL.dec_bl]; exact q _ r F H hr (Ext.refl hr) (.bl _)
  · cases e; cases px; cases py
    refine fun Q q => ⟨rfl, ?_⟩
    rw [DL.dec_str]; exact q _ r F H hr (Ext.refl hr) (.bl _)
  · cases e; cases px; cases py
    exact fun Q q => ⟨rfl, q _ r F H hr (Ext.refl hr) (.bl _)⟩
  · cases e; cases px; cases py
    exact fun Q q => ⟨rfl, q _ r F H hr (Ext.refl hr) (.bl _)⟩
  · cases e; cases px; cases py
    exact fun Q q => ⟨rfl, q _ r F H hr (Ext.refl hr) (.bl _)⟩
  · cases e
def pIsN : D → D → Store → MX D := fun x y m => match y with
  | .non => ret (.bl (x.isNon)) m
  | _ => none
theorem s2_pIsN {K : PySem.W.Frag} {W : WX} : S2 K W oIsN pIsN := fun x y m res m' e r F H σ vx vy hr px py => by
  cases y with
  | non =>
    cases e; cases py
    refine fun Q q => ⟨rfl, ?_⟩
    have : decide (vx = V.non) = x.isNon := by cases px <;> rfl
    rw [this]; exact q _ r F H hr (Ext.refl hr) (.bl _)
  | _ => cases e
def pNotN : D → D → Store → MX D := fun x y m => match y with
  | .non => ret (.bl (!x.isNon)) m
  | _ => none
theorem s2_pNotN {K : PySem.W.Frag} {W : WX} : S2 K W oNotN pNotN := fun x y m res m' e r F H σ vx vy hr px py => by
  cases y with
  | non =>
    cases e; cases py
    refine fun Q q => ⟨rfl, ?_⟩
    have : decide (vx = V.non) = x.isNon := by cases px <;> rfl
    rw [this]; exact q _ r F H hr (Ext.refl hr) (.bl _)
  | _ => cases e
/-! ### == of data at any depth -/
def vw (m : Store) : D → Option D
  | .cell k => match m[k]? with
    | some (.lst xs) => some (.lst xs)
    | _ => none
  | d => some d
def eqb (d e : D) : Bool := PyData.eqv d.toPy e.toPy
theorem vw_sd {m : Store} {d d' : D} (h : vw m d = some d') (s : Sh 60 d') : Sd m d d' := by
  cases d with
  | cell k =>
    unfold vw at h
    dsimp only at h
    split at h
    · rename_i e; cases h; exact .cell e s
    · cases h
  | non => cases h; exact .data s
  | bl _ => cases h; exact .data s
  | int _ => cases h; exact .data s
  | str _ => cases h; exact .data s
  | lst _ => cases h; exact .data s
  | tup _ => cases h; exact .data s
  | scr _ => cases h; exact .data s
  | exc _ => cases h; exact .data s
open Classical in
noncomputable def pNeD : D → D → Store → MX D := fun x y m => (vw m x).bind fun x => (vw m y).bind fun y => if Sh 60 x ∧ Sh 60 y then ret (.bl (!eqb x y)) m else none
theorem s2_pNeD {K : PySem.W.Frag} {W : WX} : S2 K W (rNeD K) pNeD := fun x y m res m' e r F H σ vx vy hr px py => by
  unfold pNeD at e
  cases h1 : vw m x with
  | none => rw [h1] at e; cases e
  | some x' =>
    rw [h1] at e
    cases h2 : vw m y with
    | none => rw [h2] at e; cases e
    | some y' =>
      rw [h2] at e
      simp only [Option.bind_some] at e
      split at e
      · rename_i hs
        cases e
        have s1 := vw_sd h1 hs.1
        have s2 := vw_sd h2 hs.2
        exact fun Q q => ⟨_, _, s1.pd.1.dp hr px, s2.pd.1.dp hr py, s1.pd.2.1, s2.pd.2.1, q _ r F H hr (Ext.refl hr) (.bl _)⟩
      · cases e
/-! ### items, lengths -/
def pIxT : D → D → Store → MX D := fun x y m => match x, y with
  | .tup ds, .int i => (L2.atI ds i).bind fun d => ret d m
  | _, _ => none
theorem s2_pIxT {K : PySem.W.Frag} {W : WX} : S2 K W (rIxT K) pIxT := fun x y m res m' e r F H σ vx vy hr px py => by
  unfold pIxT at e
  split at e
  · rename_i ds i
    cases h : L2.atI ds i with
    | none => rw [h] at e; cases e
    | some d =>
      rw [h] at e; cases e
      exact y_ixT h r F H vx vy hr px py
  · cases e
def pIxL : D → D → Store → MX D := fun x y m => match y with
  | .int i => (rdQ m x).bind fun ds => (L2.atI ds i).bind fun d => ret d m
  | _ => none
theorem s2_pIxL {K : PySem.W.Frag} {W : WX} : S2 K W (rIxL K) pIxL := fun x y m res m' e r F H σ vx vy hr px py => by
  unfold pIxL at e
  split at e
  · rename_i i
    cases h0 : rdQ m x with
    | none => rw [h0] at e; cases e
    | some ds =>
      rw [h0] at e
      simp only [Option.bind_some] at e
      cases h : L2.atI ds i with
      | none => rw [h] at e; cases e
      | some d =>
        rw [h] at e; cases e
        cases py
        obtain ⟨a, vs, rfl, hs, ra⟩ := rdQ_get h0 hr px
        obtain ⟨v, e1, p⟩ := ra.atI h
        exact fun Q q => ⟨_, _, i, v, rfl, rfl, hs, e1, q _ r F H hr (Ext.refl hr) p⟩
  · cases e
def pLen : List D → Store → MX D := fun xs m => match xs with
  | [d] => (rdS m d).bind fun ds => ret (.int ds.length) m
  | _ => none
theorem rep1 {K : PySem.W.Frag} {r : List Addr} {F : Hp} {vs : List V} {d : D} (p : RepAll K r F vs [d]) : ∃ v, vs = [v] ∧ Rep K r F v d := by
  cases p with
  | cons p q => cases q; exact ⟨_, rfl, p⟩
theorem rep2 {K : PySem.W.Frag} {r : List Addr} {F : Hp} {vs : List V} {d e : D} (p : RepAll K r F vs [d, e]) : ∃ v w, vs = [v, w] ∧ Rep K r F v d ∧ Rep K r F w e := by
  cases p with
  | cons p q => obtain ⟨w, rfl, pw⟩ := rep1 q; exact ⟨_, _, rfl, p, pw⟩
theorem sc_pLen {K : PySem.W.Frag} {W : WX} : SC K W (RE K) (Evl.rLenS K) pLen := fun xs m res m' e r F H σ vs hr p => by
  unfold pLen at e
  split at e
  · rename_i d
    cases h0 : rdS m d with
    | none => rw [h0] at e; cases e
    | some ds =>
      rw [h0] at e; cases e
      obtain ⟨v, rfl, pv⟩ := rep1 p
      obtain ⟨a, ws, rfl, hs, ra⟩ := rdS_get h0 hr pv
      refine fun Q q => ⟨_, _, rfl, hs, ?_⟩
      rw [ra.len]; exact q _ r F H hr (Ext.refl hr) (.int _)
  · cases e
def pMax2 : List D → Store → MX D := fun xs m => match xs with
  | [.int i, .int j] => ret (.int (max i j)) m
  | _ => none
theorem sc_pMax2 {K : PySem.W.Frag} {W : WX} : SC K W (RE K) Evl.rMax2 pMax2 := fun xs m res m' e r F H σ vs hr p => by
  unfold pMax2 at e
  split at e
  · rename_i i j
    cases e
    obtain ⟨v, w, rfl, pv, pw⟩ := rep2 p
    cases pv; cases pw
    have z : (if j > i then j else i) = max i j := by split <;> omega
    refine fun Q q => ⟨i, j, rfl, ?_⟩
    rw [z]; exact q _ r F H hr (Ext.refl hr) (.int _)
  · cases e
def pMin2 : List D → Store → MX D := fun xs m => match xs with
  | [.int i, .int j] => ret (.int (min i j)) m
  | _ => none
theorem sc_pMin2 {K : PySem.W.Frag} {W : WX} : SC K W (RE K) rMin2 pMin2 := fun xs m res m' e r F H σ vs hr p => by
  unfold pMin2 at e
  split at e
  · rename_i i j
    cases e
    obtain ⟨v, w, rfl, pv, pw⟩ := rep2 p
    cases pv; cases pw
    have z : (if j < i then j else i) = min i j := by split <;> omega
    refine fun Q q => ⟨i, j, rfl, ?_⟩
    rw [z]; exact q _ r F H hr (Ext.refl hr) (.int _)
  · cases e
def pMax3 : List D → Store → MX D := fun xs m => match xs with
  | [.int i, .int j, .int k] => ret (.int (max (max i j) k)) m
  | _ => none
theorem sc_pMax3 {K : PySem.W.Frag} {W : WX} : SC K W (RE K) (rNuC3 nuMax3) pMax3 := fun xs m res m' e r F H σ vs hr p => by
  unfold pMax3 at e
  split at e
  · cases e
    exact y_max3 r F H vs hr p
  · cases e
def pMin3 : List D → Store → MX D := fun xs m => match xs with
  | [.int i, .int j, .int k] => ret (.int (min (min i j) k)) m
  | _ => none
theorem sc_pMin3 {K : PySem.W.Frag} {W : WX} : SC K W (RE K) (rNuC3 nuMin3) pMin3 := fun xs m res m' e r F H σ vs hr p => by
  unfold pMin3 at e
  split at e
  · cases e
    exact y_min3 r F H vs hr p
  · cases e
/-! ### lists of numbers, of truths -/
def toInts : List D → Option (List Int)
  | [] => some []
  | .int i :: ds => (toInts ds).map fun ns => i :: ns
  | _ :: _ => none
def bools : List D → Option (List Bool)
  | [] => some []
  | .bl i :: ds => (bools ds).map fun ns => i :: ns
  | _ :: _ => none
theorem toInts_eq : ∀ {ds : List D} {ns : List Int}, toInts ds = some ns → ds = ns.map D.int
  | [], _, h => by cases h; rfl
  | d :: ds, ns, h => by
    cases d with
    | int i =>
      unfold toInts at h
      cases q : toInts ds with
      | none => rw [q] at h; cases h
      | some ms => rw [q] at h; cases h; rw [toInts_eq q]; rfl
    | _ => cases h
theorem bools_eq : ∀ {ds : List D} {ns : List Bool}, bools ds = some ns → ds = ns.map D.bl
  | [], _, h => by cases h; rfl
  | d :: ds, ns, h => by
    cases d with
    | bl i =>
      unfold bools at h
      cases q : bools ds with
      | none => rw [q] at h; cases h
      | some ms => rw [q] at h; cases h; rw [bools_eq q]; rfl
    | _ => cases h
theorem toInts_map : ∀ ns : List Int, toInts (ns.map D.int) = some ns
  | [] => rfl
  | n :: ns => by
    show (toInts (ns.map D.int)).map _ = _
    rw [toInts_map ns]; rfl
theorem bools_map : ∀ ns : List Bool, bools (ns.map D.bl) = some ns
  | [] => rfl
  | n :: ns => by
    show (bools (ns.map D.bl)).map _ = _
    rw [bools_map ns]; rfl
def pAll : List D → Store → MX D := fun xs m => match xs with
  | [d] => (rdQ m d).bind fun ds => (bools ds).bind fun ns => ret (.bl (ns.all id)) m
  | _ => none
theorem sc_pAll {K : PySem.W.Frag} {W : WX} : SC K W (RE K) (rAll K) pAll := fun xs m res m' e r F H σ vs hr p => by
  unfold pAll at e
  split at e
  · rename_i d
    cases h0 : rdQ m d with
    | none => rw [h0] at e; cases e
    | some ds =>
      rw [h0] at e
      simp only [Option.bind_some] at e
      cases h1 : bools ds with
      | none => rw [h1] at e; cases e
      | some ns =>
        rw [h1] at e; cases e
        cases bools_eq h1
        obtain ⟨v, rfl, pv⟩ := rep1 p
        obtain ⟨a, ws, rfl, hs, ra⟩ := rdQ_get h0 hr pv
        cases ra.bls
        exact fun Q q => ⟨_, _, rfl, hs, q _ r F H hr (Ext.refl hr) (.bl _)⟩
  · cases e
end DL
namespace DL
open PySem PySem.Spec PyProof.Rows L2
section
variable {K : PySem.W.Frag} {W : WX} {ta tb tc : TE} {tas : TA} {a b c : ME} {as : MA}
/-- new lists of two values -/
def S2F (K : PySem.W.Frag) (W : WX) (rr : R2) (o : D → D → Store → MX FT) : Prop := ∀ x y m res m', o x y m = some (res, m') → ∀ r F H σ vx vy, HR K r F H m → Rep K r F vx x → Rep K r F vy y → JAt K W (RF K) r F H σ m (rr vx vy) res m'
def fOp (o : D → D → Store → MX FT) (a b : ME) : MF := fun δ m => (a δ m).bind fun x m => (b δ m).bind fun y m => o x y m
theorem so_fop {rr : R2} {o : D → D → Store → MX FT} (ho : S2F K W rr o) (ha : So K W (RE K) ta a) (hb : So K W (RE K) tb b) : So K W (RF K) (tOp rr ta tb) (fOp o a b) := fun δ m res m' e r F H σ hr er => by
  show JAt K W (RF K) r F H σ m (fun H Q => ta σ H fun x H1 => tb σ H1 fun y H2 => rr x y H2 Q) res m'
  rcases bind_some e with ⟨x, m1, e1, e2⟩ | ⟨y, e1, rfl⟩
  · refine (ha δ m _ _ e1 r F H σ hr er).bind rf_mon hr fun v r1 F1 H1 hr1 x1 rv => ?_
    rcases bind_some e2 with ⟨y, m2, e3, e4⟩ | ⟨y, e3, rfl⟩
    · refine (hb δ m1 _ _ e3 r1 F1 H1 σ hr1 (er.ext x1)).bind rf_mon hr1 fun w r2 F2 H2 hr2 x2 rw => ?_
      exact ho x y m2 res m' e4 r2 F2 H2 σ v w hr2 (rv.mono x2.pre x2.sub) rw
    · exact (hb δ m1 _ _ e3 r1 F1 H1 σ hr1 (er.ext x1)).thrown
  · exact (ha δ m _ _ e1 r F H σ hr er).thrown
def pCat : D → D → Store → MX FT := fun x y m => (rdL m x).bind fun xs => (rdL m y).bind fun ys => if xs.length + ys.length ≤ 100000 then ret (.own (xs ++ ys)) m else none
theorem s2_pCat : S2F K W rCat pCat := fun x y m res m' e r F H σ vx vy hr px py => by
  unfold pCat at e
  cases h1 : rdL m x with
  | none => rw [h1] at e; cases e
  | some xs =>
    rw [h1] at e
    cases h2 : rdL m y with
    | none => rw [h2] at e; cases e
    | some ys =>
      rw [h2] at e
      simp only [Option.bind_some] at e
      split at e
      · rename_i hl
        cases e
        obtain ⟨a, vs, rfl, e1, r1⟩ := rdL_get h1 hr px
        obtain ⟨b, ws, rfl, e2, r2⟩ := rdL_get h2 hr py
        exact fun Q q => ⟨a, b, vs, ws, rfl, rfl, e1, e2, Evl.sz_of (by rw [r1.len, r2.len]; exact hl), fun p hp => let ⟨q1, q2, q3⟩ := rf_new hr hp (r1.app r2); q _ r F _ q1 q2 q3⟩
      · cases e
theorem RepAll.flat {r : List Addr} {F : Hp} {vs : List V} {ds : List D} (h : RepAll K r F vs ds) : ∀ n : Nat, RepAll K r F (List.replicate n vs).flatten (List.replicate n ds).flatten
  | 0 => .nil
  | n + 1 => by
    rw [List.replicate_succ, List.replicate_succ, List.flatten_cons, List.flatten_cons]
    exact h.app (RepAll.flat h n)
def Rg62 (n : Int) : Prop := -(2 ^ 62) ≤ n ∧ n < 2 ^ 62
theorem rg62 {n : Int} (h1 : -1000000000000 ≤ n) (h2 : n ≤ 1000000000000) : Rg62 n := by
  unfold Rg62
  omega
/-- slices -/
abbrev MO := En → Store → MX (Option Int)
def oNone : MO := fun _ m => ret none m
def oSome (e : ME) : MO := fun δ m => (e δ m).bind fun x m => match x with
  | .int i => ret (some i) m
  | _ => none
theorem so_none : So K W RO tNoPart oNone := fun δ m res m' e r F H σ hr er => by cases e; exact fun Q q => q none r F H hr (Ext.refl hr) rfl
theorem so_some (h : So K W (RE K) ta a) : So K W RO (tPart ta) (oSome a) :=
  So.bind ro_mon h (k := fun (x : D) δ m => match x with
    | .int i => ret (some i) m
    | _ => none) (u := fun (x : V) σ H Q => ∃ i, x = .int i ∧ Q (some i) H) fun x δ m res m' e v r F H σ _ hr er rv => by
    cases x with
    | int c => cases rv; cases e; exact fun Q q => ⟨c, rfl, q _ r F H hr (Ext.refl hr) rfl⟩
    | _ => cases e
def cutD (xs : List D) (lo hi : Option Int) : List D := (xs.drop (HT.sIx xs.length 0 lo)).take (HT.sIx xs.length xs.length hi - HT.sIx xs.length 0 lo)
theorem RepAll.cutV {r : List Addr} {F : Hp} {vs : List V} {ds : List D} (h : RepAll K r F vs ds) (lo hi : Option Int) : RepAll K r F (L2.cutV vs lo hi) (cutD ds lo hi) := by
  unfold L2.cutV cutD
  rw [h.len]
  exact (h.drop _).take _
def fSl (a : ME) (l h : MO) : MF := fun δ m => (a δ m).bind fun x m => (l δ m).bind fun lo m => (h δ m).bind fun hi m => (rdQ m x).bind fun xs => ret (.own (cutD xs lo hi)) m
theorem so_sl {tl th : TO} {l h : MO} (ha : So K W (RE K) ta a) (hl : So K W RO tl l) (hh : So K W RO th h) : So K W (RF K) (tSl (rSlL K) ta tl th) (fSl a l h) := fun δ m res m' e r F H σ hr er => by
  show JAt K W (RF K) r F H σ m (fun H Q => ta σ H fun x H1 => tl σ H1 fun lo H2 => th σ H2 fun hi H3 => rSlL K x lo hi H3 Q) res m'
  rcases bind_some e with ⟨x, m1, e1, e2⟩ | ⟨y, e1, rfl⟩
  · refine (ha δ m _ _ e1 r F H σ hr er).bind rf_mon hr fun v r1 F1 H1 hr1 x1 rv => ?_
    rcases bind_some e2 with ⟨lo, m2, e3, e4⟩ | ⟨y, e3, rfl⟩
    · refine (hl δ m1 _ _ e3 r1 F1 H1 σ hr1 (er.ext x1)).bind rf_mon hr1 fun lo' r2 F2 H2 hr2 x2 rlo => ?_
      cases rlo
      rcases bind_some e4 with ⟨hi, m3, e5, e6⟩ | ⟨y, e5, rfl⟩
      · refine (hh δ m2 _ _ e5 r2 F2 H2 σ hr2 ((er.ext x1).ext x2)).bind rf_mon hr2 fun hi' r3 F3 H3 hr3 x3 rhi => ?_
        cases rhi
        cases h0 : rdQ m3 x with
        | none => rw [h0] at e6; cases e6
        | some xs =>
          rw [h0] at e6
          cases e6
          obtain ⟨p, vs, rfl, hs, ra⟩ := rdQ_get h0 hr3 ((rv.mono x2.pre x2.sub).mono x3.pre x3.sub)
          exact fun Q q => ⟨p, vs, rfl, hs, fun p' hp' => let ⟨q1, q2, q3⟩ := rf_new hr3 hp' (ra.cutV lo hi); q _ r3 F3 _ q1 q2 q3⟩
      · exact (hh δ m2 _ _ e5 r2 F2 H2 σ hr2 ((er.ext x1).ext x2)).thrown
    · exact (hl δ m1 _ _ e3 r1 F1 H1 σ hr1 (er.ext x1)).thrown
  · exact (ha δ m _ _ e1 r F H σ hr er).thrown
def fRev (a : ME) : MF := fun δ m => (a δ m).bind fun x m => (rdQ m x).bind fun xs => ret (.own xs.reverse) m
theorem so_rev (ha : So K W (RE K) ta a) : So K W (RF K) (tRevL K ta) (fRev a) :=
  So.bind rf_mon ha (k := fun (x : D) δ m => (rdQ m x).bind fun xs => ret (FT.own xs.reverse) m) (u := fun (x : V) σ H Q => ∃ a xs, x = .ref a ∧ SqL K H a xs ∧ ∀ p, H p = none → Q (.ref p) (upd H p (.lst xs.reverse))) fun x δ m res m' e v r F H σ _ hr er rv => by
    cases h0 : rdQ m x with
    | none => rw [h0] at e; cases e
    | some xs =>
      rw [h0] at e
      cases e
      obtain ⟨p, vs, rfl, hs, ra⟩ := rdQ_get h0 hr rv
      exact fun Q q => ⟨p, vs, rfl, hs, fun p' hp' => let ⟨q1, q2, q3⟩ := rf_new hr hp' ra.rev; q _ r F _ q1 q2 q3⟩
def fCB (p : List D → Store → MX FT) (as : MA) : MF := fun δ m => (as δ m).bind fun xs m => p xs m
theorem so_fCB {rr : List V → Hp → VK → Prop} {o : List D → Store → MX FT} (ho : SC K W (RF K) rr o) (hs : So K W (RA K) tas as) : So K W (RF K) (tCB rr tas) (fCB o as) := so_cb rf_mon ho hs
def pList : List D → Store → MX FT := fun xs m => match xs with
  | [d] => (rdS m d).bind fun ds => ret (.own ds) m
  | _ => none
/-- membership, flat items -/
def flatD : D → Bool
  | .non => true
  | .bl _ => true
  | .int _ => true
  | .str _ => true
  | _ => false
def eBits (a : ME) : ME := fun δ m => (a δ m).bind fun x m => match x with
  | .int i => ret (.int (Builtin.Int.intBits i : Nat)) m
  | _ => none
theorem so_bits (ha : So K W (RE K) ta a) : So K W (RE K) (tBits ta) (eBits a) :=
  So.bind re_mon ha (k := fun (x : D) δ m => match x with
    | .int i => ret (.int (Builtin.Int.intBits i : Nat)) m
    | _ => none) (u := fun (x : V) σ H Q => ∃ i, x = .int i ∧ Q (.int (Builtin.Int.intBits i : Nat)) H) fun x δ m res m' e v r F H σ _ hr er rv => by
    cases x with
    | int i => cases rv; cases e; exact fun Q q => ⟨i, rfl, q _ r F H hr (Ext.refl hr) (.int _)⟩
    | _ => cases e
/-! ### methods of lists -/
def isLst (m : Store) (d : D) : Bool := (rdQ m d).isSome
theorem isLst_ty {m : Store} {d : D} {r : List Addr} {F H : Hp} {v : V} (h : isLst m d = true) (hr : HR K r F H m) (p : Rep K r F v d) : tyV K "list" v H := by
  unfold isLst at h
  cases h0 : rdQ m d with
  | none => rw [h0] at h; cases h
  | some xs =>
    obtain ⟨a, vs, rfl, hs, _⟩ := rdQ_get h0 hr p
    exact .inl ⟨rfl, vs, hs⟩
def eBM (p : D → List D → Store → MX D) (o : ME) (as : MA) : ME := fun δ m => (o δ m).bind fun x m => if isLst m x = true then (as δ m).bind fun xs m => p x xs m else none
def eBM0 (p : D → List D → Store → MX D) (o : ME) : ME := fun δ m => (o δ m).bind fun x m => if isLst m x = true then p x [] m else none
def SM (K : PySem.W.Frag) (W : WX) (rr : V → List V → Hp → VK → Prop) (o : D → List D → Store → MX D) : Prop := ∀ x xs m res m', o x xs m = some (res, m') → ∀ r F H σ v vs, HR K r F H m → Rep K r F v x → RepAll K r F vs xs → JAt K W (RE K) r F H σ m (rr v vs) res m'
theorem jat_and {K : PySem.W.Frag} {W : WX} {r : List Addr} {F H : Hp} {σ : L2.St} {m m' : Store} {P : Hp → Prop} {t : Hp → VK → Prop} {res : RX D} (hP : P H) (h : JAt K W (RE K) r F H σ m t res m') : JAt K W (RE K) r F H σ m (fun H Q => P H ∧ t H Q) res m' := by
  cases res with
  | ok z => exact fun Q q => ⟨hP, h Q q⟩
  | ex z => exact fun q Q => ⟨hP, h q Q⟩
theorem so_bm {rr : V → List V → Hp → VK → Prop} {p : D → List D → Store → MX D} (hp : SM K W rr p) (ho : So K W (RE K) ta a) (hs : So K W (RA K) tas as) : So K W (RE K) (tBM K "list" rr ta tas) (eBM p a as) :=
  So.bind re_mon ho (k := fun (x : D) δ m => if isLst m x = true then (as δ m).bind fun xs m => p x xs m else none) (u := fun (x : V) σ H Q => tyV K "list" x H ∧ tas σ H fun xs H2 => rr x xs H2 Q) fun x δ m res m' e v r F H σ _ hr er rv => by
    split at e
    · rename_i hl
      refine jat_and (P := fun H => tyV K "list" v H) (isLst_ty hl hr rv) ?_
      rcases bind_some e with ⟨xs, m1, e1, e2⟩ | ⟨y, e1, rfl⟩
      · exact (hs δ m _ _ e1 r F H σ hr er).bind re_mon hr fun vs r1 F1 H1 hr1 x1 rvs => hp x xs m1 res m' e2 r1 F1 H1 σ v vs hr1 (rv.mono x1.pre x1.sub) rvs
      · exact (hs δ m _ _ e1 r F H σ hr er).thrown
    · cases e
/-- the cell's list -/
def cellL (m : Store) : D → Option (Nat × List D)
  | .cell k => match m[k]? with
    | some (.lst xs) => some (k, xs)
    | _ => none
  | _ => none
theorem cellL_get {m : Store} {d : D} {r : List Addr} {F H : Hp} {v : V} {k : Nat} {xs : List D} (h : cellL m d = some (k, xs)) (hr : HR K r F H m) (p : Rep K r F v d) : ∃ a vs, v = .ref a ∧ r[k]? = some a ∧ m[k]? = some (.lst xs) ∧ H a = some (.lst vs) ∧ RepAll K r F vs xs := by
  cases d with
  | cell k' =>
    unfold cellL at h
    dsimp only at h
    split at h
    · rename_i ys e
      cases h
      cases p with
      | cell ea =>
        obtain ⟨_, vs, h1, h2⟩ := hr.cell _ _ _ ea e rfl
        exact ⟨_, _, rfl, ea, e, h1, h2⟩
    · cases h
  | _ => cases h
theorem putL {r : List Addr} {F H : Hp} {m : Store} {k : Nat} {a : Addr} {vs ws : List V} {xs ys : List D} (hr : HR K r F H m) (ea : r[k]? = some a) (hk : m[k]? = some (.lst xs)) (h1 : H a = some (.lst vs)) (q : RepAll K r F ws ys) :
    HR K r F (upd H a (.lst ws)) (m.set k (.lst ys)) ∧ Ext r F H m r F (upd H a (.lst ws)) (m.set k (.lst ys)) :=
  have lv : live m k := ⟨_, hk, rfl⟩
  ⟨hr.put lv ea (fun b z => by rw [h1] at z; cases z) ⟨_, upd_same, q⟩, Ext.put hr lv ea⟩
def pAppend : D → List D → Store → MX D := fun x as m => match as with
  | [d] => (cellL m x).bind fun p => if p.2.length < 100000 then ret .non (m.set p.1 (.lst (p.2 ++ [d]))) else none
  | _ => none
theorem sm_pAppend : SM K W rAppend pAppend := fun x xs m res m' e r F H σ v vs hr px ps => by
  unfold pAppend at e
  split at e
  · rename_i d
    cases h0 : cellL m x with
    | none => rw [h0] at e; cases e
    | some p =>
      obtain ⟨k, ys⟩ := p
      rw [h0] at e
      simp only [Option.bind_some] at e
      split at e
      · rename_i hl
        cases e
        obtain ⟨a, ws, rfl, ea, hk, h1, h2⟩ := cellL_get h0 hr px
        obtain ⟨y, rfl, py⟩ := rep1 ps
        obtain ⟨z1, z2⟩ := putL hr ea hk h1 (h2.app (.one py))
        exact fun Q q => ⟨_, ws, y, rfl, rfl, h1, Evl.sz_lt (by rw [h2.len]; exact hl), q _ r F _ z1 z2 .non⟩
      · cases e
  · cases e
def pReverse : D → List D → Store → MX D := fun x as m => match as with
  | [] => (cellL m x).bind fun p => ret .non (m.set p.1 (.lst p.2.reverse))
  | _ => none
theorem RepAll.erase {r : List Addr} {F : Hp} : ∀ {vs : List V} {ds : List D} (i : Nat), RepAll K r F vs ds → RepAll K r F (vs.eraseIdx i) (ds.eraseIdx i)
  | _, _, _, .nil => .nil
  | _, _, 0, .cons _ t => t
  | _, _, i + 1, .cons q t => .cons q (RepAll.erase i t)
end
/-- xs[i] = e -/
def sSetI (e o i : ME) : MS := fun δ m => (e δ m).run δ fun d m => (o δ m).run δ fun x m => (i δ m).run δ fun y m => match y with
  | .int k => (cellL m x).bind fun p => (ixN p.2.length k).bind fun j => some (.nx δ (m.set p.1 (.lst (p.2.set j d))))
  | _ => none
theorem ss_setI {K : PySem.W.Frag} {te to ti : WX → TE} {e o i : ME} (he : ∀ W, So K W (RE K) (te W) e) (ho : ∀ W, So K W (RE K) (to W) o) (hi : ∀ W, So K W (RE K) (ti W) i) : SS K (fun W => tAsg (te W) (gSub (to W) (ti W) rSetL)) (sSetI e o i) := fun W δ m out q r F H σ D hr er h => by
  show te W σ H fun v H1 => to W σ H1 fun o H2 => ti W σ H2 fun i H3 => rSetL o i v H3 fun H4 => D.nx σ H4
  rcases run_some q with ⟨d, m1, e1, q⟩ | ⟨y, m1, e1, rfl⟩
  · refine he W δ m _ _ e1 r F H σ hr er _ fun v r1 F1 H1 hr1 x1 rv => ?_
    have er1 := er.ext x1
    rcases run_some q with ⟨x, m2, e2, q⟩ | ⟨y, m2, e2, rfl⟩
    · refine ho W δ m1 _ _ e2 r1 F1 H1 σ hr1 er1 _ fun ov r2 F2 H2 hr2 x2 rx => ?_
      have er2 := er1.ext x2
      have x02 := x1.trans hr1.len hr.len x2
      rcases run_some q with ⟨y, m3, e3, q⟩ | ⟨y, m3, e3, rfl⟩
      · refine hi W δ m2 _ _ e3 r2 F2 H2 σ hr2 er2 _ fun iv r3 F3 H3 hr3 x3 ry => ?_
        have er3 := er2.ext x3
        have x03 := x02.trans hr2.len hr.len x3
        cases y with
        | int k =>
          dsimp only at q
          cases h0 : cellL m3 x with
          | none => rw [h0] at q; cases q
          | some p =>
            obtain ⟨kk, ys⟩ := p
            rw [h0] at q
            simp only [Option.bind_some] at q
            cases hj : ixN ys.length k with
            | none => rw [hj] at q; cases q
            | some j =>
              rw [hj] at q
              cases q
              cases ry
              obtain ⟨a, ws, rfl, ea, hk, h1, h2⟩ := cellL_get h0 hr3 (rx.mono x3.pre x3.sub)
              obtain ⟨z1, z2⟩ := putL hr3 ea hk h1 (h2.set ((rv.mono x2.pre x2.sub).mono x3.pre x3.sub) j)
              exact ⟨a, ws, k, j, rfl, rfl, h1, by rw [h2.len]; exact hj, h σ r3 F3 _ z1 er3 (x03.trans hr3.len hr.len z2)⟩
        | _ => cases q
      · exact hi W δ m2 _ _ e3 r2 F2 H2 σ hr2 er2 (fun r' F' H' hr' x' => h σ r' F' H' hr' (er2.ext x') (x02.trans hr2.len hr.len x')) _
    · exact ho W δ m1 _ _ e2 r1 F1 H1 σ hr1 er1 (fun r' F' H' hr' x' => h σ r' F' H' hr' (er1.ext x') (x1.trans hr1.len hr.len x')) _
  · exact he W δ m _ _ e1 r F H σ hr er (fun r' F' H' hr' x' => h σ r' F' H' hr' (er.ext x') x') _
/-- x += e of a name -/
def sAug (i : Nat) (f : Int → Int → Int) (e : ME) : MS := fun δ m => match δ[i]? with
  | some (some (.int a)) => (e δ m).run δ fun d m => match d with
    | .int b => some (.nx (δ.set i (some (.int (f a b)))) m)
    | _ => none
  | _ => none
/-! ### what is walked -/
section
variable {K : PySem.W.Frag} {W : WX} {ta : TE} {tas : TA} {a : ME} {as : MA}
def srcOf : D → List D → List (Nat × List D)
  | .cell k, xs => [(k, xs)]
  | _, _ => []
def wList (e : ME) : MI := fun δ m => (e δ m).bind fun x m => (rdQ m x).bind fun xs => ret ⟨xs, srcOf x xs⟩ m
/-- while the walk's source stays, it reads the same -/
theorem src_stays {m m' : Store} {d : D} {xs : List D} (h : rdQ m d = some xs) (hc : ∀ p ∈ srcOf d xs, m'[p.1]? = some (.lst p.2)) : rdQ m' d = some xs := by
  cases d with
  | lst ys => exact h
  | scr ns => exact h
  | cell k =>
    have := hc (k, xs) (by simp [srcOf])
    show (match m'[k]? with | some (.lst xs) => some xs | _ => none) = some xs
    rw [this]
  | _ => cases h
theorem so_wList (he : So K W (RE K) ta a) : So K W (RI K) (iList K ta) (wList a) :=
  So.bind ri_mon he (k := fun (x : D) δ m => (rdQ m x).bind fun xs => ret (Wk.mk xs (srcOf x xs)) m) (u := fun (x : V) σ H R => ∃ a, x = .ref a ∧ (∃ xs, SqL K H a xs) ∧ R (Itl K a) H) fun x δ m res m' e v r F H σ _ hr er rv => by
    cases h0 : rdQ m x with
    | none => rw [h0] at e; cases e
    | some xs =>
      rw [h0] at e
      cases e
      obtain ⟨p, vs, rfl, hs, _⟩ := rdQ_get h0 hr rv
      refine fun Q q => ⟨_, rfl, ⟨_, hs⟩, q _ r F H hr (Ext.refl hr) fun r' F' H' m' pr sm hr' hC i => ?_⟩
      obtain ⟨p', ws, ep, hs', ra⟩ := rdQ_get (src_stays h0 hC) hr' (rv.mono pr sm)
      cases ep
      refine ⟨fun d hd => ?_, fun hi => ⟨_, hs', by rw [ra.len]; exact hi⟩⟩
      obtain ⟨v, e1, p1⟩ := ra.get hd
      refine ⟨⟨_, v, hs', e1⟩, fun x H'' y => ?_⟩
      obtain ⟨rfl, y⟩ := y
      have := y _ hs'
      rw [e1] at this; cases this
      exact ⟨F', hr', Ext.refl hr', p1⟩
def wTup (e : ME) : MI := fun δ m => (e δ m).bind fun x m => match x with
  | .tup xs => ret ⟨xs, []⟩ m
  | _ => none
open Classical in
noncomputable def wRng1 (as : MA) : MI := fun δ m => (as δ m).bind fun xs m => match xs with
  | [.int n] => if Rg62 n then ret ⟨rng 0 n.toNat, []⟩ m else none
  | _ => none
open Classical in
theorem so_wRng1 (hs : So K W (RA K) tas as) : So K W (RI K) (iRng1 tas) (wRng1 as) :=
  So.bind ri_mon hs (k := fun (xs : List D) δ m => match xs with
    | [.int n] => if Rg62 n then ret (Wk.mk (rng 0 n.toNat) []) m else none
    | _ => none) (u := fun (vs : List V) σ H R => ∃ j : Int, vs = [.int j] ∧ -(2 ^ 62) ≤ j ∧ j < 2 ^ 62 ∧ R (Itr 0 j.toNat) H) fun x δ m res m' e v r F H σ _ hr er rv => by
    split at e
    · rename_i n
      split at e
      · rename_i hn
        cases e
        obtain ⟨w, rfl, pw⟩ := rep1 rv
        cases pw
        exact fun Q q => ⟨n, rfl, hn.1, hn.2, q _ r F H hr (Ext.refl hr) itr_ok⟩
      · cases e
    · cases e
open Classical in
noncomputable def wRng2 (as : MA) : MI := fun δ m => (as δ m).bind fun xs m => match xs with
  | [.int a, .int b] => if Rg62 a ∧ Rg62 b then ret ⟨rng a (b - a).toNat, []⟩ m else none
  | _ => none
open Classical in
theorem so_wRng2 (hs : So K W (RA K) tas as) : So K W (RI K) (iRng2 tas) (wRng2 as) :=
  So.bind ri_mon hs (k := fun (xs : List D) δ m => match xs with
    | [.int a, .int b] => if Rg62 a ∧ Rg62 b then ret (Wk.mk (rng a (b - a).toNat) []) m else none
    | _ => none) (u := fun (vs : List V) σ H R => ∃ i j : Int, vs = [.int i, .int j] ∧ (-(2 ^ 62) ≤ i ∧ i < 2 ^ 62 ∧ -(2 ^ 62) ≤ j ∧ j < 2 ^ 62) ∧ R (Itr i (j - i).toNat) H) fun x δ m res m' e v r F H σ _ hr er rv => by
    split at e
    · rename_i n k
      split at e
      · rename_i hn
        cases e
        obtain ⟨w, w2, rfl, pw, pw2⟩ := rep2 rv
        cases pw; cases pw2
        exact fun Q q => ⟨n, k, rfl, ⟨hn.1.1, hn.1.2, hn.2.1, hn.2.2⟩, q _ r F H hr (Ext.refl hr) itr_ok⟩
      · cases e
    · cases e
/-- enumerate(xs), zip(xs, ys) -/
def enumD : Nat → List D → List D
  | _, [] => []
  | n, x :: xs => .tup [.int n, x] :: enumD (n + 1) xs
def zipD : List D → List D → List D
  | x :: xs, y :: ys => .tup [x, y] :: zipD xs ys
  | _, _ => []
theorem zipD_get : ∀ {xs ys : List D} {i : Nat} {d : D}, (zipD xs ys)[i]? = some d → ∃ x y, xs[i]? = some x ∧ ys[i]? = some y ∧ d = .tup [x, y]
  | [], _, _, _, h => by simp [zipD] at h
  | _ :: _, [], _, _, h => by simp [zipD] at h
  | x :: xs, y :: ys, 0, d, h => by simp [zipD] at h; exact ⟨x, y, rfl, rfl, h.symm⟩
  | x :: xs, y :: ys, i + 1, d, h => by
    simp [zipD] at h
    obtain ⟨a, b, h1, h2, h3⟩ := zipD_get h
    exact ⟨a, b, by simpa using h1, by simpa using h2, h3⟩
theorem zipD_len : ∀ (xs ys : List D), (zipD xs ys).length = min xs.length ys.length
  | [], ys => by simp [zipD]
  | _ :: _, [] => by simp [zipD]
  | x :: xs, y :: ys => by simp [zipD, zipD_len xs ys]
def wEnum (as : MA) : MI := fun δ m => (as δ m).bind fun ds m => match ds with
  | [d] => (rdQ m d).bind fun xs => ret ⟨enumD 0 xs, srcOf d xs⟩ m
  | _ => none
def wZip (as : MA) : MI := fun δ m => (as δ m).bind fun ds m => match ds with
  | [d, e] => (rdQ m d).bind fun xs => (rdQ m e).bind fun ys => ret ⟨zipD xs ys, srcOf d xs ++ srcOf e ys⟩ m
  | _ => none
theorem so_wZip (hs : So K W (RA K) tas as) : So K W (RI K) (iZip K tas) (wZip as) :=
  So.bind ri_mon hs (k := fun (ds : List D) δ m => match ds with
    | [d, e] => (rdQ m d).bind fun xs => (rdQ m e).bind fun ys => ret (Wk.mk (zipD xs ys) (srcOf d xs ++ srcOf e ys)) m
    | _ => none) (u := fun (vs : List V) σ H R => ∃ a b xs ys, vs = [.ref a, .ref b] ∧ SqL K H a xs ∧ SqL K H b ys ∧ R (Itz K a b) H) fun x δ m res m' e v r F H σ _ hr er rv => by
    split at e
    · rename_i d d2
      cases h0 : rdQ m d with
      | none => rw [h0] at e; cases e
      | some xs =>
        rw [h0] at e
        simp only [Option.bind_some] at e
        cases h1 : rdQ m d2 with
        | none => rw [h1] at e; cases e
        | some ys =>
          rw [h1] at e
          cases e
          obtain ⟨w, w2, rfl, pw, pw2⟩ := rep2 rv
          obtain ⟨p, vs, rfl, hs, _⟩ := rdQ_get h0 hr pw
          obtain ⟨p2, vs2, rfl, hs2, _⟩ := rdQ_get h1 hr pw2
          refine fun Q q => ⟨_, _, _, _, rfl, hs, hs2, q _ r F H hr (Ext.refl hr) fun r' F' H' m' pr sm hr' hC i => ?_⟩
          obtain ⟨p', ws, ep, hs', ra⟩ := rdQ_get (src_stays h0 fun p hp => hC p (List.mem_append_left _ hp)) hr' (pw.mono pr sm)
          cases ep
          obtain ⟨p', ws2, ep, hs2', ra2⟩ := rdQ_get (src_stays h1 fun p hp => hC p (List.mem_append_right _ hp)) hr' (pw2.mono pr sm)
          cases ep
          refine ⟨fun d hd => ?_, fun hi => ⟨_, _, hs', hs2', by rw [ra.len, ra2.len]; rw [zipD_len] at hi; omega⟩⟩
          obtain ⟨z, z2, hz, hz2, rfl⟩ := zipD_get hd
          obtain ⟨v, e1, p1⟩ := ra.get hz
          obtain ⟨v2, e2, p2⟩ := ra2.get hz2
          refine ⟨⟨_, _, v, v2, hs', hs2', e1, e2⟩, fun x H'' y => ?_⟩
          obtain ⟨T, x, x2, rfl, hT, rfl, y, y2⟩ := y
          have q1 := y _ hs'
          rw [e1] at q1; cases q1
          have q2 := y2 _ hs2'
          rw [e2] at q2; cases q2
          have e1 := Ext.laid hr' (o := .tup [v, v2]) hT
          exact ⟨_, hr'.laid hT, e1, .tup upd_same (.cons (p1.mono (Pre.refl _) e1.sub) (.cons (p2.mono (Pre.refl _) e1.sub) .nil))⟩
    · cases e
end
end DL
namespace DL
open PySem PySem.Spec PyProof.Rows L2
/-! ### isinstance of built-in types -/
def tyN (m : Store) : D → Option String
  | .non => some "NoneType"
  | .bl _ => some "bool"
  | .int _ => some "int"
  | .str _ => some "str"
  | .lst _ => some "list"
  | .tup _ => some "tuple"
  | .cell k => match m[k]? with
    | some (.lst _) => some "list"
    | _ => none
  | _ => none
def isTy (n c : String) : Bool := decide (n = c) || (decide (n = "bool") && decide (c = "int"))
def eIsT (c : String) (a : ME) : ME := fun δ m => (a δ m).bind fun x m => (tyN m x).bind fun n => ret (.bl (isTy n c)) m
/-! ### errors -/
def isXk (c y : Str) : Bool := decide (c = "ShelfError") || (decide (c = "ValueError") || decide (y = c))
def eIsX (ns : List Str) (c : Str) (a : ME) : ME := fun δ m => (a δ m).bind fun x m => match x with
  | .exc y => if y = "ShelfError" ∨ y ∈ ns then ret (.bl (isXk c y)) m else none
  | .non => ret (.bl false) m
  | _ => none
/-- what isinstance asks of a class, by its name -/
structure CK (K : PySem.W.Frag) (ns : List Str) (c : Str) (cv : V) (cu : Value) : Prop where
  cls : ClsV cv cu
  one : ∀ y : Str, y = ("ShelfError" : Str) ∨ y ∈ ns → PySem.W.kitOne K (.ref (ga K y)) cu = some (isXk c y)
  non : PySem.W.kitOne K (.type "NoneType") cu = some false
theorem ck_ve {K : PySem.W.Frag} {ns : List Str} (xs : Xs K ns) : CK K ns "ValueError" (.ty "ValueError") (.type "ValueError") :=
  ⟨.ty _, fun y hy => by
    rcases hy with rfl | hy
    · exact xs.up.v
    · exact (xs.one y hy).v, xs.nv⟩
theorem ck_one {K : PySem.W.Frag} {ns : List Str} (xs : Xs K ns) {c : Str} (hc : c ∈ ns) (h1 : c ≠ "ShelfError" ∧ c ≠ "ValueError") : CK K ns c (.ref (ga K c)) (.ref (ga K c)) :=
  ⟨.own _, fun y hy => by
    have e : isXk c y = decide (y = c) := by unfold isXk; rw [decide_eq_false h1.1, decide_eq_false h1.2]; rfl
    rw [e]
    rcases hy with rfl | hy
    · rw [xs.down c hc, decide_eq_false (fun z => h1.1 z.symm)]
    · exact xs.kit y hy c hc, (xs.one c hc).n⟩
theorem so_isX {K : PySem.W.Frag} {W : WX} {ta : TE} {a : ME} {ns : List Str} {c : Str} {cv : V} {cu : Value} (xs : Xs K ns) (ck : CK K ns c cv cu) (ha : So K W (RE K) ta a) : So K W (RE K) (tCB (rIsA K) (tCons ta (tCons (tC cv) tNil))) (eIsX ns c a) :=
  So.bind re_mon ha (k := fun (x : D) δ m => match x with
    | .exc y => if y = "ShelfError" ∨ y ∈ ns then ret (.bl (isXk c y)) m else none
    | .non => ret (.bl false) m
    | _ => none) (u := fun (x : V) σ H Q => rIsA K [x, cv] H Q) fun x δ m res m' e v r F H σ _ hr er rv => by
    cases x with
    | exc y =>
      dsimp only at e
      split at e
      · rename_i hy
        cases e
        cases rv with
        | exc h =>
          have hE : ExcC K (ga K y) := by
            rcases hy with rfl | hy
            · exact xs.up.c
            · exact (xs.one y hy).c
          exact fun Q q => .inl ⟨_, ga K y, cv, cu, _, rfl, h.imp (hr.sub _ _) (hr.sub _ _), hE, ck.cls, ck.one y hy, q _ r F H hr (Ext.refl hr) (.bl _)⟩
      · cases e
    | non =>
      cases e
      cases rv
      exact fun Q q => .inr ⟨.non, cv, .type "NoneType", cu, false, rfl, ck.cls, .base .non, ck.non, q _ r F H hr (Ext.refl hr) (.bl _)⟩
    | _ => cases e
/-- try: .. except ShelfError as i: j = i -/
def sTry (ns : List Str) (i j : Nat) (b : MS) : MS := fun δ m => match b δ m with
  | some (.ex x δ1 m1) => if x ∈ ns then some (.nx (((δ1.set i (some (.exc x))).set j (some (.exc x))).set i none) m1) else none
  | o => o
theorem ss_try {K : PySem.W.Frag} {ns : List Str} {i j : Nat} {t : WX → TS} {b : MS} (xs : Xs K ns) (hb : SS K t b) : SS K (fun _ => tTry K (.ref (ga K "ShelfError")) i j t) (sTry ns i j b) := fun W δ m o q => by
  unfold sTry at q
  cases h : b δ m with
  | none => rw [h] at q; cases q
  | some o1 =>
    rw [h] at q
    cases o1 with
    | ex x δ1 m1 =>
      dsimp only at q
      split at q
      · rename_i hx
        cases q
        exact ys_tryX (fun W' => hb W' δ m _ h) (xs.exm x hx)
      · cases q
    | nx δ1 m1 => cases q; exact fun r F H σ D hr er k => hb _ δ m _ h r F H σ D hr er k
    | rt d m1 => cases q; exact fun r F H σ D hr er k => hb _ δ m _ h r F H σ D hr er k
    | bk δ1 m1 => cases q; exact fun r F H σ D hr er k => hb _ δ m _ h r F H σ D hr er k
    | ct δ1 m1 => cases q; exact fun r F H σ D hr er k => hb _ δ m _ h r F H σ D hr er k
/-! ### sorted -/
def isort (ns : List Int) : List Int := ns.mergeSort fun a b => decide (a ≤ b)
theorem isort_perm (ns : List Int) : (isort ns).Perm ns := List.mergeSort_perm _ _
theorem isort_sorted (ns : List Int) : (isort ns).Pairwise (· ≤ ·) := by
  have := List.pairwise_mergeSort (le := fun a b : Int => decide (a ≤ b)) (fun a b c h1 h2 => by simp at *; omega) (fun a b => by simp; omega) ns
  exact this.imp fun h => by simpa using h
abbrev Sp2 := Int × Int
def eS (s : Sp2) : D := .tup [.int s.1, .int s.2]
/-! ### callees, the law's own call -/
theorem fn_okG {CX : CXT} {P : Program} {w : World} {K : PySem.W.Frag} {mg : Str → Option Value} {base : Heap} {x qual : Str} {params : Arguments} {body : List Stmt} {scope : Scope} {f : Addr} {fd : FuncData} {N ps : List Str} {k n kk : Nat} {b : MS} {ff : FnS}
    (F : FunD K x qual params body scope [] [] f fd) (sc : FnScope N ps scope) (t : WX → TS)
    (hP : ∀ (cdv : Value) (A : Around) (outer : List Env) (s : Shared) (H : Hp) (E : XK), Room k (A.deeper (envOfC qual scope s.heap.objs.size f cdv)) → PSs (cxOf CX P w K mg base N qual scope f cdv A outer s H E) body (t fun cls d _ H' => E cls d H'))
    (hS : SS K t b) (hf : ff = fnOf n kk b) (hn : ps.length = n) (hk : N.length = kk) : FnOk P w K mg base CX (k + 1) f fd ps (spF K ff) := by
  subst hf hn hk
  exact fn_okF F sc t hP hS
def CalF (P : Program) (w : World) (K : PySem.W.Frag) (mg : Str → Option Value) (base : Heap) (x : Str) (k : Nat) (ps : List Str) (f : FnS) : Prop :=
  ∃ fd, FnOk P w K mg base (L2.CX P w) k (He.ga K x) fd ps (spF K f) ∧ Binds K fd ps [] ∧ PySem.W.keepIn K (.ref (He.ga K x)) = true ∧ mg x = some (.ref (He.ga K x))
section
variable {X : Cx} {k : Nat} {ps : List Str} {f : FnS} {x : Str} {p pos : Pos} {e : Expr} {es : List Expr} {t : TA}
theorem pc_own {j : Nat} (C : CalF X.prog X.w X.K X.mg X.base x j ps f) (hr : Room j X.A) (hg : Gl X x) (ha : PA X (e :: es) t) (hdb : (x == ("__debug__" : Str)) = false := by decide)
    (he : starEach (e :: es) X.env = (false, eval e X.env) :: starEach es X.env := by rfl) (hpl : (backTo pos (starEach es X.env)).any (·.1) = false := by rfl) : PE X (.Call (.Name x p) (e :: es) [] pos) (tCall (spF X.K f) [] E0 t) := by
  obtain ⟨fd, F, b, kp, m⟩ := C
  exact pe_call F hr hg m kp b .nil passL ha hdb he hpl
theorem pc_ownS {j : Nat} {W : WX} (C : CalF X.prog X.w X.K X.mg X.base x j ps f) (tk : Takes X W) (hr : Room j X.A) (hg : Gl X x) (ha : PA X (e :: es) t) (hdb : (x == ("__debug__" : Str)) = false := by decide)
    (he : starEach (e :: es) X.env = (false, eval e X.env) :: starEach es X.env := by rfl) (hpl : (backTo pos (starEach es X.env)).any (·.1) = false := by rfl) : PE X (.Call (.Name x p) (e :: es) [] pos) (tCallS (spF X.K f) (WE W) t) := by
  obtain ⟨fd, F, b, kp, m⟩ := C
  exact pe_callS F hr hg m kp b (fun σ => passAt tk σ) ha hdb he hpl
end
theorem law_startF {K : PySem.W.Frag} {f : FnS} {H : Hp} {a : Addr} {ns : List Int} (hS : SqL K H a (ns.map V.int)) {m' : Store} (h : f [.scr ns] [] = some (.ok (.pl (.bl true)), m')) : spF K f [.ref a] H (fun v _ => v = .bl true) (fun _ _ _ => False) :=
  ⟨[], H, [], [.scr ns], .ok (.pl (.bl true)), m', ⟨rfl, Same.refl _, fun k a c e => by simp at e, fun k l a e => by simp at e, fun k a kvs e => by simp at e, fun k l a x y e => by simp at e⟩, .cons (.scr hS) .nil, h, fun v r F H _ _ p => by
    obtain ⟨as, ⟨p, _⟩, _⟩ := p
    cases p; rfl⟩
end DL
/-! Plain proofs about evaluators: what holds behind a run. -/
namespace DL
open PySem PySem.Spec PyProof.Rows L2
def wp {α : Type} (x : MX α) (Q : RX α → Store → Prop) : Prop := match x with
  | some (r, m) => Q r m
  | none => False
def ws (x : Option OT) (Q : OT → Prop) : Prop := match x with
  | some o => Q o
  | none => False
section
variable {α β : Type} {a : α} {m : Store} {x : MX α} {Q Q' : RX α → Store → Prop} {o : OT} {R R' : OT → Prop} {y : Option OT} {δ : En}
theorem wp_some {r : RX α} : wp (some (r, m)) Q = Q r m := rfl
theorem ws_some : ws (some o) R = R o := rfl
theorem ws_mono (h : ws y R) (k : ∀ o, R o → R' o) : ws y R' := by
  cases y with
  | none => exact h
  | some p => exact k _ h
theorem wp_get (h : wp x Q) : ∃ r m, x = some (r, m) ∧ Q r m := by
  cases x with
  | none => exact h.elim
  | some p => exact ⟨p.1, p.2, rfl, h⟩
theorem ws_get (h : ws y R) : ∃ o, y = some o ∧ R o := by
  cases y with
  | none => exact h.elim
  | some p => exact ⟨p, rfl, h⟩
theorem ws_seq {a b : MS} : ws (sSeq a b δ m) R = ws (a δ m) (fun o => match o with | .nx δ m => ws (b δ m) R | o => R o) := by
  unfold sSeq
  cases a δ m with
  | none => rfl
  | some o => cases o <;> rfl
end
theorem and_ret {b c : Bool} {m : Store} : cond b (ret (D.bl c) m) (ret (D.bl false) m) = ret (D.bl (b && c)) m := by cases b <;> rfl
theorem or_ret {b c : Bool} {m : Store} : cond b (ret (D.bl true) m) (ret (D.bl c) m) = ret (D.bl (b || c)) m := by cases b <;> rfl
theorem and_retB {b c : Bool} {m : Store} : cond b (ret c m) (ret false m) = ret (b && c) m := by cases b <;> rfl
theorem or_retB {b c : Bool} {m : Store} : cond b (ret true m) (ret c m) = ret (b || c) m := by cases b <;> rfl
theorem ws_cond {b : Bool} {x y : Option OT} {R : OT → Prop} : ws (cond b x y) R = ((b = true → ws x R) ∧ (b = false → ws y R)) := by cases b <;> simp
theorem atI_0 {α : Type} {x : α} {xs : List α} : L2.atI (x :: xs) 0 = some x := by
  rw [atI_of (by omega) (by simp <;> omega)]; rfl
theorem atI_1 {α : Type} {x y : α} {xs : List α} : L2.atI (x :: y :: xs) 1 = some y := by
  rw [atI_of (by omega) (by simp <;> omega)]; rfl
theorem atI_2 {α : Type} {x y z : α} {xs : List α} : L2.atI (x :: y :: z :: xs) 2 = some z := by
  rw [atI_of (by omega) (by simp <;> omega)]; rfl
theorem atI_3 {α : Type} {x y z u : α} {xs : List α} : L2.atI (x :: y :: z :: u :: xs) 3 = some u := by
  rw [atI_of (by omega) (by simp <;> omega)]; rfl
theorem wp_fn {n N : Nat} {b : MS} {ds : List D} {m : Store} {Q : RX FT → Store → Prop} (h : ds.length = n) : wp (fnOf n N b ds m) Q = ws (b (st N ds) m) (fun o => wp (endF m (some o)) Q) := by
  unfold fnOf
  rw [if_pos h]
  cases b (st N ds) m with
  | none => rfl
  | some o => rfl
theorem wp_fnI {n N : Nat} {b : MS} {ds : List D} {m : Store} {Q : RX FT → Store → Prop} (h : ds.length = n) (k : ws (b (st N ds) m) (fun o => wp (endF m (some o)) Q)) : wp (fnOf n N b ds m) Q := by
  rw [wp_fn h]; exact k
theorem endF_rt {m m' : Store} {d : D} : endF m (some (.rt d m')) = finF m d m' := rfl
theorem endF_nx {m m' : Store} {δ : En} : endF m (some (.nx δ m')) = finF m .non m' := rfl
theorem endF_ex {m m' : Store} {δ : En} {x : Str} : endF m (some (.ex x δ m')) = (cutS m m').map fun m => (.ex x, m) := rfl
theorem cut_same {m m' : Store} (h : m'.length = m.length) : cutS m m' = some m' := by unfold cutS; rw [if_pos h]
theorem cut_app {m0 m l : Store} (hl : m.length = m0.length) (ti : Tidy m0 m) : cutS m0 (m ++ l) = some m := by
  unfold cutS
  by_cases hz : (m ++ l).length = m0.length
  · rw [if_pos hz]
    have : l = [] := by
      rw [List.length_append] at hz
      exact List.eq_nil_of_length_eq_zero (by omega)
    subst this
    rw [List.append_nil]
  · rw [if_neg hz]
    have e : (m ++ l).take m0.length = m := by rw [← hl]; simp
    rw [e, if_pos ti]
theorem ixN_lit30 : ixN 3 0 = some 0 := rfl
theorem ixN_lit31 : ixN 3 1 = some 1 := rfl
theorem ixN_lit32 : ixN 3 2 = some 2 := rfl
/-- for, by an invariant over what is left -/
theorem ws_for {g : MG} {b : MS} {c : Store → Prop} {R : OT → Prop} (I : List D → En → Store → Prop) (hc : ∀ l δ m, I l δ m → c m) (hend : ∀ δ m, I [] δ m → R (.nx δ m))
    (step : ∀ x l δ m, I (x :: l) δ m → ∃ δ1, g x δ = some δ1 ∧ ws (b δ1 m) (fun o => match o with | .nx δ m => I l δ m | .ct δ m => I l δ m | .bk δ m => R (.nx δ m) | o => R o)) :
    ∀ {l : List D} {δ : En} {m : Store}, I l δ m → ws (forM g b c l δ m) R
  | [], δ, m, h => by
    unfold forM
    rw [if_pos (hc _ _ _ h)]
    exact hend δ m h
  | x :: l, δ, m, h => by
    unfold forM
    rw [if_pos (hc _ _ _ h)]
    obtain ⟨δ1, e1, h1⟩ := step x l δ m h
    rw [e1]
    simp only [Option.bind_some]
    obtain ⟨o, e2, h2⟩ := ws_get h1
    rw [e2]
    cases o with
    | nx δ m => exact ws_for I hc hend step h2
    | ct δ m => exact ws_for I hc hend step h2
    | bk δ m => exact h2
    | rt d m => exact h2
    | ex y δ m => exact h2
/-- it goes on -/
def Nx (I : En → Store → Prop) (o : OT) : Prop := ∃ δ m, o = .nx δ m ∧ I δ m
theorem nx_nx {I : En → Store → Prop} {δ : En} {m : Store} : Nx I (.nx δ m) = I δ m := propext ⟨fun ⟨_, _, e, h⟩ => by cases e; exact h, fun h => ⟨_, _, rfl, h⟩⟩
/-- for over typed items -/
theorem ws_forT {α : Type} {g : MG} {b : MS} {c : Store → Prop} {R : OT → Prop} (en : α → D) (I : List α → En → Store → Prop) (hc : ∀ l δ m, I l δ m → c m) (hend : ∀ δ m, I [] δ m → R (.nx δ m))
    (step : ∀ x l δ m, I (x :: l) δ m → ∃ δ1, g (en x) δ = some δ1 ∧ ws (b δ1 m) (fun o => match o with | .nx δ m => I l δ m | .ct δ m => I l δ m | .bk δ m => R (.nx δ m) | o => R o)) {l : List α} {δ : En} {m : Store} (h : I l δ m) : ws (forM g b c (l.map en) δ m) R :=
  ws_for (R := R) (fun l' δ m => ∃ l, l' = l.map en ∧ I l δ m) (fun _ _ _ ⟨l, _, h⟩ => hc l _ _ h) (fun δ m ⟨l, e, h⟩ => by
    cases l with
    | nil => exact hend δ m h
    | cons _ _ => cases e) (fun x l' δ m ⟨l, e, h⟩ => by
    cases l with
    | nil => cases e
    | cons y l =>
      cases e
      obtain ⟨δ1, e1, h1⟩ := step y l δ m h
      refine ⟨δ1, e1, ws_mono h1 fun o h => ?_⟩
      cases o with
      | nx δ m => exact ⟨l, rfl, h⟩
      | ct δ m => exact ⟨l, rfl, h⟩
      | bk δ m => exact h
      | rt d m => exact h
      | ex y δ m => exact h) ⟨l, rfl, h⟩
theorem forT {α : Type} {g : MG} {b : MS} {c : Store → Prop} (en : α → D) (I : List α → En → Store → Prop) (hc : ∀ l δ m, I l δ m → c m) (step : ∀ x l δ m, I (x :: l) δ m → ∃ δ1, g (en x) δ = some δ1 ∧ ws (b δ1 m) (Nx (I l))) {l : List α} {δ : En} {m : Store} (h : I l δ m) : ws (forM g b c (l.map en) δ m) (Nx (I [])) :=
  ws_forT (R := Nx (I [])) en I hc (fun δ m h => ⟨δ, m, rfl, h⟩) (fun x l δ m h => by
    obtain ⟨δ1, e1, h1⟩ := step x l δ m h
    refine ⟨δ1, e1, ws_mono h1 ?_⟩
    rintro o ⟨δ2, m2, rfl, h2⟩
    exact h2) h
/-- a comprehension over typed items that changes nothing -/
theorem lcM_pure {α : Type} {g : MG} {t : MT} {e : ME} {c : Store → Prop} {δ : En} {m : Store} (hc : c m) (en : α → D) (p : α → Bool) (f : α → D) : ∀ (ys : List α),
    (∀ y ∈ ys, ∃ δ1, g (en y) δ = some δ1 ∧ t δ1 m = ret (p y) m ∧ (p y = true → e δ1 m = ret (f y) m)) → lcM g t e c δ (ys.map en) m = ret ((ys.filter p).map f) m
  | [], _ => by
    rw [List.map_nil]
    unfold lcM
    rw [if_pos hc]; rfl
  | y :: ys, h => by
    obtain ⟨δ1, e1, e2, e3⟩ := h y List.mem_cons_self
    have ih := lcM_pure hc en p f ys fun z hz => h z (List.mem_cons_of_mem _ hz)
    rw [List.map_cons]
    unfold lcM
    rw [if_pos hc, e1]
    simp only [Option.bind_some]
    rw [e2]
    cases hp : p y with
    | true =>
      show MX.sure (e δ1 m) _ = _
      rw [e3 hp]
      show MX.sure (lcM g t e c δ (ys.map en) m) _ = _
      rw [ih, List.filter_cons, if_pos hp]; rfl
    | false =>
      show lcM g t e c δ (ys.map en) m = _
      rw [ih, List.filter_cons, hp]; rfl
theorem lcM_map {α : Type} {g : MG} {e : ME} {c : Store → Prop} {δ : En} {m : Store} (hc : c m) (en : α → D) (f : α → D) (ys : List α)
    (h : ∀ y ∈ ys, ∃ δ1, g (en y) δ = some δ1 ∧ e δ1 m = ret (f y) m) : lcM g mYes e c δ (ys.map en) m = ret (ys.map f) m := by
  have := lcM_pure (t := mYes) hc en (fun _ => true) f ys fun y hy => by
    obtain ⟨δ1, e1, e2⟩ := h y hy
    exact ⟨δ1, e1, rfl, fun _ => e2⟩
  rwa [List.filter_eq_self.mpr (fun _ _ => rfl)] at this
theorem chk_nil {xs : List D} {m : Store} : (Wk.mk xs []).chk m := fun p hp => nomatch hp
/-! ### conditional steps -/
section
variable {m : Store} {i j : Int} {k : Nat} {xs : List D}
theorem pMul_r (h1 : -18446744073709551616 < j) (h2 : j < 18446744073709551616) : pMul (.int i) (.int j) m = ret (.int (i * j)) m := by
  unfold pMul; dsimp only; rw [if_pos]; exact .inr ⟨h1, h2⟩
theorem pMul_l (h1 : -18446744073709551616 < i) (h2 : i < 18446744073709551616) : pMul (.int i) (.int j) m = ret (.int (i * j)) m := by
  unfold pMul; dsimp only; rw [if_pos]; exact .inl ⟨h1, h2⟩
theorem pMod_pos (h : 0 < j) : pMod (.int i) (.int j) m = ret (.int (i % j)) m := by
  unfold pMod; dsimp only; rw [if_pos h]
theorem pDiv_pos (h : 0 < j) (h2 : j < 618970019642690137449562112) : pDiv (.int i) (.int j) m = ret (.int (i / j)) m := by
  unfold pDiv; dsimp only; rw [if_pos]
  refine wide_div (b := 89) h ?_ (by decide) (by decide)
  have e : (2 ^ 89 : Nat) = 618970019642690137449562112 := rfl
  rw [e]; omega
theorem pPow_ok {n : Nat} (h : n ≤ 1000) (h2 : i.natAbs < 2 ^ 64) : pPow (.int i) (.int (n : Int)) m = ret (.int (i ^ n)) m := by
  unfold pPow; dsimp only; rw [if_pos ⟨by omega, by omega, h2⟩]; simp
theorem pow_12 : pPow (.int 10) (.int 12) m = ret (.int 1000000000000) m := by
  rw [show (12 : Int) = ((12 : Nat) : Int) from rfl, pPow_ok (by omega) (by decide)]; rfl
theorem pow_9 : pPow (.int 10) (.int 9) m = ret (.int 1000000000) m := by
  rw [show (9 : Int) = ((9 : Nat) : Int) from rfl, pPow_ok (by omega) (by decide)]; rfl
theorem pow_18 : pPow (.int 10) (.int 18) m = ret (.int 1000000000000000000) m := by
  rw [show (18 : Int) = ((18 : Nat) : Int) from rfl, pPow_ok (by omega) (by decide)]; rfl
theorem pow_29 : pPow (.int 10) (.int 29) m = ret (.int 100000000000000000000000000000) m := by
  rw [show (29 : Int) = ((29 : Nat) : Int) from rfl, pPow_ok (by omega) (by decide)]; rfl
theorem rdQ_cell (h : m[k]? = some (.lst xs)) : rdQ m (.cell k) = some xs := by unfold rdQ; dsimp only; rw [h]
theorem rdL_cell (h : m[k]? = some (.lst xs)) : rdL m (.cell k) = some xs := by unfold rdL; dsimp only; rw [h]
theorem rdS_cell (h : m[k]? = some (.lst xs)) : rdS m (.cell k) = some xs := by unfold rdS; dsimp only; rw [h]
theorem cellL_cell (h : m[k]? = some (.lst xs)) : cellL m (.cell k) = some (k, xs) := by unfold cellL; dsimp only; rw [h]
theorem isLst_cell (h : m[k]? = some (.lst xs)) : isLst m (.cell k) = true := by unfold isLst; rw [rdQ_cell h]; rfl
theorem vw_cell (h : m[k]? = some (.lst xs)) : vw m (.cell k) = some (.lst xs) := by unfold vw; dsimp only; rw [h]
theorem rdQ_lst : rdQ m (.lst xs) = some xs := rfl
theorem rdL_lst : rdL m (.lst xs) = some xs := rfl
theorem rdS_lst : rdS m (.lst xs) = some xs := rfl
theorem rdS_tup : rdS m (.tup xs) = some xs := rfl
theorem rdQ_scr {ns : List Int} : rdQ m (.scr ns) = some (ns.map D.int) := rfl
theorem rdS_scr {ns : List Int} : rdS m (.scr ns) = some (ns.map D.int) := rfl
theorem vw_lst : vw m (.lst xs) = some (.lst xs) := rfl
theorem vw_tup : vw m (.tup xs) = some (.tup xs) := rfl
/-- a list's emptiness, lists of one kind -/
theorem eqb_nil : eqb (.lst xs) (.lst []) = xs.isEmpty := by
  show PyData.eqv (.list (D.toPys xs)) (.list []) = _
  rw [eqv_nil, toPys_empty]
theorem sh_nil {n : Nat} : Sh (n + 1) (.lst []) := fun x hx => nomatch hx
theorem sh_int {n : Nat} {i : Int} : Sh n (.int i) := by cases n <;> trivial
theorem sh_non {n : Nat} : Sh n .non := by cases n <;> trivial
theorem sh_eS {n : Nat} {s : Sp2} : Sh (n + 1) (eS s) := fun x hx => by
  rcases List.mem_cons.mp hx with rfl | hx
  · exact sh_int
  · cases List.mem_singleton.mp hx; exact sh_int
theorem sh_ints {n : Nat} {ns : List Int} : Sh (n + 1) (.lst (ns.map D.int)) := Sh.map fun _ => sh_int
theorem sh_spans {n : Nat} {ss : List Sp2} : Sh (n + 2) (.lst (ss.map eS)) := Sh.map fun _ => sh_eS
theorem pNeD_nil {d : D} (h : vw m d = some (.lst xs)) (hs : Sh 60 (.lst xs)) : pNeD d (.lst []) m = ret (.bl (!xs.isEmpty)) m := by
  unfold pNeD
  rw [h, vw_lst]
  simp only [Option.bind_some]
  rw [if_pos ⟨hs, sh_nil⟩, eqb_nil]
theorem isEmpty_map {α β : Type} {f : α → β} {xs : List α} : (xs.map f).isEmpty = xs.isEmpty := by cases xs <;> rfl
end
/-- == of encoded things -/
theorem eqv_ints : ∀ (a b : List Int), PyData.eqvAll (D.toPys (a.map D.int)) (D.toPys (b.map D.int)) = decide (a = b)
  | [], [] => rfl
  | [], b :: bs => rfl
  | a :: as, [] => rfl
  | a :: as, b :: bs => by
    have ih := eqv_ints as bs
    show (PyData.eqv (.int a) (.int b) && PyData.eqvAll (D.toPys (as.map D.int)) (D.toPys (bs.map D.int))) = _
    rw [ih]
    show (decide (a = b) && decide (as = bs)) = _
    by_cases h1 : a = b <;> by_cases h2 : as = bs <;> simp [h1, h2]
theorem eqvAll_map {α : Type} [DecidableEq α] {f : α → D} (h : ∀ a b, eqb (f a) (f b) = decide (a = b)) : ∀ (a b : List α), PyData.eqvAll (D.toPys (a.map f)) (D.toPys (b.map f)) = decide (a = b)
  | [], [] => rfl
  | [], b :: bs => rfl
  | a :: as, [] => rfl
  | a :: as, b :: bs => by
    have ih := eqvAll_map h as bs
    show (eqb (f a) (f b) && PyData.eqvAll (D.toPys (as.map f)) (D.toPys (bs.map f))) = _
    rw [ih, h]
    by_cases h1 : a = b <;> by_cases h2 : as = bs <;> simp [h1, h2]
theorem eqb_lst {α : Type} [DecidableEq α] {f : α → D} (h : ∀ a b, eqb (f a) (f b) = decide (a = b)) (a b : List α) : eqb (.lst (a.map f)) (.lst (b.map f)) = decide (a = b) := eqvAll_map h a b
/-! ### stores: m with the def's own cells behind -/
theorem get_app (m l : Store) (i : Nat) : (m ++ l)[m.length + i]? = l[i]? := by
  rw [List.getElem?_append_right (by omega)]; congr 1; omega
theorem get_app0 (m l : Store) : (m ++ l)[m.length]? = l[0]? := get_app m l 0
theorem set_app (m l : Store) (i : Nat) (c : Cell) : (m ++ l).set (m.length + i) c = m ++ l.set i c := by
  rw [List.set_append_right _ _ (by omega)]; congr 2; omega
theorem set_app0 (m l : Store) (c : Cell) : (m ++ l).set m.length c = m ++ l.set 0 c := set_app m l 0 c
theorem take_app (m l : Store) : (m ++ l).take m.length = m := by simp
theorem unds_map {α : Type} {f : α → D} {n : Nat} (h : ∀ x, (f x).und n = true) : ∀ xs : List α, D.unds n (xs.map f) = true
  | [] => rfl
  | x :: xs => by
    show ((f x).und n && D.unds n (xs.map f)) = true
    rw [h x, unds_map h xs]; rfl
theorem unds_eS (n : Nat) (xs : List Sp2) : D.unds n (xs.map eS) = true := unds_map (fun _ => rfl) xs
/-- a def that leaves the store's length -/
theorem fin_same {m0 m' : Store} {d : D} (h : m'.length = m0.length) : finF m0 d m' = ret (.pl d) m' := by unfold finF; rw [if_pos h]
/-- a def with cells of its own that hands back the one at i -/
theorem fin_own {m0 m l : Store} {i : Nat} {xs : List D} (hl : m.length = m0.length) (ti : Tidy m0 m) (hi : l[i]? = some (.lst xs)) (hu : D.unds m0.length xs = true) : finF m0 (.cell (m0.length + i)) (m ++ l) = ret (.own xs) m := by
  have hlen : i < l.length := (List.getElem?_eq_some_iff.mp hi).1
  unfold finF
  rw [if_neg (by rw [List.length_append]; omega), ← hl, take_app, if_pos ti]
  have e : (m ++ l)[m.length + i]? = some (.lst xs) := by rw [get_app]; exact hi
  show (Option.map F1.ft (if m.length + i < m.length then some (.pl (.cell (m.length + i))) else match (m ++ l)[m.length + i]? with
    | some (.lst xs) => if D.unds m.length xs = true then some (.own xs) else none
    | _ => none)).map _ = _
  rw [if_neg (by omega), e]
  show (Option.map F1.ft (if D.unds m.length xs = true then some (.own xs) else none)).map _ = _
  rw [if_pos (by rw [hl]; exact hu)]; rfl
theorem fin_own0 {m l : Store} {xs : List D} (hu : D.unds m.length xs = true) : finF m (.cell m.length) (m ++ .lst xs :: l) = ret (.own xs) m := fin_own (i := 0) rfl (Tidy.refl _) rfl hu
/-- .. that hands back plain data -/
theorem fin_plain {m0 m l : Store} {d : D} (hl : m.length = m0.length) (ti : Tidy m0 m) (hd : resT m0.length (m ++ l) d = some (.pl d)) : finF m0 d (m ++ l) = ret (.pl d) m := by
  unfold finF
  by_cases hz : (m ++ l).length = m0.length
  · rw [if_pos hz]
    have : l = [] := by
      rw [List.length_append] at hz
      exact List.eq_nil_of_length_eq_zero (by omega)
    subst this
    rw [List.append_nil]
  · rw [if_neg hz]
    have e : (m ++ l).take m0.length = m := by rw [← hl]; exact take_app m l
    rw [e, if_pos ti, hd]; rfl
theorem fin_top {m' : Store} {b : Bool} : finF [] (.bl b) m' = ret (.pl (.bl b)) [] := fin_plain (m0 := []) (m := []) (l := m') rfl (Tidy.refl _) rfl
end DL
/-! sorted(set(xs)), len(set(xs)) of a list of ints, of any length. -/
namespace DL
open PySem PySem.Spec PyProof.Rows L2
abbrev newSet (w : World) : Obj := { cls := .type "set", dict := none, data := .set #[] 0 (.fresh 0 0 (!w.params.followText "set-order")) }
section
variable {P : Program} {w : World} {A : Around} {E : Value → Shared → Prop} {s : Shared}
theorem set_of_list {l : Addr} {its : Array Value} (ns : List Int) {Q : Value → Shared → Prop} (hA : A.handled = none) (hL : s.heap.IsList l its) (hI : IntsAre its.toList ns) (hB : ns.length + 1 < scanBound)
    (hQ : ∀ (g : Heap) (tk c : Nat), SetR w g s.heap.objs.size (fun j => decide (j ∈ ns)) c → (∀ b o, s.heap.get? b = some o → g.get? b = some o) → Q (.ref s.heap.objs.size) { s with heap := g, toks := tk }) :
    wpAny (model P w) A (call (.type "set") [.ref l]) Q E s := by
  have hn : its.size = ns.length := by
    have z := IntsAre.length hI
    rwa [Array.length_toList] at z
  obtain ⟨cc, tt, hmro⟩ := F.called_set.mro
  have hmade := F.called_set.made
  have hsub := F.called_set.sub
  refine wpAny_call (codeAny_of_tree ?_)
  show wpAny _ _ (callAny (.type "set") _) _ _ _
  refine wpAny_pure ⟨Code.quiet_builtin _ (by decide +kernel), codeAny_builtin F.entry_type_call ?_⟩
  rw [Around.under_plain (weight_type_call_type "set" [.ref l] []) rfl]
  have f1 := F.called_set.notType
  have f2 := F.called_set.canCreate
  have f3 := F.typeCall_set_1 (.ref l)
  repeat (any_goals (first | assumption | wp_step))
  refine codeAny_mono (code_set_led1 (.ref l) (E := E) (Q₁ := fun z s₁ => z = .ref s.heap.objs.size ∧ s₁ = { s with heap := s.heap.push (newSet w) }) ⟨rfl, rfl⟩) fun z s₁ hz => ?_
  cases z with
  | error e => exact hz
  | ok fl =>
    cases fl with
    | ret z =>
      obtain ⟨rfl, rfl⟩ := hz
      have g0 : (s.heap.push (newSet w)).get? s.heap.objs.size = some (newSet w) := Heap.get?_push_size _ rfl
      have t0 : Shared.TypeIs { s with heap := s.heap.push (newSet w) } (.ref s.heap.objs.size) "set" := ⟨_, g0, rfl⟩
      have f4 := F.called_set.init.lookup
      have f5 := F.called_set.init.bind (.ref s.heap.objs.size)
      repeat (any_goals (first | assumption | wp_step))
      refine codeAny_mono (codeAny_call_builtin (R := wants (fun z s₂ => z = .none ∧ ∃ g tk c, s₂ = { s with heap := g, toks := tk } ∧ SetR w g s.heap.objs.size (fun j => decide (j ∈ ns)) c ∧
          (∀ b o, s.heap.get? b = some o → g.get? b = some o)) E) F.called_set.init.plain F.entry_set_init (check_set_init_1 t0 ?_)) fun y s₂ hy => ?_
      · obtain ⟨⟨oc, od, oda, osl⟩, ho, hc, nl, hd⟩ := hL
        simp only at hc hd
        subst hc hd
        have ho2 : (s.heap.push (newSet w)).get? l = some { cls := .type "list", dict := od, data := .seq its nl, slots := osl } := Heap.get?_push_of_some _ ho
        have k1 := F.sub_list_set
        have k2 := F.sub_list_frozenset
        have k3 : (Value.type "list" == Value.type "dict") = false := by decide
        have hL2 : (s.heap.push (newSet w)).IsList l its := ⟨_, ho2, rfl, nl, rfl⟩
        unfold Builtin.«set.__init__» noKeywords Builtin.Frozenset.updateFrom
        generalize hPI : pyIter = PI
        wp_walk
        subst hPI
        refine wpAny_pyIter_list hL2 ?_
        refine wpAny_bind (wpAny_runValue ?_)
        have lS : l < s.heap.objs.size := Heap.lt_size ho
        have h3 : A.in1.in1.in1.handled = none := by simp [hA]
        have neI : l ≠ (s.heap.push (newSet w)).objs.size := by
          rw [Heap.size_push]; exact Nat.ne_of_lt (Nat.lt_succ_of_lt lS)
        have notF : s.heap.objs.size ∉ [(s.heap.push (newSet w)).objs.size, l] := by
          rw [Heap.size_push]
          intro hm
          rcases List.mem_cons.mp hm with z | z
          · exact absurd z (Nat.ne_of_lt (Nat.lt_succ_self _))
          · exact absurd (List.mem_singleton.mp z) (Nat.ne_of_gt lS)
        have hv : ∀ (i : Nat) (v : Value), its[i]? = some v → ∃ k t, ns[i]? = some k ∧ v = .int k t := fun i v e => by
          have hi : i < ns.length := by rw [← hn]; exact (Array.getElem?_eq_some_iff.mp e).1
          obtain ⟨t, z⟩ := PyProof.Rows.IntsAre.int_at hI i v (by rw [Array.getElem?_toList]; exact e)
          refine ⟨ns[i], t, List.getElem?_eq_getElem hi, ?_⟩
          rw [z, List.getD_eq_getElem?_getD, List.getElem?_eq_getElem hi] <;> rfl
        refine set_update_ints ((Walks.list h3 _ l neI its).toS) s.heap.objs.size notF ns hn hB hv (its.size - 0) 0 _ (by omega) (Nat.zero_le _) ⟨⟨_, Heap.get?_push_size _ rfl, rfl, rfl⟩, (hL2.push _)⟩ ?start ?fin
        case start =>
          refine ⟨0, Nat.le_refl 0, setR_new_at ?_⟩
          exact Heap.get?_push_of_some _ g0
        case fin =>
          intro s' c' hm _ hS'
          obtain ⟨g, gg, dd, tk', oo⟩ := s'
          have e1 : gg = s.gens := hm.gens
          have e2 : dd = s.drawn := hm.drawn
          have e3 : oo = s.os := hm.os
          subst e1 e2 e3
          show wpAny _ _ _ _ _ _
          refine wpAny_pure ?_
          show wpAny _ _ (PySem.ret Value.none) _ _ _
          refine wpAny_pure ⟨rfl, g, tk', c', rfl, hS', fun b o e => ?_⟩
          have hb0 : b < s.heap.objs.size := Heap.lt_size e
          refine hm.heap b o ?_ (Heap.get?_push_of_some _ (Heap.get?_push_of_some _ e))
          intro hm2
          rcases List.mem_cons.mp hm2 with z | z
          · exact absurd z (Nat.ne_of_lt hb0)
          · have z := List.mem_singleton.mp z
            rw [Heap.size_push] at z
            exact absurd z (Nat.ne_of_lt (Nat.lt_succ_of_lt hb0))
      · cases y with
        | error e => exact hy
        | ok fl₂ =>
          cases fl₂ with
          | ret z =>
            obtain ⟨rfl, g, tk, c', rfl, hS', hk'⟩ := hy
            repeat (any_goals (first | assumption | wp_step))
            exact hQ _ _ _ hS' hk'
          | _ => exact hy.elim
    | _ => exact hz.elim
/-- sorted of a set of ints, however many -/
theorem sorted_of_set {a : Addr} {S : Int → Bool} {n : Nat} {Q : Value → Shared → Prop} (R : SetR w s.heap a S n) (hA : A.handled = none)
    (hQ : ∀ s' p (out : Array Value) (c : Nat) (ns : List Int), (∀ b o, s.heap.get? b = some o → s'.heap.get? b = some o) → s'.gens = s.gens → s'.os = s.os → s.heap.objs.size ≤ p →
      s'.heap.get? p = some (seqObj "list" out c) → IntsAre out.toList ns → ns.Pairwise (· < ·) → (∀ k, k ∈ ns ↔ S k = true) → ns.length ≤ sizeLine → Q (.ref p) s') :
    wpAny (model P w) A (call (.builtin "sorted") [.ref a]) Q E s := by
  obtain ⟨o, es, ep, t, h1, h2, h3, h4, h5, h6, h7, h8, h9, h10, h11⟩ := R
  refine Calls.call_function_entry kind_sorted plain_sorted entry_sorted (args_sorted1 _) ?_
  unfold Builtin.«sorted»
  refine wpAny_bind (m := checkCount "sorted" 1 1 _) (wpAny_pure ?_)
  refine wpAny_bind (collect_set (A := A.in1) hA ⟨o, h1, h2.1, h3⟩ h8 h7 h10 h11 fun s1 us k1 z1 g1 o1 pm => ?_)
  have lz : us.length ≤ sizeLine := by
    rw [pm.length_eq, List.length_map, Array.length_toList]
    exact fits_of_scanBound h7
  have ui : IntsAre us (us.map Builtin.Re.reRawOf) := ints_of us fun v hv => by
    obtain ⟨e, he, q⟩ := List.mem_map.mp (pm.mem_iff.mp hv)
    obtain ⟨k, tk, z, _⟩ := h4 e he
    exact ⟨k, tk, by rw [← q]; exact z⟩
  have pk : (us.map Builtin.Re.reRawOf).Perm (es.toList.map keyOf) := by
    have q := pm.map Builtin.Re.reRawOf
    rwa [List.map_map] at q
  refine wpAny_bind (wpAny_newList ?_ lz)
  have gL : (s1.heap.push (seqObj "list" us.toArray 0)).get? s1.heap.objs.size = some (seqObj "list" us.toArray 0) := Heap.get?_push_size _ rfl
  refine wpAny_bind (wpAny_holding (wpAny_call_entry slot_list_sort ⟨_, gL, rfl⟩ entry_list_sort (SrtO.list_sort_ord SrtO.swo_int gL lz (fun hlen => SrtO.ints_sortable ui hlen) fun out k2 k3 => ⟨_, rfl, ?_⟩) (args_list_sort _)))
  obtain ⟨m1, m2, m3⟩ := SrtO.ints_out ui k2 k3
  obtain ⟨c, hc⟩ := sortedHeap_at (vs := us) (out := out.toArray) gL
  have pn := m2.trans pk
  refine wpAny_pure ⟨_, rfl, hQ _ s1.heap.objs.size out.toArray c (out.map SrtO.iv) (fun b u e => ?_) g1 o1 z1 hc (by simpa using m1) (lt_of_le_nodup _ m3 (pn.nodup_iff.mpr h5)) (fun k => by rw [pn.mem_iff, ← h6 k]) ?_⟩
  · have q := k1 b u e
    have hlt := Heap.lt_size q
    show (sortedHeap (s1.heap.push (seqObj "list" us.toArray 0)) s1.heap.objs.size us out.toArray).get? b = some u
    rw [sortedHeap_old (Nat.ne_of_lt hlt) (by rw [size_push']; exact Nat.lt_succ_of_lt hlt)]
    exact Heap.get?_push_of_some _ q
  · rw [m2.length_eq, List.length_map]; exact lz
end
/-- the list's ints, rising, none twice -/
def undup : List Int → List Int
  | [] => []
  | x :: xs => if x ∈ xs then undup xs else x :: undup xs
theorem undup_mem : ∀ {ns : List Int} {k : Int}, k ∈ undup ns ↔ k ∈ ns
  | [], k => Iff.rfl
  | x :: xs, k => by
    unfold undup
    split
    · rename_i h
      rw [undup_mem]
      exact ⟨List.mem_cons_of_mem _, fun q => by
        rcases List.mem_cons.mp q with rfl | q
        · exact h
        · exact q⟩
    · rw [List.mem_cons, List.mem_cons, undup_mem]
theorem undup_nodup : ∀ ns : List Int, (undup ns).Nodup
  | [] => .nil
  | x :: xs => by
    unfold undup
    split
    · exact undup_nodup xs
    · rename_i h
      exact List.nodup_cons.mpr ⟨fun q => h (undup_mem.mp q), undup_nodup xs⟩
def usort (ns : List Int) : List Int := isort (undup ns)
def tSortSet (K : PySem.W.Frag) (ta : TE) : TE := fun σ H Q => ta σ H fun x H1 => ∃ (l : Addr) (ns : List Int), x = V.ref l ∧ SqL K H1 l (ns.map V.int) ∧ ns.length ≤ 4000 ∧
  ∀ (us : List Int) (p : Addr), us.Pairwise (· < ·) → (∀ k, k ∈ us ↔ k ∈ ns) → H1 p = none → Q (.ref p) (upd H1 p (.lst (us.map V.int)))
theorem pe_sortSet {X : Cx} {a : Expr} {ta : TE} {p p2 q pos : Pos} (hg : Gl X "sorted") (hm : X.mg "sorted" = none) (hg2 : Gl X "set") (hm2 : X.mg "set" = none) (ha : PE X a ta) (hc : X.calm = true := by rfl)
    (na : starEach [a] X.env = (false, eval a X.env) :: starEach [] X.env := by rfl) : PE X (.Call (.Name "sorted" p) [.Call (.Name "set" p2) [a] [] q] [] pos) (tSortSet X.K ta) := by
  refine ⟨fun pins s σ H Q I h => ?_⟩
  refine Call_ (ld_blt I hg hm bt_sorted ?_)
  refine PyProof.Rows.callWith_builtin1 (PyProof.Rows.args_cons ?_ rfl) rfl rfl
  refine Call_ (ld_blt I hg2 hm2 bt_set ?_)
  refine PyProof.Rows.callWith_type1 (PyProof.Rows.args_cons (thn (ha.run pins s σ H _ I h) fun v s1 ⟨x, H1, I1, r1, q1⟩ => PyProof.Rows.args_nil ?_) na) na rfl
  obtain ⟨l, ns, rfl, hq, hl, q1⟩ := q1
  cases r1
  obtain ⟨its, r, pl, hz⟩ := I1.list hq
  have hints := r.ints
  refine set_of_list ns (I1.ok.hd hc) pl.isList (by simpa using hints) (by unfold scanBound; omega) fun g tk c hS hk => ?_
  refine PyProof.Rows.args_nil ?_
  have I2 : Inv X pins σ H1 { s1 with heap := g, toks := tk } := I1.kept fun b o e => hk b o e
  have hS' : SetR X.w ({ s1 with heap := g, toks := tk } : Shared).heap s1.heap.objs.size (fun j => decide (j ∈ ns)) c := hS
  generalize ({ s1 with heap := g, toks := tk } : Shared) = s2 at I2 hS' ⊢
  refine sorted_of_set hS' (I2.ok.hd hc) fun s' p' out c' us k g o hp hg' hi hs hm' hl' => ?_
  have hlen : (us.map V.int).length ≤ sizeLine := by rw [List.length_map]; exact hl'
  have hn : H1 p' = none := I2.hok.fresh hp
  have J : Inv X pins σ (upd H1 p' (.lst (us.map V.int))) { s2 with heap := s'.heap, gens := s'.gens, drawn := s'.drawn, toks := s'.toks } :=
    I2.call (ch := []) (Un.laid k hp hn) (I2.hok.laid k hp ⟨hlen, out.toList, c', vals_of_ints hi, hg'⟩) (by rw [g]; exact I2.bare) (fun _ z => nomatch z)
  have e : s' = { s2 with heap := s'.heap, gens := s'.gens, drawn := s'.drawn, toks := s'.toks } := by
    cases s'
    cases o
    rfl
  rw [e]
  exact ⟨.ref p', _, J, rfl, q1 us p' hs (fun k => by rw [hm' k]; simp) hn⟩
/-! ### what it comes to -/
theorem usort_mem {ns : List Int} {k : Int} : k ∈ usort ns ↔ k ∈ ns := by
  unfold usort
  rw [(isort_perm _).mem_iff]
  exact undup_mem
theorem usort_lt (ns : List Int) : (usort ns).Pairwise (· < ·) := by
  unfold usort
  refine lt_of_le_nodup _ (isort_sorted _) ((isort_perm _).nodup_iff.mpr ?_)
  exact undup_nodup _
theorem usort_uniq {us ns : List Int} (h1 : us.Pairwise (· < ·)) (h2 : ∀ k, k ∈ us ↔ k ∈ ns) : us = usort ns := by
  have nd : ∀ l : List Int, l.Pairwise (· < ·) → l.Nodup := fun l h => h.imp fun {a b} z e => by omega
  refine List.Perm.eq_of_pairwise (le := (· < ·)) (fun a b _ _ x y => by omega) h1 (usort_lt ns) ?_
  exact (List.perm_ext_iff_of_nodup (nd _ h1) (nd _ (usort_lt ns))).mpr fun k => by rw [h2, usort_mem]
def fSortSet (a : ME) : MF := fun δ m => (a δ m).bind fun x m => (rdQ m x).bind fun ds => (toInts ds).bind fun ns => if ns.length ≤ 4000 then DL.ret (FT.own ((usort ns).map D.int)) m else none
theorem so_sortSet {K : PySem.W.Frag} {W : WX} {ta : TE} {a : ME} (ha : So K W (RE K) ta a) : So K W (RF K) (tSortSet K ta) (fSortSet a) :=
  So.bind rf_mon ha (k := fun (x : D) δ m => (rdQ m x).bind fun ds => (toInts ds).bind fun ns => if ns.length ≤ 4000 then DL.ret (FT.own ((usort ns).map D.int)) m else none)
    (u := fun (x : V) σ H1 Q => ∃ (l : Addr) (ns : List Int), x = V.ref l ∧ SqL K H1 l (ns.map V.int) ∧ ns.length ≤ 4000 ∧
      ∀ (us : List Int) (p : Addr), us.Pairwise (· < ·) → (∀ k, k ∈ us ↔ k ∈ ns) → H1 p = none → Q (.ref p) (upd H1 p (.lst (us.map V.int)))) fun x δ m res m' e v r F H σ _ hr er rv => by
    cases h0 : rdQ m x with
    | none => rw [h0] at e; cases e
    | some ds =>
      rw [h0] at e
      simp only [Option.bind_some] at e
      cases h1 : toInts ds with
      | none => rw [h1] at e; cases e
      | some ns =>
        rw [h1] at e
        simp only [Option.bind_some] at e
        split at e
        · rename_i hl
          cases e
          cases toInts_eq h1
          obtain ⟨p, vs, rfl, hs, ra⟩ := rdQ_get h0 hr rv
          cases ra.ints
          refine fun Q q => ⟨p, ns, rfl, hs, hl, fun us p' z1 z2 hp' => ?_⟩
          rw [usort_uniq z1 z2]
          obtain ⟨q1, q2, q3⟩ := rf_new hr hp' (repAll_ints (usort ns))
          exact q _ r F _ q1 q2 q3
        · cases e
end DL
/-! is True, list(range(..)), range of three -/
namespace DL
open PySem PySem.Spec PyProof.Rows L2
end DL
/-! sorted of tuples of ints -/
namespace SrtI
open PySem PyProof.Rows Srt SrtO
def cut (d : Nat) (ns : List Int) : List Int := (ns ++ List.replicate d 0).take d
theorem cut_same {d : Nat} {ns : List Int} (h : ns.length = d) : cut d ns = ns := by subst h; simp [cut]
end SrtI
namespace DL
open PySem PySem.Spec PyProof.Rows L2
end DL
/-! a cell taken as data from here on; a list unpacked -/
namespace DL
open PySem PySem.Spec PyProof.Rows L2
section
variable {K : PySem.W.Frag} {r : List Addr} {F H : Hp} {m : Store}
theorem live_gone {k l : Nat} (h : live (m.set k .gone) l) : live m l ∧ l ≠ k := by
  obtain ⟨c, e, ng⟩ := h
  by_cases hk : k = l
  · subst hk
    have hlt : k < (m.set k .gone).length := (List.getElem?_eq_some_iff.mp e).1
    rw [List.getElem?_set_self (by simpa using hlt)] at e
    cases e
    cases ng
  · rw [List.getElem?_set_ne hk] at e
    exact ⟨⟨c, e, ng⟩, fun z => hk z.symm⟩
theorem HR.drop (h : HR K r F H m) (k : Nat) : HR K r F H (m.set k .gone) := by
  refine ⟨by simp [h.len], h.sub, fun l a c e1 e2 ng => ?_, fun l l' a e1 e2 l1 l2 => h.inj l l' a e1 e2 (live_gone l1).1 (live_gone l2).1, fun l a kvs e1 e2 => ?_, fun i j a x y e1 e2 z1 z2 => ?_⟩
  · obtain ⟨⟨c', e3, ng'⟩, hl⟩ := live_gone ⟨c, e2, ng⟩
    rw [List.getElem?_set_ne (fun z => hl z.symm)] at e2
    exact h.cell l a c e1 e2 ng
  · by_cases hl : k = l
    · subst hl
      have hlt : k < (m.set k .gone).length := (List.getElem?_eq_some_iff.mp e2).1
      rw [List.getElem?_set_self (by simpa using hlt)] at e2
      cases e2
    · rw [List.getElem?_set_ne hl] at e2
      exact h.fz l a kvs e1 e2
  · have old : ∀ (i : Nat) x, (m.set k .gone)[i]? = some (.fz x) → m[i]? = some (.fz x) := fun i x e2 => by
      by_cases hl : k = i
      · subst hl
        have hlt : k < (m.set k .gone).length := (List.getElem?_eq_some_iff.mp e2).1
        rw [List.getElem?_set_self (by simpa using hlt)] at e2
        cases e2
      · rw [List.getElem?_set_ne hl] at e2
        exact e2
    exact h.fzi i j a x y e1 e2 (old i x z1) (old j y z2)
end
section
variable {K : PySem.W.Frag} {W : WX} {ta : TE} {a : ME}
/-- a list unpacked -/
def mLst (gs : MGs) : MG := fun d δ => match d with
  | .lst ds => gs ds δ
  | _ => none
theorem sg_lst {gs : TGs} {mgs : MGs} {n : Nat} (hm : Many mgs n) (hs : SGs K gs mgs) : SG K (gUnl K n gs) (mLst mgs) := fun d δ δ' e => by
  cases d with
  | lst ds =>
    intro r F H m σ v hr er p Q q
    cases p with
    | lst h ha => exact ⟨_, _, rfl, SqL.of (hr.sub _ _ h), ha.len.trans (hm.len e), hs ds δ δ' e r F H m σ _ hr er ha Q q⟩
  | _ => cases e
end
end DL
/-! texts of numbers, texts put together; int(truth); insert, index, count of lists -/
namespace DL
open PySem PySem.Spec PyProof.Rows L2
section
variable {K : PySem.W.Frag} {W : WX} {ta tb tc : TE} {tas : TA} {a b c : ME} {as : MA}
abbrev rStrI : List V → Hp → VK → Prop := fun xs H Q => ∃ i, xs = [.int i] ∧ i.natAbs.log2 < 1920 ∧ Q (.str (toString i)) H
def pStrI : List D → Store → MX D := fun xs m => match xs with
  | [.int i] => if i.natAbs.log2 < 1920 then ret (.str (toString i)) m else none
  | _ => none
theorem sc_pStrI : SC K W (RE K) rStrI pStrI := fun xs m res m' e r F H σ vs hr p => by
  unfold pStrI at e
  split at e
  · rename_i i
    split at e
    · rename_i hi
      cases e
      obtain ⟨v, rfl, pv⟩ := rep1 p
      cases pv
      exact fun Q q => ⟨i, rfl, hi, q _ r F H hr (Ext.refl hr) (.str _)⟩
    · cases e
  · cases e
abbrev rInt1 : List V → Hp → VK → Prop := fun xs H Q => (∃ i, xs = [.int i] ∧ Q (.int i) H) ∨ ∃ k, xs = [.bl k] ∧ Q (.int (if k then 1 else 0)) H
def pInt1 : List D → Store → MX D := fun xs m => match xs with
  | [.int i] => ret (.int i) m
  | [.bl k] => ret (.int (if k then 1 else 0)) m
  | _ => none
theorem sc_pInt1 : SC K W (RE K) rInt1 pInt1 := fun xs m res m' e r F H σ vs hr p => by
  unfold pInt1 at e
  split at e
  · cases e
    obtain ⟨v, rfl, pv⟩ := rep1 p
    cases pv
    exact fun Q q => .inl ⟨_, rfl, q _ r F H hr (Ext.refl hr) (.int _)⟩
  · cases e
    obtain ⟨v, rfl, pv⟩ := rep1 p
    cases pv
    exact fun Q q => .inr ⟨_, rfl, q _ r F H hr (Ext.refl hr) (.int _)⟩
  · cases e
abbrev oAddS : R2 := fun x y H Q => ∃ i j, x = .str i ∧ y = .str j ∧ i.length + j.length ≤ sizeLine ∧ Q (.str (i ++ j)) H
def pAddS : D → D → Store → MX D := fun x y m => match x, y with
  | .str i, .str j => if i.length + j.length ≤ 100000 then ret (.str (i ++ j)) m else none
  | _, _ => none
theorem s2_pAddS : S2 K W oAddS pAddS := fun x y m res m' e r F H σ vx vy hr px py => by
  unfold pAddS at e
  split at e
  · split at e
    · rename_i hl
      cases e; cases px; cases py
      exact fun Q q => ⟨_, _, rfl, rfl, Evl.sz_of hl, q _ r F H hr (Ext.refl hr) (.str _)⟩
    · cases e
  · cases e
end
end DL
/-! remove and count over data at any depth -/
namespace DL
open PySem PySem.Spec PyProof.Rows L2
mutual
theorem plain_toPy : ∀ d : D, d.toPy.plain = true
  | .non => rfl
  | .bl b => rfl
  | .int i => rfl
  | .str x => rfl
  | .lst xs => plain_toPys xs
  | .tup xs => plain_toPys xs
  | .cell _ => rfl
  | .scr ns => by
    show PyData.plainAll (ns.map PyData.int) = true
    induction ns with
    | nil => rfl
    | cons n ns ih => exact ih
  | .exc _ => rfl
theorem plain_toPys : ∀ ds : List D, PyData.plainAll (D.toPys ds) = true
  | [] => rfl
  | d :: ds => by
    show (d.toPy.plain && PyData.plainAll (D.toPys ds)) = true
    rw [plain_toPy d, plain_toPys ds]; rfl
end
section
variable {K : PySem.W.Frag} {W : WX}
/-- two names at once -/
def par2 (i j : Nat) (xs : List D) (δ : En) (m : Store) : Option OT := match xs with
  | [x, y] => some (.nx ((δ.set i (some x)).set j (some y)) m)
  | _ => none
def sPar (i j : Nat) (as : MA) : MS := fun δ m => (as δ m).run δ fun xs m => par2 i j xs δ m
end
end DL
/-! dicts in cells: made anew, looked up, put into -/
namespace DL
open PySem PySem.Spec PyProof.Rows L2
def cellK (m : Store) (d : D) : Option (Nat × List (Key × D)) := match d with
  | .cell k => match m[k]? with
    | some (.dK kvs) => some (k, kvs)
    | _ => none
  | _ => none
def keyD : D → Option Key
  | .int i => some (.inl i)
  | .str x => some (.inr x)
  | _ => none
def valD (kvs : List (Key × D)) (k : Key) : Option D := (kvs.find? fun kv => decide (kv.1 = k)).map (·.2)
def putD (kvs : List (Key × D)) (k : Key) (v : D) : List (Key × D) :=
  if (kvs.any fun kv => decide (kv.1 = k)) = true then kvs.map (fun kv => if kv.1 = k then (kv.1, v) else kv) else kvs ++ [(k, v)]
section
variable {K : PySem.W.Frag} {W : WX} {r : List Addr} {F H : Hp} {m : Store} {v : V} {d : D} {k : Key}
theorem keyD_get (h : keyD d = some k) (p : Rep K r F v d) : v = kV k := by
  cases d with
  | int i => cases h; cases p; rfl
  | str x => cases h; cases p; rfl
  | _ => cases h
theorem cellK_get {j : Nat} {kvs : List (Key × D)} (h : cellK m d = some (j, kvs)) (hr : HR K r F H m) (p : Rep K r F v d) : ∃ a gs, v = .ref a ∧ r[j]? = some a ∧ m[j]? = some (.dK kvs) ∧ H a = some (.dK gs) ∧ RepK K r F gs kvs := by
  cases d with
  | cell k' =>
    unfold cellK at h
    dsimp only at h
    split at h
    · rename_i ys e
      cases h
      cases p with
      | cell ea =>
        obtain ⟨_, gs, h1, h2⟩ := hr.cell _ _ _ ea e rfl
        exact ⟨_, _, rfl, ea, e, h1, h2⟩
    · cases h
  | _ => cases h
/-- a dict that is read: it may be locked -/
def cellR (m : Store) (d : D) : Option (Nat × List (Key × D)) := match d with
  | .cell k => match m[k]? with
    | some (.dK kvs) => some (k, kvs)
    | some (.fz kvs) => some (k, kvs)
    | _ => none
  | _ => none
theorem cellR_get {j : Nat} {kvs : List (Key × D)} (h : cellR m d = some (j, kvs)) (hr : HR K r F H m) (p : Rep K r F v d) : ∃ a gs, v = .ref a ∧ r[j]? = some a ∧ L2.Rd H a (.dK gs) ∧ RepK K r F gs kvs := by
  cases d with
  | cell k' =>
    unfold cellR at h
    dsimp only at h
    split at h
    · rename_i ys e
      cases h
      cases p with
      | cell ea =>
        obtain ⟨_, gs, h1, h2⟩ := hr.cell _ _ _ ea e rfl
        exact ⟨_, _, rfl, ea, .inl h1, h2⟩
    · rename_i ys e
      cases h
      cases p with
      | cell ea =>
        obtain ⟨od, gs, h1, h2⟩ := hr.fz _ _ _ ea e
        exact ⟨_, _, rfl, ea, .inr ⟨od, hr.sub _ _ h1⟩, h2⟩
    · cases h
  | _ => cases h
theorem rep_len : ∀ {gs : List (Key × V)} {kvs : List (Key × D)}, RepK K r F gs kvs → gs.length = kvs.length
  | [], [], _ => rfl
  | _ :: _, _ :: _, h => congrArg Nat.succ (rep_len h.2.2)
  | [], _ :: _, h => h.elim
  | _ :: _, [], h => h.elim
theorem rep_any : ∀ {gs : List (Key × V)} {kvs : List (Key × D)}, RepK K r F gs kvs → (gs.any fun kv => decide (kv.1 = k)) = kvs.any fun kv => decide (kv.1 = k)
  | [], [], _ => rfl
  | (x, _) :: gs, (y, _) :: fs, h => by
    have e : x = y := h.1
    rw [List.any_cons, List.any_cons, rep_any h.2.2, e]
  | [], _ :: _, h => h.elim
  | _ :: _, [], h => h.elim
theorem rep_val : ∀ {gs : List (Key × V)} {kvs : List (Key × D)}, RepK K r F gs kvs → (∃ v d, valV gs k = some v ∧ valD kvs k = some d ∧ Rep K r F v d) ∨ (valV gs k = none ∧ valD kvs k = none)
  | [], [], _ => .inr ⟨rfl, rfl⟩
  | (x, v) :: gs, (y, d) :: fs, h => by
    obtain ⟨e, p, q⟩ := h
    subst e
    by_cases hx : x = k
    · exact .inl ⟨v, d, by simp [valV, List.find?_cons, hx], by simp [valD, List.find?_cons, hx], p⟩
    · rcases rep_val q with ⟨v', d', e1, e2, p'⟩ | ⟨e1, e2⟩
      · exact .inl ⟨v', d', by rw [valV_neg hx]; exact e1, by unfold valD at e2 ⊢; rw [List.find?_cons, decide_eq_false hx]; exact e2, p'⟩
      · exact .inr ⟨by rw [valV_neg hx]; exact e1, by unfold valD at e2 ⊢; rw [List.find?_cons, decide_eq_false hx]; exact e2⟩
  | [], _ :: _, h => h.elim
  | _ :: _, [], h => h.elim
theorem rep_upd {w : V} {e : D} (p : Rep K r F w e) : ∀ {gs : List (Key × V)} {kvs : List (Key × D)}, RepK K r F gs kvs → RepK K r F (gs.map fun kv => if kv.1 = k then (kv.1, w) else kv) (kvs.map fun kv => if kv.1 = k then (kv.1, e) else kv)
  | [], [], _ => trivial
  | (x, v) :: gs, (y, d) :: fs, h => by
    obtain ⟨ex, q, t⟩ := h
    subst ex
    have ih := rep_upd p t
    rw [List.map_cons, List.map_cons]
    by_cases hx : x = k
    · rw [if_pos hx, if_pos hx]; exact ⟨rfl, p, ih⟩
    · rw [if_neg hx, if_neg hx]; exact ⟨rfl, q, ih⟩
  | [], _ :: _, h => h.elim
  | _ :: _, [], h => h.elim
theorem rep_snoc {w : V} {e : D} (p : Rep K r F w e) : ∀ {gs : List (Key × V)} {kvs : List (Key × D)}, RepK K r F gs kvs → RepK K r F (gs ++ [(k, w)]) (kvs ++ [(k, e)])
  | [], [], _ => ⟨rfl, p, trivial⟩
  | (x, v) :: gs, (y, d) :: fs, h => ⟨h.1, h.2.1, rep_snoc p h.2.2⟩
  | [], _ :: _, h => h.elim
  | _ :: _, [], h => h.elim
theorem rep_put {w : V} {e : D} (p : Rep K r F w e) {gs : List (Key × V)} {kvs : List (Key × D)} (h : RepK K r F gs kvs) : RepK K r F (putK gs k w) (putD kvs k e) := by
  unfold putK putD
  rw [rep_any h]
  split
  · exact rep_upd p h
  · exact rep_snoc p h
/-- {} -/
def eDNew : ME := fun δ m => ret (.cell m.length) (m ++ [.dK []])
theorem so_dnew : So K W (RE K) tDNewK eDNew := fun δ m res m' e r F H σ hr er => by
  cases e
  refine fun Q q p hp => ?_
  have h1 := hr.side (o := .dK []) hp
  have fp : F p = none := hr.sub.free hp
  have np : ∀ (k : Nat), live m k → r[k]? ≠ some p := fun k l e => hr.ne_new hp l e rfl
  have h2 : HR K (r ++ [p]) F (upd H p (.dK [])) (m ++ [.dK []]) := h1.toCell fp np ⟨[], upd_same, trivial⟩
  exact q _ _ _ _ h2 ((Ext.side hr hp).toCell hr.len hp) (.cell (by rw [← hr.len]; simp))
/-- d[y] -/
abbrev rDGet : R2 := fun x y H Q => ∃ a v, x = .ref a ∧ DGet H a y (some v) ∧ Q v H
def pDGet : D → D → Store → MX D := fun x y m => (cellR m x).bind fun p => (keyD y).bind fun k => (valD p.2 k).bind fun d => ret d m
theorem s2_pDGet : S2 K W rDGet pDGet := fun x y m res m' e r F H σ vx vy hr px py => by
  unfold pDGet at e
  cases h0 : cellR m x with
  | none => rw [h0] at e; cases e
  | some p =>
    obtain ⟨j, kvs⟩ := p
    rw [h0] at e
    simp only [Option.bind_some] at e
    cases h1 : keyD y with
    | none => rw [h1] at e; cases e
    | some k =>
      rw [h1] at e
      simp only [Option.bind_some] at e
      cases h2 : valD kvs k with
      | none => rw [h2] at e; cases e
      | some d =>
        rw [h2] at e; cases e
        obtain ⟨a, gs, rfl, ea, h3, h4⟩ := cellR_get h0 hr px
        cases keyD_get h1 py
        rcases rep_val (k := k) h4 with ⟨v, d', e1, e2, pv⟩ | ⟨_, e2⟩
        · rw [h2] at e2; cases e2
          exact fun Q q => ⟨a, v, rfl, by rw [← e1]; exact (Or.inl ⟨gs, k, h3, rfl, rfl⟩ : DGet H a (kV k) (valV gs k)), q _ r F H hr (Ext.refl hr) pv⟩
        · rw [h2] at e2; cases e2
/-- y in d, y not in d -/
abbrev rDIn (neg : Bool) : R2 := fun y x H Q => ∃ a o, x = .ref a ∧ DGet H a y o ∧ Q (.bl (if neg then !o.isSome else o.isSome)) H
def pDIn (neg : Bool) : D → D → Store → MX D := fun y x m => (cellR m x).bind fun p => (keyD y).bind fun k => ret (.bl (if neg then !(valD p.2 k).isSome else (valD p.2 k).isSome)) m
theorem s2_pDIn {neg : Bool} : S2 K W (rDIn neg) (pDIn neg) := fun y x m res m' e r F H σ vy vx hr py px => by
  unfold pDIn at e
  cases h0 : cellR m x with
  | none => rw [h0] at e; cases e
  | some p =>
    obtain ⟨j, kvs⟩ := p
    rw [h0] at e
    simp only [Option.bind_some] at e
    cases h1 : keyD y with
    | none => rw [h1] at e; cases e
    | some k =>
      rw [h1] at e; cases e
      obtain ⟨a, gs, rfl, ea, h3, h4⟩ := cellR_get h0 hr px
      cases keyD_get h1 py
      have hs : (valD kvs k).isSome = (valV gs k).isSome := by
        rcases rep_val (k := k) h4 with ⟨v, d', e1, e2, _⟩ | ⟨e1, e2⟩ <;> rw [e1, e2] <;> rfl
      exact fun Q q => ⟨a, _, rfl, (Or.inl ⟨gs, k, h3, rfl, rfl⟩ : DGet H a (kV k) (valV gs k)), by rw [← hs]; exact q _ r F H hr (Ext.refl hr) (.bl _)⟩
/-- d[y] = v -/
def sDPutI (e o i : ME) : MS := fun δ m => (e δ m).run δ fun v m => (o δ m).run δ fun x m => (i δ m).run δ fun y m => (cellK m x).bind fun p => (keyD y).bind fun k => if p.2.length < 100000 then some (.nx δ (m.set p.1 (.dK (putD p.2 k v)))) else none
theorem ss_dput {te to ti : WX → TE} {e o i : ME} (he : ∀ W, So K W (RE K) (te W) e) (ho : ∀ W, So K W (RE K) (to W) o) (hi : ∀ W, So K W (RE K) (ti W) i) : SS K (fun W => sDPut (to W) (ti W) (te W)) (sDPutI e o i) := fun W δ m out q r F H σ D hr er h => by
  show te W σ H fun v H1 => to W σ H1 fun o H2 => ti W σ H2 fun i H3 => ∃ a H4, o = .ref a ∧ DPut H3 a i v H4 ∧ D.nx σ H4
  rcases run_some q with ⟨d, m1, e1, q⟩ | ⟨y, m1, e1, rfl⟩
  · refine he W δ m _ _ e1 r F H σ hr er _ fun v r1 F1 H1 hr1 x1 rv => ?_
    have er1 := er.ext x1
    rcases run_some q with ⟨x, m2, e2, q⟩ | ⟨y, m2, e2, rfl⟩
    · refine ho W δ m1 _ _ e2 r1 F1 H1 σ hr1 er1 _ fun ov r2 F2 H2 hr2 x2 rx => ?_
      have er2 := er1.ext x2
      have x02 := x1.trans hr1.len hr.len x2
      rcases run_some q with ⟨y, m3, e3, q⟩ | ⟨y, m3, e3, rfl⟩
      · refine hi W δ m2 _ _ e3 r2 F2 H2 σ hr2 er2 _ fun iv r3 F3 H3 hr3 x3 ry => ?_
        have er3 := er2.ext x3
        have x03 := x02.trans hr2.len hr.len x3
        cases h0 : cellK m3 x with
        | none => rw [h0] at q; cases q
        | some p =>
          obtain ⟨kk, kvs⟩ := p
          rw [h0] at q
          simp only [Option.bind_some] at q
          cases h1 : keyD y with
          | none => rw [h1] at q; cases q
          | some k =>
            rw [h1] at q
            simp only [Option.bind_some] at q
            split at q
            · rename_i hlen
              cases q
              obtain ⟨a, gs, rfl, ea, hk, h3, h4⟩ := cellK_get h0 hr3 (rx.mono x3.pre x3.sub)
              cases keyD_get h1 ry
              have lv : live m3 kk := ⟨_, hk, rfl⟩
              have pv := (rv.mono x2.pre x2.sub).mono x3.pre x3.sub
              have z1 : HR K r3 F3 (upd H3 a (.dK (putK gs k v))) (m3.set kk (.dK (putD kvs k d))) := hr3.put lv ea (fun b z => by rw [h3] at z; cases z) ⟨_, upd_same, rep_put pv h4⟩
              exact ⟨a, _, rfl, DPut.k h3 (Evl.sz_lt (by rw [rep_len h4]; exact hlen)), h σ r3 F3 _ z1 er3 (x03.trans hr3.len hr.len (Ext.put hr3 lv ea))⟩
            · cases q
      · exact hi W δ m2 _ _ e3 r2 F2 H2 σ hr2 er2 (fun r' F' H' hr' x' => h σ r' F' H' hr' (er2.ext x') (x02.trans hr2.len hr.len x')) _
    · exact ho W δ m1 _ _ e2 r1 F1 H1 σ hr1 er1 (fun r' F' H' hr' x' => h σ r' F' H' hr' (er1.ext x') (x1.trans hr1.len hr.len x')) _
  · exact he W δ m _ _ e1 r F H σ hr er (fun r' F' H' hr' x' => h σ r' F' H' hr' (er.ext x') x') _
end
end DL
/-! {k: v}; a def that keeps its cells -/
namespace DL
open PySem PySem.Spec PyProof.Rows L2
theorem hu1 {k : Nat} {A : Around} (r : Room k A) : A.units + 1 < cLine := by have := r.units; omega
noncomputable def endA : Option OT → MX FT
  | some (.rt d m') => ret (.pl d) m'
  | some (.nx _ m') => ret (.pl .non) m'
  | some (.ex x _ m') => some (.ex x, m')
  | _ => none
/-- a def whose cells all go on to the caller -/
noncomputable def fnA (n N : Nat) (b : MS) : FnS := fun ds m => if ds.length = n then endA (b (st N ds) m) else none
theorem fn_okA {CX : CXT} {P : Program} {w : World} {K : PySem.W.Frag} {mg : Str → Option Value} {base : Heap} {x qual : Str} {params : Arguments} {body : List Stmt} {scope : Scope} {f : Addr} {fd : FuncData} {N ps : List Str} {k n kk : Nat} {b : MS} {ff : FnS}
    (F : FunD K x qual params body scope [] [] f fd) (sc : FnScope N ps scope) (t : WX → TS)
    (hP : ∀ (cdv : Value) (A : Around) (outer : List Env) (s : Shared) (H : Hp) (E : XK), Room k (A.deeper (envOfC qual scope s.heap.objs.size f cdv)) → PSs (cxOf CX P w K mg base N qual scope f cdv A outer s H E) body (t fun cls d _ H' => E cls d H'))
    (hS : SS K t b) (hf : ff = fnA n kk b) (hn : ps.length = n) (hk : N.length = kk) : FnOk P w K mg base CX (k + 1) f fd ps (spF K ff) := by
  subst hf hn hk
  refine F.ok sc (fun vs H Q E h => ?_) (fun cdv A outer s H vs Q E hr h => ?_)
  · obtain ⟨r, F, m, ds, res, m', _, p, hs, _⟩ := h
    rw [p.len]
    unfold fnA at hs
    split at hs
    · rename_i hl; exact hl
    · cases hs
  · obtain ⟨r, F, m, ds, res, m', hr0, p, hs, q⟩ := h
    unfold fnA at hs
    split at hs
    · refine ⟨_, hP cdv A outer s H E hr, ?_⟩
      cases ho : b (st N.length ds) m with
      | none => rw [ho] at hs; cases hs
      | some o =>
        rw [ho] at hs
        refine hS (fun cls d _ H' => E cls d H') _ _ _ ho r F H _ _ hr0 (er_start p) ?_
        cases o with
        | rt d m1 =>
            cases hs
            intro v r' F' H' h1 x1 p1
            exact q v r' F' H' h1 x1 ⟨[], ⟨p1, rfl⟩, .nil, fun a ha => nomatch ha⟩
        | nx δ m1 =>
            cases hs
            intro σ' r' F' H' h1 _ x1
            exact q .non r' F' H' h1 x1 ⟨[], ⟨.non, rfl⟩, .nil, fun a ha => nomatch ha⟩
        | ex y δ m1 =>
            cases hs
            intro σ' r' F' H' h1 _ x1
            exact q r' F' H' h1 x1
        | bk δ m1 => cases hs
        | ct δ m1 => cases hs
    · cases hs
theorem wp_fnA {n N : Nat} {b : MS} {ds : List D} {m : Store} {Q : RX FT → Store → Prop} (h : ds.length = n) (k : ws (b (st N ds) m) (fun o => wp (endA (some o)) Q)) : wp (fnA n N b ds m) Q := by
  unfold fnA
  rw [if_pos h]
  revert k
  cases b (st N ds) m with
  | none => exact fun k => k
  | some o => exact fun k => k
theorem endA_rt {m' : Store} {d : D} : endA (some (.rt d m')) = ret (.pl d) m' := rfl
theorem endA_nx {m' : Store} {δ : En} : endA (some (.nx δ m')) = ret (.pl .non) m' := rfl
end DL
/-! == of tuples and lists that hold cells -/
namespace DL
open PySem PySem.Spec PyProof.Rows L2
mutual
def dvw (m : Store) : D → Option D
  | .cell k => match m[k]? with
    | some (.lst xs) => some (.lst xs)
    | _ => none
  | .tup ds => (dvws m ds).map D.tup
  | .lst ds => (dvws m ds).map D.lst
  | d => some d
def dvws (m : Store) : List D → Option (List D)
  | [] => some []
  | d :: ds => (dvw m d).bind fun d' => (dvws m ds).map fun ds' => d' :: ds'
end
section
variable {K : PySem.W.Frag} {W : WX} {r : List Addr} {F H : Hp} {m : Store}
mutual
theorem dvw_dp (hr : HR K r F H m) : ∀ {v : V} {d d' : D} {n : Nat}, Rep K r F v d → dvw m d = some d' → Sh n d' → Dp K H v d'.toPy
  | _, _, _, n, .non, e, _ => by simp only [dvw, Option.some.injEq] at e; subst e; exact .non
  | _, _, _, n, .bl b, e, _ => by simp only [dvw, Option.some.injEq] at e; subst e; exact .bl b
  | _, _, _, n, .int i, e, _ => by simp only [dvw, Option.some.injEq] at e; subst e; exact .int i
  | _, _, _, n, .str x, e, _ => by simp only [dvw, Option.some.injEq] at e; subst e; exact .str x
  | _, _, _, n, .lst h t, e, s => by
    rw [dvw] at e
    cases q : dvws m _ with
    | none => rw [q] at e; cases e
    | some ds =>
      rw [q] at e; cases e
      refine .lst (SqL.of (hr.sub _ _ h)) (dvws_dp hr t q ?_ (n := n - 1))
      cases n with
      | zero => exact absurd s (by simp [Sh])
      | succ n => exact s
  | _, _, _, n, .tup h t, e, s => by
    rw [dvw] at e
    cases q : dvws m _ with
    | none => rw [q] at e; cases e
    | some ds =>
      rw [q] at e; cases e
      refine .tup (SqT.of (hr.sub _ _ h)) (dvws_dp hr t q ?_ (n := n - 1))
      cases n with
      | zero => exact absurd s (by simp [Sh])
      | succ n => exact s
  | _, _, _, n, .cell ea, e, s => by
    rw [dvw] at e
    split at e
    · rename_i xs hk
      cases e
      obtain ⟨_, vs, h1, h2⟩ := hr.cell _ _ _ ea hk rfl
      exact .lst (SqL.of h1) (h2.dp hr.sub s.pure)
    · cases e
  | _, _, _, n, .scr h, e, _ => by simp only [dvw, Option.some.injEq] at e; subst e; exact Rep.dp (r := r) hr.sub rfl (.scr h)
  | _, _, _, n, .exc h, e, s => by
    simp only [dvw, Option.some.injEq] at e
    subst e
    exact absurd s.pure (by simp [D.pure])
theorem dvws_dp (hr : HR K r F H m) : ∀ {vs : List V} {ds ds' : List D} {n : Nat}, RepAll K r F vs ds → dvws m ds = some ds' → (∀ x ∈ ds', Sh n x) → DpAll K H vs (D.toPys ds')
  | _, _, _, n, .nil, e, _ => by rw [dvws] at e; cases e; exact .nil
  | _, _, _, n, .cons p ps, e, s => by
    rw [dvws] at e
    cases q : dvw m _ with
    | none => rw [q] at e; cases e
    | some d' =>
      rw [q] at e
      simp only [Option.bind_some] at e
      cases q2 : dvws m _ with
      | none => rw [q2] at e; cases e
      | some ds' =>
        rw [q2] at e
        cases e
        exact .cons (dvw_dp hr p q (s _ List.mem_cons_self)) (dvws_dp hr ps q2 fun x hx => s x (List.mem_cons_of_mem _ hx))
end
mutual
theorem dvw_sh {m : Store} : ∀ {n : Nat} (d : D), Sh n d → dvw m d = some d
  | n, .non, _ => by simp only [dvw]
  | n, .bl _, _ => by simp only [dvw]
  | n, .int _, _ => by simp only [dvw]
  | n, .str _, _ => by simp only [dvw]
  | n, .lst ds, s => by
    rw [dvw, dvws_sh (n := n - 1) ds (by
      cases n with
      | zero => exact absurd s (by simp [Sh])
      | succ n => exact s)]; rfl
  | n, .tup ds, s => by
    rw [dvw, dvws_sh (n := n - 1) ds (by
      cases n with
      | zero => exact absurd s (by simp [Sh])
      | succ n => exact s)]; rfl
  | n, .cell k, s => absurd s.pure (by simp [D.pure])
  | n, .scr _, _ => by simp only [dvw]
  | n, .exc _, _ => by simp only [dvw]
theorem dvws_sh {m : Store} : ∀ {n : Nat} (ds : List D), (∀ x ∈ ds, Sh n x) → dvws m ds = some ds
  | n, [], _ => by rw [dvws]
  | n, d :: ds, s => by
    rw [dvws, dvw_sh d (s _ List.mem_cons_self), dvws_sh ds fun x hx => s x (List.mem_cons_of_mem _ hx)]; rfl
end
end
end DL
/-! three comparisons in a row; a def that calls itself -/
namespace DL
open PySem PySem.Spec PyProof.Rows L2
def eChain3 (o1 o2 o3 : D → D → Store → MX D) (a b c d : ME) : ME := fun δ m => (a δ m).bind fun x m => (b δ m).bind fun y m => (o1 x y m).bind fun z m => match z with
  | .bl k => cond k ((c δ m).bind fun w m => (o2 y w m).bind fun z2 m => match z2 with
    | .bl k2 => cond k2 ((d δ m).bind fun u m => o3 w u m) (ret (.bl false) m)
    | _ => none) (ret (.bl false) m)
  | _ => none
end DL
/-! instances of a class in cells: a field read and put, a method called, one made anew; x[i] += e -/
namespace DL
open PySem PySem.Spec PyProof.Rows L2
def putFD (f : Str) (v : D) : List (Str × D) → List (Str × D)
  | [] => [(f, v)]
  | (g, x) :: r => if g = f then (g, v) :: r else (g, x) :: putFD f v r
def lkF (f : Str) : List (Str × D) → Option D
  | [] => none
  | (g, x) :: r => if g = f then some x else lkF f r
section
variable {K : PySem.W.Frag} {W : WX} {r : List Addr} {F H : Hp} {m : Store}
theorem look_cons {α : Type} {f g : Str} {x : α} {l : List (Str × α)} : List.lookup f ((g, x) :: l) = if g = f then some x else List.lookup f l := by
  rw [List.lookup_cons]
  by_cases h : g = f
  · subst h; rw [if_pos rfl]; simp
  · rw [if_neg h]
    have : (f == g) = false := by simpa using fun e => h e.symm
    rw [this]
theorem repF_some {f : Str} {d : D} : ∀ {gs : List (Str × V)} {fs : List (Str × D)}, RepF K r F gs fs → lkF f fs = some d → ∃ v, gs.lookup f = some v ∧ Rep K r F v d
  | [], [], _, h => nomatch h
  | [], _ :: _, h, _ => h.elim
  | _ :: _, [], h, _ => h.elim
  | (x, v) :: gs, (y, e) :: fs, h, hl => by
    obtain ⟨rfl, h2, h3⟩ := h
    unfold lkF at hl
    rw [look_cons]
    by_cases hx : x = f
    · rw [if_pos hx] at hl ⊢; cases hl; exact ⟨v, rfl, h2⟩
    · rw [if_neg hx] at hl ⊢; exact repF_some h3 hl
theorem repF_none {f : Str} : ∀ {gs : List (Str × V)} {fs : List (Str × D)}, RepF K r F gs fs → lkF f fs = none → gs.lookup f = none
  | [], [], _, _ => rfl
  | [], _ :: _, h, _ => h.elim
  | _ :: _, [], h, _ => h.elim
  | (x, v) :: gs, (y, e) :: fs, h, hl => by
    obtain ⟨rfl, h2, h3⟩ := h
    unfold lkF at hl
    rw [look_cons]
    by_cases hx : x = f
    · rw [if_pos hx] at hl; cases hl
    · rw [if_neg hx] at hl ⊢; exact repF_none h3 hl
theorem repF_put {f : Str} {v : V} {d : D} (p : Rep K r F v d) : ∀ {gs : List (Str × V)} {fs : List (Str × D)}, RepF K r F gs fs → RepF K r F (putF f v gs) (putFD f d fs)
  | [], [], _ => ⟨rfl, p, trivial⟩
  | [], _ :: _, h => h.elim
  | _ :: _, [], h => h.elim
  | (x, v') :: gs, (y, e) :: fs, h => by
    obtain ⟨rfl, h2, h3⟩ := h
    unfold putF putFD
    by_cases hx : x = f
    · rw [if_pos hx, if_pos hx]; exact ⟨rfl, p, h3⟩
    · rw [if_neg hx, if_neg hx]; exact ⟨rfl, h2, repF_put p h3⟩
theorem repF_len : ∀ {gs : List (Str × V)} {fs : List (Str × D)}, RepF K r F gs fs → gs.length = fs.length
  | [], [], _ => rfl
  | [], _ :: _, h => h.elim
  | _ :: _, [], h => h.elim
  | (x, v') :: gs, (y, e) :: fs, h => congrArg Nat.succ (repF_len h.2.2)
/-- the instance in a cell -/
def cellI (m : Store) (x : Str) (d : D) : Option (Nat × List (Str × D)) := match d with
  | .cell k => match m[k]? with
    | some (.ins C fs) => if C = x then some (k, fs) else none
    | _ => none
  | _ => none
theorem cellI_get {x : Str} {d : D} {v : V} {j : Nat} {fs : List (Str × D)} (h : cellI m x d = some (j, fs)) (hr : HR K r F H m) (p : Rep K r F v d) : ∃ a dx gs, v = .ref a ∧ d = .cell j ∧ r[j]? = some a ∧ m[j]? = some (.ins x fs) ∧ H a = some (.ins (He.ga K x) dx gs) ∧ H dx = some (.own a) ∧ RepF K r F gs fs := by
  cases d with
  | cell k' =>
    unfold cellI at h
    dsimp only at h
    split at h
    · rename_i C ys e
      split at h
      · rename_i hC
        cases h
        subst hC
        cases p with
        | cell ea =>
          obtain ⟨_, dx, gs, h1, h2, h3⟩ := hr.cell _ _ _ ea e rfl
          exact ⟨_, dx, gs, rfl, rfl, ea, e, h1, h2, h3⟩
      · cases h
    · cases h
  | _ => cases h
/-- e.f -/
def eFld (x f : Str) (a : ME) : ME := fun δ m => (a δ m).bind fun v m => (cellI m x v).bind fun p => (lkF f p.2).bind fun d => ret d m
theorem so_fld {x f : Str} {ta : TE} {a : ME} (c : Cls K (He.ga K x)) (n : NoAttr K (He.ga K x) f) (ha : So K W (RE K) ta a) : So K W (RE K) (tFld K ta f) (eFld x f a) :=
  So.bind re_mon ha (k := fun v δ m => (cellI m x v).bind fun p => (lkF f p.2).bind fun d => ret d m) (u := fun v σ H1 Q => ∃ a C dx fs w, v = .ref a ∧ H1 a = some (.ins C dx fs) ∧ Cls K C ∧ NoAttr K C f ∧ fs.lookup f = some w ∧ Q w H1) fun d δ m res m' e v r F H σ H0 hr er rv => by
    cases h0 : cellI m x d with
    | none => rw [h0] at e; cases e
    | some p =>
      obtain ⟨j, fs⟩ := p
      rw [h0] at e
      simp only [Option.bind_some] at e
      cases h1 : lkF f fs with
      | none => rw [h1] at e; cases e
      | some w =>
        rw [h1] at e
        cases e
        obtain ⟨a, dx, gs, rfl, _, ea, hk, h2, h3, h4⟩ := cellI_get h0 hr rv
        obtain ⟨u, l, p⟩ := repF_some h4 h1
        exact fun Q q => ⟨a, _, dx, gs, u, rfl, h2, c, n, l, q _ r F H hr (Ext.refl hr) p⟩
/-- e.f = v -/
def sFldI (x f : Str) (e o : ME) : MS := fun δ m => (e δ m).run δ fun v m => (o δ m).run δ fun w m => (cellI m x w).bind fun p => if p.2.length < 1000 then some (.nx δ (m.set p.1 (.ins x (putFD f v p.2)))) else none
theorem ss_fld {x f : Str} {te to : WX → TE} {e o : ME} (c : Cls K (He.ga K x)) (n : NoAttr K (He.ga K x) f) (he : ∀ W, So K W (RE K) (te W) e) (ho : ∀ W, So K W (RE K) (to W) o) : SS K (fun W => sFld K (to W) (te W) f) (sFldI x f e o) := fun W δ m out q r F H σ D hr er h => by
  show te W σ H fun y H1 => to W σ H1 fun w H2 => ∃ a C dx fs, w = .ref a ∧ H2 a = some (.ins C dx fs) ∧ Cls K C ∧ NoAttr K C f ∧ fs.length < 1000 ∧ D.nx σ (upd H2 a (.ins C dx (putF f y fs)))
  rcases run_some q with ⟨d, m1, e1, q⟩ | ⟨y, m1, e1, rfl⟩
  · refine he W δ m _ _ e1 r F H σ hr er _ fun v r1 F1 H1 hr1 x1 rv => ?_
    have er1 := er.ext x1
    rcases run_some q with ⟨w, m2, e2, q⟩ | ⟨y, m2, e2, rfl⟩
    · refine ho W δ m1 _ _ e2 r1 F1 H1 σ hr1 er1 _ fun ov r2 F2 H2 hr2 x2 rx => ?_
      have er2 := er1.ext x2
      have x02 := x1.trans hr1.len hr.len x2
      cases h0 : cellI m2 x w with
      | none => rw [h0] at q; cases q
      | some p =>
        obtain ⟨j, fs⟩ := p
        rw [h0] at q
        simp only [Option.bind_some] at q
        split at q
        · rename_i hlen
          cases q
          obtain ⟨a, dx, gs, rfl, _, ea, hk, h2, h3, h4⟩ := cellI_get h0 hr2 rx
          have lv : live m2 j := ⟨_, hk, rfl⟩
          have na : dx ≠ a := fun z => by rw [z, h2] at h3; cases h3
          have z1 : HR K r2 F2 (upd H2 a (.ins (He.ga K x) dx (putF f v gs))) (m2.set j (.ins x (putFD f d fs))) := hr2.put lv ea (fun b z => by rw [h2] at z; cases z) ⟨dx, _, upd_same, by rw [upd_ne na]; exact h3, repF_put (rv.mono x2.pre x2.sub) h4⟩
          exact ⟨a, _, dx, gs, rfl, h2, c, n, by rw [repF_len h4]; exact hlen, h σ r2 F2 _ z1 er2 (x02.trans hr2.len hr.len (Ext.put hr2 lv ea))⟩
        · cases q
    · exact ho W δ m1 _ _ e2 r1 F1 H1 σ hr1 er1 (fun r' F' H' hr' x' => h σ r' F' H' hr' (er1.ext x') (x1.trans hr1.len hr.len x')) _
  · exact he W δ m _ _ e1 r F H σ hr er (fun r' F' H' hr' x' => h σ r' F' H' hr' (er.ext x') x') _
/-- o.m(..) -/
def fMeth (x mm : Str) (f : FnS) (o : ME) (as : MA) : MF := fun δ m => (o δ m).bind fun w m => (cellI m x w).bind fun p => match lkF mm p.2 with
  | some _ => none
  | none => (as δ m).bind fun ds m => (f (w :: ds) m).sure ret
theorem so_meth {x mm : Str} {f : FnS} {to : TE} {o : ME} {tas : TA} {as : MA} (ho : So K W (RE K) to o) (hs : So K W (RA K) tas as) : So K W (RF K) (tMeth (He.ga K x) mm (spF K f) [] E0 to tas) (fMeth x mm f o as) := fun δ m res m' e r F H σ hr er => by
  show JAt K W (RF K) r F H σ m (fun H Q => to σ H fun v H1 => ∃ a dx fs, v = .ref a ∧ H1 a = some (.ins (He.ga K x) dx fs) ∧ fs.lookup mm = none ∧ tas σ H1 fun vs H2 => spF K f (v :: (vs ++ [])) H2 Q E0) res m'
  rcases bind_some e with ⟨w, m1, e1, e2⟩ | ⟨y, e1, rfl⟩
  · refine (ho δ m _ _ e1 r F H σ hr er).bind rf_mon hr fun v r1 F1 H1 hr1 x1 rv => ?_
    cases h0 : cellI m1 x w with
    | none => rw [h0] at e2; cases e2
    | some p =>
      obtain ⟨j, fs⟩ := p
      rw [h0] at e2
      simp only [Option.bind_some] at e2
      cases h1 : lkF mm fs with
      | some _ => rw [h1] at e2; cases e2
      | none =>
        rw [h1] at e2
        obtain ⟨a, dx, gs, rfl, rfl, ea, hk, h2, h3, h4⟩ := cellI_get h0 hr1 rv
        have l := repF_none h4 h1
        have key : JAt K W (RF K) r1 F1 H1 σ m1 (fun H Q => tas σ H fun vs H2 => spF K f (.ref a :: (vs ++ [])) H2 Q E0) res m' := by
          rcases bind_some e2 with ⟨ds, m2, e3, e4⟩ | ⟨y, e3, rfl⟩
          · refine (hs δ m1 _ _ e3 r1 F1 H1 σ hr1 (er.ext x1)).bind rf_mon hr1 fun vs r2 F2 H2 hr2 x2 rs => ?_
            obtain ⟨ft, m3, e5, e6⟩ := sure_some e4
            cases e6
            intro Q q
            rw [List.append_nil]
            exact ⟨r2, F2, m2, _, .ok ft, m', hr2, .cons (rv.mono x2.pre x2.sub) rs, e5, fun v r' F' H' h1 h2 h3 => q v r' F' H' h1 h2 h3⟩
          · exact (hs δ m1 _ _ e3 r1 F1 H1 σ hr1 (er.ext x1)).thrown
        cases res with
        | ok z => exact fun Q q => ⟨a, dx, gs, rfl, h2, l, key Q q⟩
        | ex z => exact fun q Q => ⟨a, dx, gs, rfl, h2, l, key q Q⟩
  · exact (ho δ m _ _ e1 r F H σ hr er).thrown
/-- C(..) -/
def eMake (x : Str) (f : FnS) (as : MA) : ME := fun δ m => (as δ m).bind fun ds m => (f (.cell m.length :: ds) (m ++ [.ins x []])).sure fun ft m2 => match ft with
  | .pl .non => ret (.cell m.length) m2
  | _ => none
theorem so_make {x : Str} {f : FnS} {tas : TA} {as : MA} (hs : So K W (RA K) tas as) : So K W (RE K) (tMake (He.ga K x) (spF K f) [] E0 tas) (eMake x f as) := fun δ m res m' e r F H σ hr er => by
  show JAt K W (RE K) r F H σ m (fun H Q => tas σ H fun vs H1 => ∀ y dx, H1 y = none → H1 dx = none → dx ≠ y → spF K f (.ref y :: (vs ++ [])) (upd (upd H1 dx (.own y)) y (.ins (He.ga K x) dx [])) (fun v H2 => v = .non ∧ Q (.ref y) H2) E0) res m'
  rcases bind_some e with ⟨ds, m1, e1, e2⟩ | ⟨y, e1, rfl⟩
  · refine (hs δ m _ _ e1 r F H σ hr er).bind re_mon hr fun vs r1 F1 H1 hr1 x1 rs => ?_
    obtain ⟨ft, m2, e3, e4⟩ := sure_some e2
    split at e4
    · cases e4
      intro Q q y dx hy hd ne
      have hs1 : HR K r1 F1 (upd H1 dx (.own y)) m1 := hr1.side hd
      have y1 : Ext r1 F1 H1 m1 r1 F1 (upd H1 dx (.own y)) m1 := Ext.side hr1 hd
      have hy' : upd H1 dx (.own y) y = none := by rw [upd_ne (Ne.symm ne)]; exact hy
      have hs2 : HR K r1 F1 (upd (upd H1 dx (.own y)) y (.ins (He.ga K x) dx [])) m1 := hs1.side hy'
      have y2 := y1.trans hs1.len hr1.len (Ext.side (o := .ins (He.ga K x) dx []) hs1 hy')
      have fy : F1 y = none := hr1.sub.free hy
      have np : ∀ (k : Nat), live m1 k → r1[k]? ≠ some y := fun k l e => hr1.ne_new hy l e rfl
      have hs3 : HR K (r1 ++ [y]) F1 (upd (upd H1 dx (.own y)) y (.ins (He.ga K x) dx [])) (m1 ++ [.ins x []]) := hs2.toCell fy np ⟨dx, [], upd_same, by rw [upd_ne ne, upd_same], trivial⟩
      have y3 := y2.toCell (c := .ins x []) hs2.len hy
      rw [List.append_nil]
      refine ⟨r1 ++ [y], F1, _, _, .ok (.pl .non), m', hs3, .cons (.cell (by rw [← hr1.len]; simp)) (rs.mono (Pre.app _ _) (Same.refl _)), e3, fun v r' F' H' h1 h2 h3 => ?_⟩
      obtain ⟨as', ho, _⟩ := h3
      have ev : v = .non := by
        obtain ⟨p, _⟩ := ho
        cases p; rfl
      refine ⟨ev, q _ r' F' H' h1 (y3.trans hs3.len hr1.len h2) (.cell (h2.pre _ _ (by rw [← hr1.len]; simp)))⟩
    · cases e4
  · exact (hs δ m _ _ e1 r F H σ hr er).thrown
end
/-- a method that can be called, a class that can be made -/
def CalM (P : Program) (w : World) (K : PySem.W.Frag) (mg : Str → Option Value) (base : Heap) (x mm : Str) (k : Nat) (ps : List Str) (f : FnS) : Prop :=
  ∃ fd, FnOk P w K mg base (L2.CX P w) k (He.ma K (He.ga K x) mm) fd ps (spF K f) ∧ Binds K fd ps [] ∧ Meth K (He.ga K x) mm (He.ma K (He.ga K x) mm)
def CalI (P : Program) (w : World) (K : PySem.W.Frag) (mg : Str → Option Value) (base : Heap) (x : Str) (k : Nat) (ps : List Str) (f : FnS) : Prop :=
  ∃ fd, FnOk P w K mg base (L2.CX P w) k (He.ma K (He.ga K x) "__init__") fd ps (spF K f) ∧ Binds K fd ps [] ∧ Mk K (He.ga K x) (He.ma K (He.ga K x) "__init__") ∧ mg x = some (.ref (He.ga K x))
section
variable {X : Cx} {k : Nat} {ps : List Str} {f : FnS} {x mm : Str} {p pos apos : Pos} {o e : Expr} {es : List Expr} {t : TA} {ta : TE}
theorem pc_meth0 {j : Nat} {pl : Sem Bool} (C : CalM X.prog X.w X.K X.mg X.base x mm j ps f) (c : Cls X.K (He.ga X.K x)) (hr : Room j X.A) (ho : PE X o ta)
    (ht : eval (.Call (.Attribute o mm apos) [] [] pos) X.env = (do
      let ov ← eval o X.env
      standAt apos.atName
      let (f, first) ← holding [ov] (getMethod ov mm pl)
      callWith pos f first (backTo pos (starEach [] X.env)) (backToKw pos (keywordEach [] X.env))) := by rfl) : PE X (.Call (.Attribute o mm apos) [] [] pos) (tMeth (He.ga X.K x) mm (spF X.K f) [] E0 ta tNil) := by
  obtain ⟨fd, F, b, m⟩ := C
  exact pe_meth0 (pl := pl) ho c m F hr b .nil passL ht
theorem pc_make0 {j : Nat} (C : CalI X.prog X.w X.K X.mg X.base x j ps f) (hr : Room (j + 1) X.A) (hg : Gl X x) (hdb : (x == ("__debug__" : Str)) = false := by decide) : PE X (.Call (.Name x p) [] [] pos) (tMake (He.ga X.K x) (spF X.K f) [] E0 tNil) := by
  obtain ⟨fd, F, b, mk, m⟩ := C
  exact pe_make0 mk F hr hg m b .nil passL hdb
end
end DL
/-! texts: signs, parts, length, joined; dicts copied, sorted, counted; methods that raise -/
namespace DL
open PySem PySem.Spec PyProof.Rows L2
section
variable {K : PySem.W.Frag} {W : WX} {ta tb tc to : TE} {tas : TA} {a b c o : ME} {as : MA}
def chS (c : Nat) : D := .str ⟨#[c]⟩
def pIxS : D → D → Store → MX D := fun x y m => match x, y with
  | .str z, .int i => if z.length ≤ 100000 then (L2.atI z.cps.toList i).bind fun c => ret (chS c) m else none
  | _, _ => none
theorem s2_pIxS : S2 K W rIxS pIxS := fun x y m res m' e r F H σ vx vy hr px py => by
  unfold pIxS at e
  split at e
  · split at e
    · rename_i z i hl
      cases h0 : L2.atI z.cps.toList i with
      | none => rw [h0] at e; cases e
      | some c =>
        rw [h0] at e
        cases e; cases px; cases py
        exact fun Q q => ⟨z, i, c, rfl, rfl, Evl.sz_of hl, h0, q _ r F H hr (Ext.refl hr) (.str _)⟩
    · cases e
  · cases e
/-- a part of a text -/
def eSlS (a : ME) (l h : MO) : ME := fun δ m => (a δ m).bind fun x m => (l δ m).bind fun lo m => (h δ m).bind fun hi m => match x with
  | .str z => if z.length ≤ 100000 then ret (.str (L2.cutS z lo hi)) m else none
  | _ => none
theorem so_slS {tl th : TO} {l h : MO} (ha : So K W (RE K) ta a) (hl : So K W RO tl l) (hh : So K W RO th h) : So K W (RE K) (tSl rSlS ta tl th) (eSlS a l h) := fun δ m res m' e r F H σ hr er => by
  show JAt K W (RE K) r F H σ m (fun H Q => ta σ H fun x H1 => tl σ H1 fun lo H2 => th σ H2 fun hi H3 => rSlS x lo hi H3 Q) res m'
  rcases bind_some e with ⟨x, m1, e1, e2⟩ | ⟨y, e1, rfl⟩
  · refine (ha δ m _ _ e1 r F H σ hr er).bind re_mon hr fun v r1 F1 H1 hr1 x1 rv => ?_
    rcases bind_some e2 with ⟨lo, m2, e3, e4⟩ | ⟨y, e3, rfl⟩
    · refine (hl δ m1 _ _ e3 r1 F1 H1 σ hr1 (er.ext x1)).bind re_mon hr1 fun lo' r2 F2 H2 hr2 x2 rlo => ?_
      cases rlo
      rcases bind_some e4 with ⟨hi, m3, e5, e6⟩ | ⟨y, e5, rfl⟩
      · refine (hh δ m2 _ _ e5 r2 F2 H2 σ hr2 ((er.ext x1).ext x2)).bind re_mon hr2 fun hi' r3 F3 H3 hr3 x3 rhi => ?_
        cases rhi
        cases x with
        | str z =>
          dsimp only at e6
          split at e6
          · rename_i hz
            cases e6; cases rv
            exact fun Q q => ⟨z, rfl, Evl.sz_of hz, q _ r3 F3 _ hr3 (Ext.refl hr3) (.str _)⟩
          · cases e6
        | _ => cases e6
      · exact (hh δ m2 _ _ e5 r2 F2 H2 σ hr2 ((er.ext x1).ext x2)).thrown
    · exact (hl δ m1 _ _ e3 r1 F1 H1 σ hr1 (er.ext x1)).thrown
  · exact (ha δ m _ _ e1 r F H σ hr er).thrown
abbrev rLenTx : List V → Hp → VK → Prop := fun xs H Q => ∃ z, xs = [.str z] ∧ z.length ≤ sizeLine ∧ Q (.int z.length) H
def pLenS : List D → Store → MX D := fun xs m => match xs with
  | [.str z] => if z.length ≤ 100000 then ret (.int z.length) m else none
  | _ => none
theorem sc_pLenS : SC K W (RE K) rLenTx pLenS := fun xs m res m' e r F H σ vs hr p => by
  unfold pLenS at e
  split at e
  · rename_i z
    split at e
    · rename_i hz
      cases e
      obtain ⟨v, rfl, pv⟩ := rep1 p
      cases pv
      exact fun Q q => ⟨z, rfl, Evl.sz_of hz, q _ r F H hr (Ext.refl hr) (.int _)⟩
    · cases e
  · cases e
/-- a sign among the signs of a text -/
abbrev rInSg (neg : Bool) : R2 := fun x y H Q => ∃ (c : Nat) (z : Str), x = .str ⟨#[c]⟩ ∧ y = .str z ∧ Q (.bl (if neg then !decide (c ∈ z.cps.toList) else decide (c ∈ z.cps.toList))) H
def pInSg (neg : Bool) : D → D → Store → MX D := fun x y m => match x, y with
  | .str ⟨⟨[c]⟩⟩, .str z => ret (.bl (if neg then !decide (c ∈ z.cps.toList) else decide (c ∈ z.cps.toList))) m
  | _, _ => none
theorem s2_pInSg {neg : Bool} : S2 K W (rInSg neg) (pInSg neg) := fun x y m res m' e r F H σ vx vy hr px py => by
  unfold pInSg at e
  split at e
  · rename_i c z
    cases e; cases px; cases py
    exact fun Q q => ⟨c, z, rfl, rfl, q _ r F H hr (Ext.refl hr) (.bl _)⟩
  · cases e
/-- over the signs of a text -/
def wStr (a : ME) : MI := fun δ m => (a δ m).bind fun x m => match x with
  | .str z => ret ⟨z.cps.toList.map chS, []⟩ m
  | _ => none
theorem its_ok {C : Store → Prop} {r : List Addr} {F : Hp} {z : Str} : ItOk K C (Its z) r F (z.cps.toList.map chS) := fun r' F' H' m' h1 h2 h3 _ i => by
  constructor
  · intro d hd
    rw [List.getElem?_map] at hd
    cases h0 : z.cps.toList[i]? with
    | none => rw [h0] at hd; cases hd
    | some c =>
      rw [h0] at hd
      cases hd
      have hi : i < z.cps.toList.length := (List.getElem?_eq_some_iff.mp h0).1
      refine ⟨by show i < z.cps.size; simpa using hi, fun x H'' hy => ?_⟩
      obtain ⟨rfl, c', hc, rfl⟩ := hy
      have : c' = c := by
        rw [← Array.getElem?_toList, h0] at hc
        cases hc; rfl
      subst this
      exact ⟨F', h3, Ext.refl h3, .str _⟩
  · intro hl
    show z.cps.size ≤ i
    simpa using hl
theorem so_wStr (ha : So K W (RE K) ta a) : So K W (RI K) (iStr ta) (wStr a) :=
  So.bind ri_mon ha (k := fun (x : D) δ m => match x with
    | .str z => ret (Wk.mk (z.cps.toList.map chS) []) m
    | _ => none) (u := fun (v : V) σ H R => ∃ x, v = .str x ∧ R (Its x) H) fun x δ m res m' e v r F H σ _ hr er rv => by
    cases x with
    | str z => cases e; cases rv; exact fun Q q => ⟨z, rfl, q _ r F H hr (Ext.refl hr) its_ok⟩
    | _ => cases e
/-- texts joined -/
def toStrs : List D → Option (List Str)
  | [] => some []
  | .str z :: ds => (toStrs ds).map (z :: ·)
  | _ :: _ => none
theorem toStrs_map (zs : List Str) : toStrs (zs.map D.str) = some zs := by
  induction zs with
  | nil => rfl
  | cons z zs ih => rw [List.map_cons, toStrs, ih]; rfl
theorem toStrs_eq : ∀ {ds : List D} {zs : List Str}, toStrs ds = some zs → ds = zs.map D.str
  | [], zs, h => by cases h; rfl
  | d :: ds, zs, h => by
    cases d with
    | str z =>
      unfold toStrs at h
      cases h0 : toStrs ds with
      | none => rw [h0] at h; cases h
      | some ys => rw [h0] at h; cases h; rw [toStrs_eq h0]; rfl
    | _ => cases h
theorem repStrs {r : List Addr} {F : Hp} : ∀ {zs : List Str} {vs : List V}, RepAll K r F vs (zs.map D.str) → vs = zs.map V.str
  | [], _, .nil => rfl
  | z :: zs, _, .cons p q => by cases p; rw [repStrs q]; rfl
abbrev rJoin (K : PySem.W.Frag) : V → List V → Hp → VK → Prop := fun x xs H Q => ∃ a p, ∃ ys : List Str, x = .str a ∧ xs = [.ref p] ∧ (SqL K H p (ys.map V.str) ∨ SqT K H p (ys.map V.str)) ∧ (ys.map (·.length)).sum + ys.length * a.length ≤ 16777216 ∧ Q (.str (Txt.join a ys)) H
def eJoin (o a : ME) : ME := fun δ m => (o δ m).bind fun x m => match x with
  | .str z => (a δ m).bind fun y m => (rdQ m y).bind fun ds => (toStrs ds).bind fun ys => if (ys.map (·.length)).sum + ys.length * z.length ≤ 16777216 then ret (.str (Txt.join z ys)) m else none
  | _ => none
theorem so_join (ho : So K W (RE K) to o) (ha : So K W (RE K) ta a) : So K W (RE K) (tM1 (rJoin K) to ta) (eJoin o a) := fun δ m res m' e r F H σ hr er => by
  show JAt K W (RE K) r F H σ m (fun H Q => to σ H fun x H1 => (∃ a, x = .str a) ∧ ta σ H1 fun y H2 => rJoin K x [y] H2 Q) res m'
  rcases bind_some e with ⟨x, m1, e1, e2⟩ | ⟨y, e1, rfl⟩
  · refine (ho δ m _ _ e1 r F H σ hr er).bind re_mon hr fun v r1 F1 H1 hr1 x1 rv => ?_
    cases x with
    | str z =>
      cases rv
      dsimp only at e2
      have key : JAt K W (RE K) r1 F1 H1 σ m1 (fun H Q => ta σ H fun y H2 => rJoin K (.str z) [y] H2 Q) res m' := by
        rcases bind_some e2 with ⟨y, m2, e3, e4⟩ | ⟨y, e3, rfl⟩
        · refine (ha δ m1 _ _ e3 r1 F1 H1 σ hr1 (er.ext x1)).bind re_mon hr1 fun vy r2 F2 H2 hr2 x2 ry => ?_
          cases h0 : rdQ m2 y with
          | none => rw [h0] at e4; cases e4
          | some ds =>
            rw [h0] at e4
            simp only [Option.bind_some] at e4
            cases h1 : toStrs ds with
            | none => rw [h1] at e4; cases e4
            | some ys =>
              rw [h1] at e4
              simp only [Option.bind_some] at e4
              split at e4
              · rename_i hb
                cases e4
                cases toStrs_eq h1
                obtain ⟨p, ws, rfl, hs, ra⟩ := rdQ_get h0 hr2 ry
                cases repStrs ra
                exact fun Q q => ⟨z, p, ys, rfl, rfl, .inl hs, hb, q _ r2 F2 H2 hr2 (Ext.refl hr2) (.str _)⟩
              · cases e4
        · exact (ha δ m1 _ _ e3 r1 F1 H1 σ hr1 (er.ext x1)).thrown
      cases res with
      | ok w => exact fun Q q => ⟨⟨z, rfl⟩, key Q q⟩
      | ex w => exact fun q Q => ⟨⟨z, rfl⟩, key q Q⟩
    | _ => cases e2
  · exact (ho δ m _ _ e1 r F H σ hr er).thrown
end
/-! the order of texts -/
def leS (a b : Str) : Prop := ltCps b.cps.toList a.cps.toList = false
theorem lt_no : ∀ {a b c : List Nat}, ltCps b a = false → ltCps c b = false → ltCps c a = false
  | [], b, [], _, _ => rfl
  | [], b, _ :: _, _, _ => rfl
  | z :: a, [], c, h1, _ => by simp [ltCps] at h1
  | z :: a, y :: b, [], _, h2 => by simp [ltCps] at h2
  | z :: a, y :: b, x :: c, h1, h2 => by
    simp only [ltCps, Bool.or_eq_false_iff, Bool.and_eq_false_iff, decide_eq_false_iff_not, beq_eq_false_iff_ne] at h1 h2 ⊢
    refine ⟨by omega, ?_⟩
    by_cases hx : x = z
    · have e1 : y = z := by omega
      have e2 : x = y := by omega
      refine .inr (lt_no (h1.2.resolve_left fun n => n e1) (h2.2.resolve_left fun n => n e2))
    · exact .inl hx
theorem lt_anti : ∀ {a b : List Nat}, ltCps b a = false → ltCps a b = false → a = b
  | [], [], _, _ => rfl
  | [], _ :: _, _, h => by simp [ltCps] at h
  | _ :: _, [], h, _ => by simp [ltCps] at h
  | x :: a, y :: b, h1, h2 => by
    simp only [ltCps, Bool.or_eq_false_iff, Bool.and_eq_false_iff, decide_eq_false_iff_not, beq_eq_false_iff_ne] at h1 h2
    have e : x = y := by omega
    subst e
    rw [lt_anti (h1.2.resolve_left fun n => n rfl) (h2.2.resolve_left fun n => n rfl)]
theorem lt_tot : ∀ (a b : List Nat), ltCps b a = false ∨ ltCps a b = false
  | [], [] => .inl rfl
  | [], _ :: _ => .inl rfl
  | _ :: _, [] => .inr rfl
  | x :: a, y :: b => by
    simp only [ltCps, Bool.or_eq_false_iff, Bool.and_eq_false_iff, decide_eq_false_iff_not, beq_eq_false_iff_ne]
    rcases Nat.lt_trichotomy x y with h | h | h
    · exact .inl ⟨by omega, .inl (by omega)⟩
    · subst h
      rcases lt_tot a b with h | h
      · exact .inl ⟨by omega, .inr h⟩
      · exact .inr ⟨by omega, .inr h⟩
    · exact .inr ⟨by omega, .inl (by omega)⟩
theorem leS_anti {a b : Str} (h1 : leS a b) (h2 : leS b a) : a = b := by
  have := lt_anti h1 h2
  cases a; cases b
  congr
  exact Array.toList_inj.mp this
def insS (x : Str) : List Str → List Str
  | [] => [x]
  | y :: r => if ltCps y.cps.toList x.cps.toList = true then y :: insS x r else x :: y :: r
def ssort : List Str → List Str
  | [] => []
  | x :: r => insS x (ssort r)
theorem insS_perm (x : Str) : ∀ l, (insS x l).Perm (x :: l)
  | [] => List.Perm.refl _
  | y :: r => by
    unfold insS
    split
    · exact ((insS_perm x r).cons y).trans (List.Perm.swap _ _ _)
    · exact List.Perm.refl _
theorem ssort_perm : ∀ l, (ssort l).Perm l
  | [] => List.Perm.refl _
  | x :: r => (insS_perm x (ssort r)).trans ((ssort_perm r).cons x)
theorem insS_le (x : Str) : ∀ {l : List Str}, l.Pairwise leS → (insS x l).Pairwise leS
  | [], _ => List.pairwise_singleton _ _
  | y :: r, h => by
    obtain ⟨h1, h2⟩ := List.pairwise_cons.mp h
    unfold insS
    split
    · rename_i hl
      refine List.pairwise_cons.mpr ⟨fun z hz => ?_, insS_le x h2⟩
      rcases List.mem_cons.mp ((insS_perm x r).mem_iff.mp hz) with rfl | hz
      · rcases lt_tot y.cps.toList z.cps.toList with q | q
        · exact q
        · rw [q] at hl; cases hl
      · exact h1 z hz
    · rename_i hl
      have hxy : leS x y := Bool.eq_false_iff.mpr hl
      refine List.pairwise_cons.mpr ⟨fun z hz => ?_, h⟩
      rcases List.mem_cons.mp hz with rfl | hz
      · exact hxy
      · exact lt_no hxy (h1 z hz)
theorem ssort_le : ∀ l : List Str, (ssort l).Pairwise leS
  | [] => .nil
  | x :: r => insS_le x (ssort_le r)
theorem rising_le : ∀ {l : List Str} {p : Str}, risingS p l = true → (p :: l).Pairwise leS
  | [], p, _ => List.pairwise_singleton _ _
  | x :: r, p, h => by
    unfold risingS at h
    rw [Bool.and_eq_true] at h
    have ih := rising_le h.2
    have hx : leS p x := by simpa [leS] using h.1
    refine List.pairwise_cons.mpr ⟨fun z hz => ?_, ih⟩
    rcases List.mem_cons.mp hz with rfl | hz
    · exact hx
    · exact lt_no hx ((List.pairwise_cons.mp ih).1 z hz)
theorem sorted_le : ∀ {l : List Str}, sortedS l = true → l.Pairwise leS
  | [], _ => .nil
  | _ :: _, h => rising_le h
theorem leS_uniq : ∀ {a b : List Str}, a.Perm b → a.Pairwise leS → b.Pairwise leS → a = b
  | [], b, p, _, _ => (List.nil_perm.mp p).symm
  | x :: a, [], p, _, _ => by have := p.length_eq; simp at this
  | x :: a, y :: b, p, h1, h2 => by
    obtain ⟨p1, p2⟩ := List.pairwise_cons.mp h1
    obtain ⟨q1, q2⟩ := List.pairwise_cons.mp h2
    have e : x = y := by
      rcases List.mem_cons.mp (p.mem_iff.mp List.mem_cons_self) with e | hx
      · exact e
      · rcases List.mem_cons.mp (p.mem_iff.mpr List.mem_cons_self) with e | hy
        · exact e.symm
        · exact leS_anti (p1 y hy) (q1 x hx)
    subst e
    rw [leS_uniq ((List.perm_cons x).mp p) p2 q2]
theorem ssort_uniq {ys ks : List Str} (p : ys.Perm ks) (h : sortedS ys = true) : ys = ssort ks := leS_uniq (p.trans (ssort_perm ks).symm) (sorted_le h) (ssort_le ks)
section
variable {K : PySem.W.Frag} {W : WX} {ta tb tc to : TE} {tas : TA} {a b c o : ME} {as : MA}
def pDictD : List D → Store → MX D := fun xs m => match xs with
  | [x] => (cellR m x).bind fun p => ret (.cell m.length) (m ++ [.dK p.2])
  | _ => none
abbrev rLenDK : List V → Hp → VK → Prop := fun xs H Q => ∃ a kvs, xs = [V.ref a] ∧ L2.Rd H a (.dK kvs) ∧ Q (.int kvs.length) H
def pLenD : List D → Store → MX D := fun xs m => match xs with
  | [x] => (cellR m x).bind fun p => ret (.int p.2.length) m
  | _ => none
theorem sc_pLenD : SC K W (RE K) rLenDK pLenD := fun xs m res m' e r F H σ vs hr p => by
  unfold pLenD at e
  split at e
  · rename_i x
    cases h0 : cellR m x with
    | none => rw [h0] at e; cases e
    | some q =>
      obtain ⟨j, kvs⟩ := q
      rw [h0] at e
      cases e
      obtain ⟨v, rfl, pv⟩ := rep1 p
      obtain ⟨a, gs, rfl, ea, h3, h4⟩ := cellR_get h0 hr pv
      refine fun Q q => ⟨a, gs, rfl, h3, ?_⟩
      rw [rep_len h4]
      exact q _ r F H hr (Ext.refl hr) (.int _)
  · cases e
/-- the keys of a dict, sorted -/
def keysS : List (Key × D) → Option (List Str)
  | [] => some []
  | (.inr x, _) :: r => (keysS r).map (x :: ·)
  | _ :: _ => none
theorem keysS_rep {r : List Addr} {F : Hp} : ∀ {kvs : List (Key × D)} {gs : List (Key × V)} {ks : List Str}, keysS kvs = some ks → RepK K r F gs kvs → gs.map (·.1) = ks.map Sum.inr
  | [], [], ks, h, _ => by cases h; rfl
  | [], _ :: _, _, _, h => h.elim
  | _ :: _, [], _, _, h => h.elim
  | (.inr x, d) :: kvs, (y, v) :: gs, ks, h, hr => by
    obtain ⟨e, _, t⟩ := hr
    unfold keysS at h
    cases h0 : keysS kvs with
    | none => rw [h0] at h; cases h
    | some l =>
      rw [h0] at h
      cases h
      have e' : y = .inr x := e
      subst e'
      rw [List.map_cons, List.map_cons, keysS_rep h0 t]
  | (.inl _, _) :: _, _, _, h, _ => by cases h
abbrev rSortDK : List V → Hp → VK → Prop := fun xs H Q => ∃ (a : Addr) (kvs : List (Key × V)) (ks : List Str), xs = [.ref a] ∧ L2.Rd H a (.dK kvs) ∧ kvs.map (·.1) = ks.map Sum.inr ∧ ks.length < 64 ∧ ∀ ys p, ys.Perm ks → sortedS ys = true → H p = none → Q (.ref p) (upd H p (.lst (ys.map V.str)))
def pSortD : List D → Store → MX FT := fun xs m => match xs with
  | [x] => (cellR m x).bind fun p => (keysS p.2).bind fun ks => if ks.length < 64 then ret (.own ((ssort ks).map D.str)) m else none
  | _ => none
theorem repAllStr {r : List Addr} {F : Hp} : ∀ zs : List Str, RepAll K r F (zs.map V.str) (zs.map D.str)
  | [] => .nil
  | z :: zs => .cons (.str z) (repAllStr zs)
theorem sc_pSortD : SC K W (RF K) rSortDK pSortD := fun xs m res m' e r F H σ vs hr p => by
  unfold pSortD at e
  split at e
  · rename_i x
    cases h0 : cellR m x with
    | none => rw [h0] at e; cases e
    | some q =>
      obtain ⟨j, kvs⟩ := q
      rw [h0] at e
      simp only [Option.bind_some] at e
      cases h1 : keysS kvs with
      | none => rw [h1] at e; cases e
      | some ks =>
        rw [h1] at e
        simp only [Option.bind_some] at e
        split at e
        · rename_i hl
          cases e
          obtain ⟨v, rfl, pv⟩ := rep1 p
          obtain ⟨a, gs, rfl, ea, h3, h4⟩ := cellR_get h0 hr pv
          refine fun Q q => ⟨a, gs, ks, rfl, h3, keysS_rep h1 h4, hl, fun ys p' py sy hp' => ?_⟩
          rw [ssort_uniq py sy]
          obtain ⟨q1, q2, q3⟩ := rf_new hr hp' (repAllStr (ssort ks))
          exact q _ r F _ q1 q2 q3
        · cases e
  · cases e
/-- o.m(..), raising -/
def tMethX (C : Addr) (mm : Str) (sp : Sp) (E : L2.St → XK) (to : TE) (t : TA) : TE := fun σ H Q => to σ H fun x H1 => ∃ a dx fs, x = .ref a ∧ H1 a = some (.ins C dx fs) ∧ fs.lookup mm = none ∧ t σ H1 fun vs H2 => sp (x :: vs) H2 Q (E σ)
def fMethS (x mm : Str) (f : FnS) (o : ME) (as : MA) : MF := fun δ m => (o δ m).bind fun w m => (cellI m x w).bind fun p => match lkF mm p.2 with
  | some _ => none
  | none => (as δ m).bind fun ds m => f (w :: ds) m
theorem so_methS {x mm : Str} {f : FnS} (ho : So K W (RE K) to o) (hs : So K W (RA K) tas as) : So K W (RF K) (tMethX (He.ga K x) mm (spF K f) (WE W) to tas) (fMethS x mm f o as) := fun δ m res m' e r F H σ hr er => by
  show JAt K W (RF K) r F H σ m (fun H Q => to σ H fun v H1 => ∃ a dx fs, v = .ref a ∧ H1 a = some (.ins (He.ga K x) dx fs) ∧ fs.lookup mm = none ∧ tas σ H1 fun vs H2 => spF K f (v :: vs) H2 Q (WE W σ)) res m'
  rcases bind_some e with ⟨w, m1, e1, e2⟩ | ⟨y, e1, rfl⟩
  · refine (ho δ m _ _ e1 r F H σ hr er).bind rf_mon hr fun v r1 F1 H1 hr1 x1 rv => ?_
    cases h0 : cellI m1 x w with
    | none => rw [h0] at e2; cases e2
    | some p =>
      obtain ⟨j, fs⟩ := p
      rw [h0] at e2
      simp only [Option.bind_some] at e2
      cases h1 : lkF mm fs with
      | some _ => rw [h1] at e2; cases e2
      | none =>
        rw [h1] at e2
        obtain ⟨a, dx, gs, rfl, rfl, ea, hk, h2, h3, h4⟩ := cellI_get h0 hr1 rv
        have l := repF_none h4 h1
        have key : JAt K W (RF K) r1 F1 H1 σ m1 (fun H Q => tas σ H fun vs H2 => spF K f (.ref a :: vs) H2 Q (WE W σ)) res m' := by
          rcases bind_some e2 with ⟨ds, m2, e3, e4⟩ | ⟨y, e3, rfl⟩
          · refine (hs δ m1 _ _ e3 r1 F1 H1 σ hr1 (er.ext x1)).bind rf_mon hr1 fun vs r2 F2 H2 hr2 x2 rs => ?_
            cases res with
            | ok ft => exact fun Q q => ⟨r2, F2, m2, _, .ok ft, m', hr2, .cons (rv.mono x2.pre x2.sub) rs, e4, fun v r' F' H' h1 h2 h3 => q v r' F' H' h1 h2 h3⟩
            | ex z => exact fun q Q => ⟨r2, F2, m2, _, .ex z, m', hr2, .cons (rv.mono x2.pre x2.sub) rs, e4, fun r' F' H' h1 h2 => q r' F' H' h1 h2⟩
          · exact (hs δ m1 _ _ e3 r1 F1 H1 σ hr1 (er.ext x1)).thrown
        cases res with
        | ok z => exact fun Q q => ⟨a, dx, gs, rfl, h2, l, key Q q⟩
        | ex z => exact fun q Q => ⟨a, dx, gs, rfl, h2, l, key q Q⟩
  · exact (ho δ m _ _ e1 r F H σ hr er).thrown
end
theorem call_lenR {X : Cx} : CallR X (.builtin "len") rLenDK := fun pins s σ H xs us Q I r h => by
  obtain ⟨a, kvs, rfl, ha, q⟩ := h
  obtain ⟨u, rfl, ru⟩ := vals1 r
  cases ru
  exact d_len I ha fun t s' I' => ⟨.int kvs.length, H, I', ⟨t, rfl⟩, q⟩
section
variable {X : Cx} {ps : List Str} {f : FnS} {x mm : Str} {p pos apos : Pos} {o e : Expr} {es : List Expr} {t : TA} {ta : TE} {W : WX} {j : Nat}
theorem pc_methS {pl : Sem Bool} (C : CalM X.prog X.w X.K X.mg X.base x mm j ps f) (c : Cls X.K (He.ga X.K x)) (tk : Takes X W) (hr : Room j X.A) (ho : PE X o ta) (ha : PA X (e :: es) t)
    (hst : starEach (e :: es) X.env = (false, eval e X.env) :: starEach es X.env := by rfl) (hpl : (backTo pos (starEach es X.env)).any (·.1) = false := by rfl)
    (ht : eval (.Call (.Attribute o mm apos) (e :: es) [] pos) X.env = (do
      let ov ← eval o X.env
      standAt apos.atName
      let (f, first) ← holding [ov] (getMethod ov mm pl)
      callWith pos f first (backTo pos (starEach (e :: es) X.env)) (backToKw pos (keywordEach [] X.env))) := by rfl) : PE X (.Call (.Attribute o mm apos) (e :: es) [] pos) (tMethX (He.ga X.K x) mm (spF X.K f) (WE W) ta t) := by
  obtain ⟨fd, F, b, m⟩ := C
  exact ⟨fun pins s σ H Q I h => PySem.W.methodCall_KW (pl := pl) (thn (ho.run pins s σ H _ I h) fun u s1 ⟨v, H1, I1, rx, a, dx, fs, ex, ea, l, q⟩ => by
    cases ex; cases rx
    exact getmeth_ok I1 ea c m l (PySem.W.callWith_K (first := [.ref a]) (h₀ := X.base) I.ok.mod.kin m.kp (thn (ha.run pos pins s1 σ H1 _ I1 q) fun us s2 ⟨vs, H2, I2, r, q2⟩ => ⟨I2.kIn, run_fnS (us := .ref a :: us) (vs := .ref a :: vs) (E := WE W) F hr b (passAt tk σ) I2 (.cons rfl r) q2⟩) hst hpl)) ht⟩
end
end DL
/-! a dict that is walked: locked while one walks -/
namespace DL
open PySem PySem.Spec PyProof.Rows L2
def delF (F : Hp) (a : Addr) : Hp := fun b => if b = a then none else F b
theorem delF_ne {F : Hp} {a b : Addr} (h : b ≠ a) : delF F a b = F b := if_neg h
section
variable {K : PySem.W.Frag} {r : List Addr} {F : Hp} {a : Addr} {od : Obj} {us : List (Key × V)}
theorem del_some (hf : F a = some (.frz od (.dK us))) {b : Addr} {o : HO} (h : F b = some o) (n : ∀ o' x, o ≠ .frz o' (.dK x)) : delF F a b = some o := by
  rw [delF_ne]
  · exact h
  · rintro rfl
    rw [hf] at h
    cases h
    exact n _ _ rfl
mutual
theorem Rep.del (hf : F a = some (.frz od (.dK us))) : ∀ {v : V} {d : D}, Rep K r F v d → Rep K r (delF F a) v d
  | _, _, .non => .non
  | _, _, .bl b => .bl b
  | _, _, .int i => .int i
  | _, _, .str x => .str x
  | _, _, .lst s h => .lst (del_some hf s fun _ _ z => nomatch z) (RepAll.del hf h)
  | _, _, .tup s h => .tup (del_some hf s fun _ _ z => nomatch z) (RepAll.del hf h)
  | _, _, .cell h => .cell h
  | _, _, .scr h => .scr (by
      rcases h with (h | ⟨o, h⟩) | h
      · exact .inl (.inl (del_some hf h fun _ _ z => nomatch z))
      · exact .inl (.inr ⟨o, del_some hf h fun _ _ z => nomatch z⟩)
      · exact .inr h)
  | _, _, .exc h => .exc (h.imp (fun h => del_some hf h fun _ _ z => nomatch z) (fun h => del_some hf h fun _ _ z => nomatch z))
theorem RepAll.del (hf : F a = some (.frz od (.dK us))) : ∀ {vs : List V} {ds : List D}, RepAll K r F vs ds → RepAll K r (delF F a) vs ds
  | _, _, .nil => .nil
  | _, _, .cons h t => .cons (Rep.del hf h) (RepAll.del hf t)
end
theorem RepF.del (hf : F a = some (.frz od (.dK us))) : ∀ {gs : List (Str × V)} {fs : List (Str × D)}, RepF K r F gs fs → RepF K r (delF F a) gs fs
  | [], [], _ => trivial
  | (_, _) :: _, (_, _) :: _, h => ⟨h.1, h.2.1.del hf, RepF.del hf h.2.2⟩
  | [], _ :: _, h => h.elim
  | _ :: _, [], h => h.elim
theorem RepK.del (hf : F a = some (.frz od (.dK us))) : ∀ {gs : List (Key × V)} {fs : List (Key × D)}, RepK K r F gs fs → RepK K r (delF F a) gs fs
  | [], [], _ => trivial
  | (_, _) :: _, (_, _) :: _, h => ⟨h.1, h.2.1.del hf, RepK.del hf h.2.2⟩
  | [], _ :: _, h => h.elim
  | _ :: _, [], h => h.elim
theorem CellOk.del {H : Hp} {b : Addr} (hf : F a = some (.frz od (.dK us))) : ∀ {c : Cell}, CellOk K r F H b c → CellOk K r (delF F a) H b c
  | .lst xs, ⟨vs, h, q⟩ => ⟨vs, h, q.del hf⟩
  | .ins C fs, ⟨dx, gs, h, h2, q⟩ => ⟨dx, gs, h, h2, q.del hf⟩
  | .dK kvs, ⟨gs, h, q⟩ => ⟨gs, h, q.del hf⟩
  | .gone, _ => trivial
  | .fz _, h => h.elim
theorem ER.del {σ : L2.St} {δ : En} (hf : F a = some (.frz od (.dK us))) (h : ER K r F σ δ) : ER K r (delF F a) σ δ := ⟨h.1, fun i d q => let ⟨v, x, y⟩ := h.2 i d q; ⟨v, x, y.del hf⟩⟩
end
/-! ### the lock -/
def keyOf : Key → D
  | .inl i => .int i
  | .inr x => .str x
section
variable {K : PySem.W.Frag} {W : WX} {r r' : List Addr} {F H F' H' : Hp} {m m' : Store} {k : Nat} {a : Addr} {kvs kvs' : List (Key × D)} {gs : List (Key × V)} {od : Obj}
theorem OwnL.del {us : List (Key × V)} {u : HO} (hf : F a = some (.frz od (.dK us))) (hg : H a = some (.frz od (.dK us))) : ∀ {vs : List V} {fs : List F1} {as : List Addr}, OwnL K r F H vs fs as → OwnL K r (delF F a) (upd H a u) vs fs as
  | _, _, _, .nil => .nil
  | _, _, _, .pl h t => .pl (h.del hf) (t.del hf hg)
  | _, _, _, .own h q t => .own (by
      rw [upd_ne]
      · exact h
      · rintro rfl
        rw [hg] at h; cases h) (q.del hf) (t.del hf hg)
theorem OwnT.del {us : List (Key × V)} {u : HO} {v : V} {as : List Addr} (hf : F a = some (.frz od (.dK us))) (hg : H a = some (.frz od (.dK us))) : ∀ {ft : FT}, OwnT K r F H v ft as → OwnT K r (delF F a) (upd H a u) v ft as
  | .pl d, ⟨h, e⟩ => ⟨h.del hf, e⟩
  | .own xs, h => OwnL.del hf hg h
  | .tup fs, ⟨p, vs, e, h, q⟩ => ⟨p, vs, e, (del_some hf h fun _ _ z => nomatch z), OwnL.del hf hg q⟩
end
end DL
/-! a dict's item taken out; a list of cells compared with [] -/
namespace PySem.SeqAt
open AutoSeq1 (wpAny_loadPart')
open MeetsSeq MeetsSeq2 MeetsSeq3 SeqRoads2
end PySem.SeqAt
namespace DL
open PySem PySem.Spec PyProof.Rows L2
end DL
/-! xs.clear(), d.copy(), tuple + tuple -/
namespace DL
open PySem PySem.Spec PyProof.Rows L2
end DL
/-! text.index(sign), bools.index(b), d.update(e), xs == [] of data -/
namespace DL
open PySem PySem.Spec PyProof.Rows L2
end DL
/-! a list, whatever stands in it, is not [] -/
namespace DL
open PySem PySem.Spec PyProof.Rows L2
end DL
/-! list(range(i, j)) -/
namespace DL
open PySem PySem.Spec PyProof.Rows L2
end DL
/-! sorted of pairs of texts -/
namespace SrtQ
open PySem PyProof.Rows Srt SrtO
end SrtQ
namespace DL
open PySem PySem.Spec PyProof.Rows L2
end DL
/-! sorted of texts, fewer than 64 -/
namespace DL
open PySem PySem.Spec PyProof.Rows L2
end DL
/-! membership of any data -/
namespace DL
open PySem PySem.Spec PyProof.Rows L2
theorem u65 {k : Nat} {A : Around} (r : Room k A) : A.units + 65 < cLine := by
  have := r.un
  omega
theorem any_toPys (x : D) : ∀ ys : List D, (D.toPys ys).any (fun z => PyData.eqv z x.toPy) = ys.any fun z => eqb z x
  | [] => rfl
  | y :: ys => by
    show (PyData.eqv y.toPy x.toPy || (D.toPys ys).any _) = (eqb y x || ys.any _)
    rw [any_toPys x ys]; rfl
open Classical in
noncomputable def pInD (neg : Bool) : D → D → Store → MX D := fun x y m => (vw m x).bind fun x => (vw m y).bind fun y => match y with
  | .lst ys => if Sh 60 x ∧ Sh 60 (.lst ys) then ret (.bl (if neg then !(ys.any fun z => eqb z x) else ys.any fun z => eqb z x)) m else none
  | _ => none
def rInDn (K : PySem.W.Frag) (neg : Bool) : R2 := if neg then rNotInD K else rInD K
theorem s2_pInD {neg : Bool} {K : PySem.W.Frag} {W : WX} : S2 K W (rInDn K neg) (pInD neg) := fun x y m res m' e r F H σ vx vy hr px py => by
  unfold pInD at e
  cases h1 : vw m x with
  | none => rw [h1] at e; cases e
  | some x' =>
    rw [h1] at e
    cases h2 : vw m y with
    | none => rw [h2] at e; cases e
    | some y' =>
      rw [h2] at e
      simp only [Option.bind_some] at e
      split at e
      · rename_i ys
        split at e
        · rename_i hs
          have s1 := vw_sd h1 hs.1
          have s2 := vw_sd h2 hs.2
          cases neg with
          | true =>
            cases e
            exact fun Q q => ⟨_, _, s1.pd.1.dp hr px, s2.pd.1.dp hr py, s1.pd.2.1, s2.pd.2.1, q _ r F H hr (Ext.refl hr) (by rw [any_toPys]; exact .bl _)⟩
          | false =>
            cases e
            exact fun Q q => ⟨_, _, s1.pd.1.dp hr px, s2.pd.1.dp hr py, s1.pd.2.1, s2.pd.2.1, q _ r F H hr (Ext.refl hr) (by rw [any_toPys]; exact .bl _)⟩
        · cases e
      · cases e
end DL
/-! try: .. except ShelfError: a suite -/
namespace DL
open PySem PySem.Spec PyProof.Rows L2
end DL
namespace DL
open PySem PySem.Spec PyProof.Rows L2
local macro_rules | `(tactic| simp! only [$ls,*] $[$loc]?) => `(tactic| simp only [fnOf, endF, st, eC, eVar, eOp, eUn, eAnd, eOr, eNot, tst, mAnd, mOr, mNot, mYes, eIf, eChain, eChain3, aNil, aCons, eTup, eCB, fCB, fLst, dat, cel, pla, FT.dat, F1.dat, FT.cel, celL, sNext, sBreak, sCont, sRetN, sSeq, sAsg, sSet, sPar, par2, sExpr, sRet, sIf, sRaise, fCall, fCall0, pAdd, pSub, pLt, pLe, pGt, pGe, pEq, pNe, pIsN, pNotN, pIxT, pNeg, pMax2, pMin2, pMax3, pMin3, bind_ok, bind_ex, sure_ok, run_ok, run_ex, mName, mTup, msNil, msCons, List.length_cons, List.length_nil, List.map_cons, List.map_nil, List.replicate_zero, List.replicate_succ, List.append_nil, List.cons_append, List.nil_append, List.getElem?_cons_zero, List.getElem?_cons_succ, List.set_cons_zero, List.set_cons_succ, Option.bind_some, Option.map_some, Nat.sub_self, Nat.reduceSub, Nat.reduceAdd, fOp, pCat, fSl, oNone, oSome, fRev, eBM, eBM0, pAppend, pReverse, sSetI, sAug, eIsT, tyN, sFor, wList, wTup, wEnum, wZip, fLc, pIxL, pLen, pList, eBits, Bool.not_true, Bool.not_false, Bool.and_true, Bool.true_and, Bool.and_false, Bool.false_and, Bool.or_true, Bool.true_or, Bool.or_false, Bool.false_or, cond_true, cond_false, Nat.zero_add, Nat.reduceLeDiff, Nat.reduceLT, Int.reduceSub, Int.reduceNeg, Int.reduceAdd, Int.reduceToNat, if_true, ↓reduceIte, and_ret, or_ret, and_retB, or_retB, fin_same, List.length_set, rdQ_lst, rdL_lst, rdS_lst, rdS_tup, rdQ_scr, rdS_scr, vw_lst, vw_tup, pow_12, pow_9, pow_18, pow_29, atI_0, atI_1, atI_2, atI_3, $ls,*] $[$loc]?)
local macro_rules | `(tactic| simp_arith only [$ls,*] $[$loc]?) => `(tactic| simp only [st, eC, eVar, eOp, eUn, eAnd, eOr, eNot, tst, mAnd, mOr, mNot, mYes, eIf, eChain, eChain3, aNil, aCons, eTup, eCB, fCB, fLst, dat, cel, pla, FT.dat, F1.dat, FT.cel, celL, sNext, sBreak, sCont, sRetN, sAsg, sSet, sPar, par2, sExpr, sRet, sIf, sRaise, fCall, fCall0, pAdd, pSub, pLt, pLe, pGt, pGe, pEq, pNe, pIsN, pNotN, pIxT, pNeg, pMax2, pMin2, pMax3, pMin3, bind_ok, bind_ex, sure_ok, run_ok, run_ex, mName, mTup, msNil, msCons, List.length_cons, List.length_nil, List.map_cons, List.map_nil, List.replicate_zero, List.replicate_succ, List.append_nil, List.cons_append, List.nil_append, List.getElem?_cons_zero, List.getElem?_cons_succ, List.set_cons_zero, List.set_cons_succ, Option.bind_some, Option.map_some, Nat.sub_self, Nat.reduceSub, Nat.reduceAdd, fOp, pCat, fSl, oNone, oSome, fRev, eBM, eBM0, pAppend, pReverse, sSetI, sAug, eIsT, tyN, sFor, wList, wTup, wEnum, wZip, fLc, pIxL, pLen, pList, eBits, Bool.not_true, Bool.not_false, Bool.and_true, Bool.true_and, Bool.and_false, Bool.false_and, Bool.or_true, Bool.true_or, Bool.or_false, Bool.false_or, cond_true, cond_false, Nat.zero_add, Nat.reduceLeDiff, Nat.reduceLT, Int.reduceSub, Int.reduceNeg, Int.reduceAdd, Int.reduceToNat, if_true, ↓reduceIte, and_ret, or_ret, and_retB, or_retB, fin_same, List.length_set, rdQ_lst, rdL_lst, rdS_lst, rdS_tup, rdQ_scr, rdS_scr, vw_lst, vw_tup, pow_12, pow_9, pow_18, pow_29, atI_0, atI_1, atI_2, atI_3, ws_seq, ws_some, nx_nx, app_set, ws_cond, wp_some, endF_rt, endF_nx, endF_ex, cut_same, ixN_lit30, ixN_lit31, ixN_lit32, cond_true, cond_false, List.set_set, $ls,*] $[$loc]?)
/-! ### spans, in plain Lean -/
def isPlace (i : Int) : Bool := decide (0 - 1000000000000 < i) && decide (i < 1000000000000)
def isSpan (s : Sp2) : Bool := isPlace s.1 && (isPlace s.2 && decide (s.1 < s.2))
def Good (s : Sp2) : Prop := -1000000000000 < s.1 ∧ s.1 < s.2 ∧ s.2 < 1000000000000
theorem good_iff {s : Sp2} : isSpan s = true ↔ Good s := by simp [isSpan, isPlace, Good]; omega
theorem Good.isSpan {s : Sp2} (h : Good s) : isSpan s = true := good_iff.mpr h
/-! ### what reads as a list -/
theorem eq_of_wp {α : Type} {x : MX α} {a : RX α} {b : Store} (h : wp x (fun r m => r = a ∧ m = b)) : x = some (a, b) := by
  obtain ⟨r, m, e, rfl, rfl⟩ := wp_get h
  exact e
structure Rd (m : Store) (d : D) (xs : List D) : Prop where
  q : rdQ m d = some xs
  l : rdL m d = some xs
  s : rdS m d = some xs
  v : vw m d = some (.lst xs)
  t : tyN m d = some "list"
  i : isLst m d = true
  c : ∀ p ∈ srcOf d xs, m[p.1]? = some (.lst p.2)
theorem Rd.lst {m : Store} {xs : List D} : Rd m (.lst xs) xs := ⟨rfl, rfl, rfl, rfl, rfl, rfl, fun p hp => nomatch hp⟩
theorem Rd.cell {m : Store} {k : Nat} {xs : List D} (h : m[k]? = some (.lst xs)) : Rd m (.cell k) xs :=
  ⟨rdQ_cell h, rdL_cell h, rdS_cell h, vw_cell h, by unfold tyN; dsimp only; rw [h], isLst_cell h, fun p hp => by cases List.mem_singleton.mp hp; exact h⟩
theorem Rd.inv {m : Store} {d : D} {xs : List D} (h : Rd m d xs) : d = .lst xs ∨ ∃ k, d = .cell k ∧ m[k]? = some (.lst xs) := by
  have := h.l
  cases d with
  | lst ys => exact .inl (by have := Option.some.inj this; rw [this])
  | cell k => exact .inr ⟨k, rfl, cell_some this⟩
  | _ => cases this
theorem Rd.app {m l : Store} {d : D} {xs : List D} (h : Rd m d xs) : Rd (m ++ l) d xs := by
  rcases h.inv with rfl | ⟨k, rfl, e⟩
  · exact .lst
  · exact .cell (by rw [List.getElem?_append_left (List.getElem?_eq_some_iff.mp e).1]; exact e)
theorem Rd.set {m : Store} {d : D} {xs : List D} {k : Nat} {c : Cell} (h : Rd m d xs) (hk : d ≠ .cell k) : Rd (m.set k c) d xs := by
  rcases h.inv with rfl | ⟨j, rfl, e⟩
  · exact .lst
  · exact .cell (by rw [set_get_ne (fun z => hk (by rw [z]))]; exact e)
theorem Rd.chk {m : Store} {d : D} {xs ys : List D} (h : Rd m d xs) : (Wk.mk ys (srcOf d xs)).chk m := h.c
theorem srcOf_lst {xs ys : List D} : srcOf (.lst xs) ys = [] := rfl
theorem fin_own1 {m0 m : Store} {xs : List D} (hl : m.length = m0.length) (ti : Tidy m0 m) (hu : D.unds m0.length xs = true) : finF m0 (.cell m0.length) (m ++ [.lst xs]) = ret (.own xs) m := fin_own (i := 0) hl ti rfl hu
/-! ### statement by statement -/
theorem ws_step {a b : MS} {δ δ' : En} {m m' : Store} {R : OT → Prop} (h : a δ m = some (.nx δ' m')) (k : ws (b δ' m') R) : ws (sSeq a b δ m) R := by
  rw [ws_seq, h]; exact k
theorem ws_stop {a b : MS} {δ : En} {m m' : Store} {d : D} {R : OT → Prop} (h : a δ m = some (.rt d m')) (k : R (.rt d m')) : ws (sSeq a b δ m) R := by
  rw [ws_seq, h]; exact k
theorem ws_last {a : MS} {δ : En} {m : Store} {o : OT} {R : OT → Prop} (h : a δ m = some o) (k : R o) : ws (a δ m) R := by
  rw [h]; exact k
/-- a statement, and what follows, by what holds between -/
theorem ws_mid {a b : MS} {δ : En} {m : Store} {I : En → Store → Prop} {R : OT → Prop} (h : ws (a δ m) (Nx I)) (k : ∀ δ' m', I δ' m' → ws (b δ' m') R) : ws (sSeq a b δ m) R := by
  rw [ws_seq]
  refine ws_mono h ?_
  rintro o ⟨δ', m', rfl, hi⟩
  exact k δ' m' hi
/-- a for in the midst -/
theorem ws_forS {w : MI} {g : MG} {b : MS} {δ : En} {m m' : Store} {wk : Wk} {R : OT → Prop} (h : w δ m = ret wk m') (k : ws (forM g b wk.chk wk.xs δ m') R) : ws (sFor w g b δ m) R := by
  unfold sFor
  rw [h]; exact k
/-- a comprehension that draws: each item has what is asked, the store keeps what is kept -/
theorem lcM_inv {α : Type} {g : MG} {e : ME} {c : Store → Prop} {δ : En} (en : α → D) (P : α → D → Prop) (I : Nat → Store → Prop) (hc : ∀ n m, I n m → c m)
    (step : ∀ y n m, I (n + 1) m → ∃ δ1 d m', g (en y) δ = some δ1 ∧ e δ1 m = ret d m' ∧ P y d ∧ I n m') : ∀ (ys : List α) (m : Store), I ys.length m → ∃ ds m', lcM g mYes e c δ (ys.map en) m = ret ds m' ∧ ds.length = ys.length ∧ (∀ i (hi : i < ys.length) (hj : i < ds.length), P ys[i] ds[i]) ∧ I 0 m'
  | [], m, h => ⟨[], m, by rw [List.map_nil]; unfold lcM; rw [if_pos (hc _ _ h)], rfl, (fun i hi => by simp at hi), h⟩
  | y :: ys, m, h => by
    obtain ⟨δ1, d, m1, e1, e2, p, h1⟩ := step y ys.length m h
    obtain ⟨ds, m2, e3, l, hp, h2⟩ := lcM_inv en P I hc step ys m1 h1
    refine ⟨d :: ds, m2, ?_, by simp [l], fun i hi hj => ?_, h2⟩
    · rw [List.map_cons]
      unfold lcM
      rw [if_pos (hc _ _ h), e1]
      simp only [Option.bind_some]
      show MX.sure (e δ1 m) _ = _
      rw [e2]
      show MX.sure (lcM g mYes e c δ (ys.map en) m1) _ = _
      rw [e3]; rfl
    · cases i with
      | zero => exact p
      | succ i => simpa using hp i (by simpa using hi) (by simpa using hj)
theorem cut_to {xs : List D} {j : Nat} : cutD xs none (some (j : Int)) = xs.take j := by
  unfold cutD
  rw [HT.sIx_none, HT.sIx_nat]
  simp only [List.drop_zero, Nat.sub_zero]
  rw [List.take_eq_take_iff]; omega
theorem cut_from {xs : List D} {j : Nat} : cutD xs (some (j : Int)) none = xs.drop j := by
  unfold cutD
  rw [HT.sIx_none, HT.sIx_nat]
  rcases Nat.le_total j xs.length with h | h
  · rw [Nat.min_eq_left h, List.take_of_length_le (by simp)]
  · rw [Nat.min_eq_right h, List.drop_eq_nil_of_le h]; simp
/-! ### covers: lists of spans that stand apart, one list for one lot of places -/
def hold (s : Sp2) (x : Int) : Prop := s.1 ≤ x ∧ x < s.2
def Held (c : List Sp2) (x : Int) : Prop := ∃ s ∈ c, hold s x
structure Sep (c : List Sp2) : Prop where
  apart : c.Pairwise fun a b => a.2 < b.1
  pos : ∀ s ∈ c, s.1 < s.2
theorem Sep.nil : Sep [] := ⟨.nil, fun s hs => nomatch hs⟩
theorem Sep.tail {s : Sp2} {c : List Sp2} (h : Sep (s :: c)) : Sep c := ⟨(List.pairwise_cons.mp h.apart).2, fun t ht => h.pos t (List.mem_cons_of_mem _ ht)⟩
theorem held_cons {s : Sp2} {c : List Sp2} {x : Int} : Held (s :: c) x ↔ hold s x ∨ Held c x := by
  constructor
  · rintro ⟨t, ht, h⟩
    rcases List.mem_cons.mp ht with rfl | ht
    · exact .inl h
    · exact .inr ⟨t, ht, h⟩
  · rintro (h | ⟨t, ht, h⟩)
    · exact ⟨s, List.mem_cons_self, h⟩
    · exact ⟨t, List.mem_cons_of_mem _ ht, h⟩
theorem held_nil {x : Int} : ¬ Held [] x := fun ⟨s, hs, _⟩ => nomatch hs
theorem held_append {a b : List Sp2} {x : Int} : Held (a ++ b) x ↔ Held a x ∨ Held b x := by
  constructor
  · rintro ⟨t, ht, h⟩
    rcases List.mem_append.mp ht with ht | ht
    · exact .inl ⟨t, ht, h⟩
    · exact .inr ⟨t, ht, h⟩
  · rintro (⟨t, ht, h⟩ | ⟨t, ht, h⟩)
    · exact ⟨t, List.mem_append_left _ ht, h⟩
    · exact ⟨t, List.mem_append_right _ ht, h⟩
/-- all of the rest lies behind the head -/
theorem Sep.behind {s : Sp2} {c : List Sp2} (h : Sep (s :: c)) {x : Int} (hx : Held c x) : s.2 < x := by
  obtain ⟨t, ht, h1, h2⟩ := hx
  have := (List.pairwise_cons.mp h.apart).1 t ht
  omega
theorem Sep.uniq : ∀ {a b : List Sp2}, Sep a → Sep b → (∀ x, Held a x ↔ Held b x) → a = b
  | [], [], _, _, _ => rfl
  | [], t :: b, _, hb, h => by
    have := hb.pos t List.mem_cons_self
    exact absurd ((h t.1).mpr (held_cons.mpr (.inl ⟨by omega, by omega⟩))) held_nil
  | s :: a, [], ha, _, h => by
    have := ha.pos s List.mem_cons_self
    exact absurd ((h s.1).mp (held_cons.mpr (.inl ⟨by omega, by omega⟩))) held_nil
  | s :: a, t :: b, ha, hb, h => by
    have ps := ha.pos s List.mem_cons_self
    have pt := hb.pos t List.mem_cons_self
    have le1 : ∀ {s t : Sp2} {a b : List Sp2}, Sep (s :: a) → Sep (t :: b) → (∀ x, Held (s :: a) x → Held (t :: b) x) → t.1 ≤ s.1 := by
      intro s t a b ha hb h
      have ps := ha.pos s List.mem_cons_self
      have pt := hb.pos t List.mem_cons_self
      rcases held_cons.mp (h s.1 (held_cons.mpr (.inl ⟨by omega, by omega⟩))) with q | q
      · exact q.1
      · have := hb.behind q; omega
    have e1 : s.1 = t.1 := Int.le_antisymm (le1 hb ha fun x => (h x).mpr) (le1 ha hb fun x => (h x).mp)
    have le2 : ∀ {s t : Sp2} {a b : List Sp2}, Sep (s :: a) → Sep (t :: b) → s.1 = t.1 → (∀ x, Held (s :: a) x → Held (t :: b) x) → s.2 ≤ t.2 := by
      intro s t a b ha hb e h
      have ps := ha.pos s List.mem_cons_self
      have pt := hb.pos t List.mem_cons_self
      rcases Int.lt_or_le t.2 s.2 with z | z
      · rcases held_cons.mp (h t.2 (held_cons.mpr (.inl ⟨by omega, by omega⟩))) with q | q
        · have := q.2; omega
        · have := hb.behind q; omega
      · exact z
    have e2 : s.2 = t.2 := Int.le_antisymm (le2 ha hb e1 fun x => (h x).mp) (le2 hb ha e1.symm fun x => (h x).mpr)
    have e : s = t := Prod.ext e1 e2
    subst e
    have := Sep.uniq ha.tail hb.tail fun x => by
      constructor
      · intro q
        rcases held_cons.mp ((h x).mp (held_cons.mpr (.inr q))) with z | z
        · have := ha.behind q; have := z.2; omega
        · exact z
      · intro q
        rcases held_cons.mp ((h x).mpr (held_cons.mpr (.inr q))) with z | z
        · have := hb.behind q; have := z.2; omega
        · exact z
    rw [this]
/-! the sweep -/
theorem held_one {s : Sp2} {x : Int} : Held [s] x ↔ hold s x := by rw [held_cons]; exact ⟨fun h => h.elim id fun z => absurd z held_nil, .inl⟩
noncomputable def e_is_place : MS :=
  (sRet (eChain pLt pLt (eOp pSub (eC (.int 0)) (eC (.int 1000000000000))) (eVar 0) (eC (.int 1000000000000))))
noncomputable def f_is_place : FnS := fnOf 1 1 e_is_place
theorem is_place_eq (i : Int) (m : Store) : f_is_place [.int i] m = ret (.pl (.bl (isPlace i))) m := by
  unfold f_is_place e_is_place isPlace
  simp! only []
noncomputable def e_is_span : MS :=
  (sRet (eAnd (pla (fCall0 f_is_place (aCons (eOp pIxT (eVar 0) (eC (.int 0))) aNil))) (eAnd (pla (fCall0 f_is_place (aCons (eOp pIxT (eVar 0) (eC (.int 1))) aNil))) (eOp pLt (eOp pIxT (eVar 0) (eC (.int 0))) (eOp pIxT (eVar 0) (eC (.int 1)))))))
noncomputable def f_is_span : FnS := fnOf 1 1 e_is_span
theorem is_span_eq (s : Sp2) (m : Store) : f_is_span [eS s] m = ret (.pl (.bl (isSpan s))) m := by
  unfold f_is_span e_is_span isSpan eS
  simp! only [is_place_eq]
noncomputable def e_must_span : MS :=
  (sIf (mNot (tst (pla (fCall0 f_is_span (aCons (eVar 0) aNil))))) (sRaise "NoSpan") sNext)
noncomputable def f_must_span : FnS := fnOf 1 1 e_must_span
theorem must_span_eq (s : Sp2) (m : Store) : f_must_span [eS s] m = if isSpan s = true then ret (.pl .non) m else some (.ex "NoSpan", m) := by
  unfold f_must_span e_must_span
  simp! only [is_span_eq]
  cases isSpan s <;> simp [fin_same, cutS]
noncomputable def e_must_spans : MS :=
  (sFor (wList (eVar 0)) (mName 1)
    (sExpr (pla (fCall f_must_span (aCons (eVar 1) aNil)))))
noncomputable def f_must_spans : FnS := fnOf 1 2 e_must_spans
theorem must_spans_eq {m : Store} {d : D} {ss : List Sp2} (h : Rd m d (ss.map eS)) : f_must_spans [d] m = if ss.all isSpan = true then ret (.pl .non) m else some (.ex "NoSpan", m) := by
  have key : wp (f_must_spans [d] m) (fun r m' => r = (if ss.all isSpan = true then .ok (.pl .non) else .ex "NoSpan") ∧ m' = m) := by
    unfold f_must_spans e_must_spans
    refine wp_fnI rfl ?_
    simp_arith only [h.q]
    refine ws_forT (en := eS) (I := fun l δ m' => m' = m ∧ (∃ z, δ = [some d, z]) ∧ ∃ pre, ss = pre ++ l ∧ pre.all isSpan = true) (fun _ _ _ ⟨e, _⟩ => e ▸ h.chk) ?_ ?_ ?_
    · rintro δ m' ⟨rfl, ⟨z, rfl⟩, pre, e, hp⟩
      rw [List.append_nil] at e
      subst e
      simp_arith only [hp, and_self]
    · rintro x l δ m' ⟨rfl, ⟨z, rfl⟩, pre, e, hp⟩
      refine ⟨_, rfl, ?_⟩
      cases hx : isSpan x with
      | true =>
        simp_arith only [must_span_eq, hx]
        exact ⟨trivial, ⟨_, rfl⟩, pre ++ [x], by rw [e]; simp, by simp [hp, hx]⟩
      | false =>
        have : ss.all isSpan = false := by rw [e]; simp [hx]
        simp_arith only [must_span_eq, hx, Bool.false_eq_true, this, and_self]
    · exact ⟨rfl, ⟨_, rfl⟩, [], rfl, rfl⟩
  rw [eq_of_wp key]
  split <;> rfl
noncomputable def e_must_cover : MS :=
  (sSeq (sExpr (pla (fCall f_must_spans (aCons (eVar 0) aNil))))
    (sSeq (sIf (tst (eOp pGt (eCB pLen (aCons (eVar 0) aNil)) (eC (.int 200)))) (sRaise "NoCover") sNext)
    (sFor (wZip (aCons (eVar 0) (aCons (dat (fSl (eVar 0) (oSome (eC (.int 1))) oNone)) aNil))) (mTup (msCons (mName 1) (msCons (mName 2) msNil)))
    (sIf (tst (eOp pLe (eOp pIxT (eVar 2) (eC (.int 0))) (eOp pIxT (eVar 1) (eC (.int 1))))) (sRaise "NoCover") sNext))))
noncomputable def f_must_cover : FnS := fnOf 1 3 e_must_cover
/-- each begins beyond the end of the one ahead -/
def risesB : List Sp2 → Bool
  | a :: b :: l => decide (a.2 < b.1) && risesB (b :: l)
  | _ => true
def isCover (c : List Sp2) : Bool := decide (c.length ≤ 200) && risesB c
theorem rises_sep : ∀ {c : List Sp2}, (∀ s ∈ c, s.1 < s.2) → (risesB c = true ↔ Sep c)
  | [], _ => ⟨fun _ => Sep.nil, fun _ => rfl⟩
  | [a], h => ⟨fun _ => ⟨List.pairwise_singleton _ _, h⟩, fun _ => rfl⟩
  | a :: b :: l, h => by
    have ih := rises_sep (c := b :: l) fun s hs => h s (List.mem_cons_of_mem _ hs)
    show (decide (a.2 < b.1) && risesB (b :: l)) = true ↔ _
    rw [Bool.and_eq_true, decide_eq_true_eq, ih]
    constructor
    · rintro ⟨h1, h2⟩
      refine ⟨List.pairwise_cons.mpr ⟨fun t ht => ?_, h2.apart⟩, h⟩
      rcases List.mem_cons.mp ht with rfl | ht
      · exact h1
      · have := (List.pairwise_cons.mp h2.apart).1 t ht
        have := h b (by simp)
        omega
    · intro q
      exact ⟨(List.pairwise_cons.mp q.apart).1 b List.mem_cons_self, q.tail⟩
theorem zipD_map (c e : List Sp2) : zipD (c.map eS) (e.map eS) = (c.zip e).map fun p => D.tup [eS p.1, eS p.2] := by
  induction c generalizing e with
  | nil => rfl
  | cons a c ih =>
    cases e with
    | nil => rfl
    | cons b e => simp [zipD, ih]
theorem cutD_1 (xs : List D) : cutD xs (some 1) none = xs.drop 1 := by
  unfold cutD
  rw [show HT.sIx xs.length 0 (some 1) = min 1 xs.length from HT.sIx_nat _ _ 1, HT.sIx_none]
  cases xs with
  | nil => rfl
  | cons x xs =>
    have : min 1 (x :: xs).length = 1 := by simp
    rw [this]; simp
theorem must_cover_eq {m : Store} {d : D} {c : List Sp2} (h : Rd m d (c.map eS)) : f_must_cover [d] m = if c.all isSpan = true then (if isCover c = true then ret (.pl .non) m else some (.ex "NoCover", m)) else some (.ex "NoSpan", m) := by
  unfold f_must_cover e_must_cover
  cases ha : c.all isSpan with
  | false => simp! only [must_spans_eq h, ha, Bool.false_eq_true, cut_same]
  | true =>
    by_cases hl : 200 < c.length
    · have hn : isCover c = false := by unfold isCover; rw [decide_eq_false (by omega)]; rfl
      have hl' : (200 : Int) < (c.length : Int) := by omega
      simp! only [must_spans_eq h, ha, h.s, List.length_map, decide_eq_true hl', hn, Bool.false_eq_true, cut_same]
    · have hc : isCover c = risesB c := by unfold isCover; rw [decide_eq_true (by omega)]; rfl
      have hl' : ¬ (200 : Int) < (c.length : Int) := by omega
      have key : wp (fnOf 1 3 e_must_cover [d] m) (fun r m' => r = (if risesB c = true then .ok (.pl .non) else .ex "NoCover") ∧ m' = m) := by
        unfold e_must_cover
        refine wp_fnI rfl ?_
        simp_arith only [must_spans_eq h, ha, h.s, List.length_map, decide_eq_false hl', h.q, cutD_1, ← List.map_drop, zipD_map, srcOf_lst, List.append_nil]
        refine ws_forT (en := fun p : Sp2 × Sp2 => D.tup [eS p.1, eS p.2]) (I := fun l δ m' => m' = m ∧ (∃ z1 z2, δ = [some d, z1, z2]) ∧ ∃ c', l = c'.zip (c'.drop 1) ∧ risesB c = risesB c') (fun _ _ _ ⟨e, _⟩ => e ▸ fun p hp => h.c p hp) ?_ ?_ ?_
        · rintro δ m' ⟨rfl, ⟨z1, z2, rfl⟩, c', e, hr⟩
          have : risesB c' = true := by
            cases c' with
            | nil => rfl
            | cons a c' => cases c' with
              | nil => rfl
              | cons b c' => cases e
          simp_arith only [hr, this, and_self]
        · rintro x l δ m' ⟨rfl, ⟨z1, z2, rfl⟩, c', e, hr⟩
          cases c' with
          | nil => cases e
          | cons a c' =>
            cases c' with
            | nil => cases e
            | cons b c' =>
              cases e
              refine ⟨_, rfl, ?_⟩
              by_cases hx : b.1 ≤ a.2
              · have : risesB c = false := by rw [hr]; show (decide (a.2 < b.1) && risesB (b :: c')) = false; rw [decide_eq_false (by omega)]; rfl
                simp_arith only [eS, decide_eq_true hx, this, Bool.false_eq_true, and_self]
              · have : risesB c = risesB (b :: c') := by rw [hr]; show (decide (a.2 < b.1) && risesB (b :: c')) = _; rw [decide_eq_true (by omega)]; rfl
                simp_arith only [eS, decide_eq_false hx]
                exact ⟨trivial, ⟨_, _, rfl⟩, b :: c', rfl, this⟩
        · exact ⟨rfl, ⟨_, _, rfl⟩, c, rfl, rfl⟩
      have e := eq_of_wp key
      unfold e_must_cover at e
      rw [e, hc]
      split <;> simp_all
def touches (a b : Sp2) : Bool := decide (a.1 < b.2) && decide (b.1 < a.2)
/-! ### what two covers share -/
def clip (s t : Sp2) : Sp2 := (max s.1 t.1, min s.2 t.2)
def meets (s : Sp2) (b : List Sp2) : List Sp2 := (b.filter (touches s)).map (clip s)
theorem touches_iff {s t : Sp2} : touches s t = true ↔ s.1 < t.2 ∧ t.1 < s.2 := by simp [touches]
theorem hold_clip {s t : Sp2} {x : Int} : hold (clip s t) x ↔ hold s x ∧ hold t x := by unfold hold clip; dsimp only; omega
theorem held_meets {s : Sp2} {b : List Sp2} {x : Int} : Held (meets s b) x ↔ hold s x ∧ Held b x := by
  constructor
  · rintro ⟨u, hu, hx⟩
    obtain ⟨t, ht, rfl⟩ := List.mem_map.mp hu
    obtain ⟨h1, h2⟩ := hold_clip.mp hx
    exact ⟨h1, t, (List.mem_filter.mp ht).1, h2⟩
  · rintro ⟨h1, t, ht, h2⟩
    refine ⟨clip s t, List.mem_map.mpr ⟨t, List.mem_filter.mpr ⟨ht, touches_iff.mpr ?_⟩, rfl⟩, hold_clip.mpr ⟨h1, h2⟩⟩
    unfold hold at h1 h2
    omega
theorem sep_meets {s : Sp2} {b : List Sp2} (hb : Sep b) (hs : s.1 < s.2) : Sep (meets s b) := by
  refine ⟨?_, fun u hu => ?_⟩
  · unfold meets
    rw [List.pairwise_map]
    refine (hb.apart.filter _).imp fun {x y} h => ?_
    unfold clip; dsimp only; omega
  · obtain ⟨t, ht, rfl⟩ := List.mem_map.mp hu
    obtain ⟨h1, h2⟩ := List.mem_filter.mp ht
    have := touches_iff.mp h2
    have := hb.pos t h1
    unfold clip; dsimp only; omega
theorem meets_in {s u : Sp2} {b : List Sp2} (hu : u ∈ meets s b) : s.1 ≤ u.1 ∧ u.2 ≤ s.2 := by
  obtain ⟨t, _, rfl⟩ := List.mem_map.mp hu
  unfold clip; dsimp only; omega
theorem sep_app {a b : List Sp2} : Sep (a ++ b) ↔ Sep a ∧ Sep b ∧ ∀ x ∈ a, ∀ y ∈ b, x.2 < y.1 := by
  constructor
  · intro h
    obtain ⟨h1, h2, h3⟩ := List.pairwise_append.mp h.apart
    exact ⟨⟨h1, fun s hs => h.pos s (List.mem_append_left _ hs)⟩, ⟨h2, fun s hs => h.pos s (List.mem_append_right _ hs)⟩, h3⟩
  · rintro ⟨h1, h2, h3⟩
    refine ⟨List.pairwise_append.mpr ⟨h1.apart, h2.apart, h3⟩, fun s hs => ?_⟩
    rcases List.mem_append.mp hs with hs | hs
    · exact h1.pos s hs
    · exact h2.pos s hs
/-! ### what the first holds and the second does not -/
def gaps (hi : Int) : Int → List Sp2 → List Sp2
  | lo, [] => if lo < hi then [(lo, hi)] else []
  | lo, t :: ts => (if lo < t.1 then [(lo, t.1)] else []) ++ gaps hi t.2 ts
theorem gaps_ok {hi : Int} : ∀ {ts : List Sp2} {lo : Int}, lo ≤ hi → Sep ts → (∀ t ∈ ts, lo ≤ t.1 ∧ t.2 ≤ hi) → Sep (gaps hi lo ts) ∧ (∀ g ∈ gaps hi lo ts, lo ≤ g.1 ∧ g.2 ≤ hi) ∧ ∀ x, Held (gaps hi lo ts) x ↔ (lo ≤ x ∧ x < hi) ∧ ¬ Held ts x
  | [], lo, hlo, _, _ => by
    unfold gaps
    split
    · rename_i h
      refine ⟨⟨List.pairwise_singleton _ _, fun s hs => by cases List.mem_singleton.mp hs; exact h⟩, fun g hg => by cases List.mem_singleton.mp hg; exact ⟨Int.le_refl _, Int.le_refl _⟩, fun x => ?_⟩
      rw [held_one]
      exact ⟨fun q => ⟨q, held_nil⟩, fun q => q.1⟩
    · rename_i h
      refine ⟨Sep.nil, fun g hg => (nomatch hg), fun x => ⟨fun q => absurd q held_nil, fun q => ?_⟩⟩
      omega
  | t :: ts, lo, hlo, hs, ht => by
    obtain ⟨t1, t2⟩ := ht t List.mem_cons_self
    have tp := hs.pos t List.mem_cons_self
    obtain ⟨h1, h2, h3⟩ := gaps_ok (ts := ts) (lo := t.2) t2 hs.tail fun u hu => ⟨by have := (List.pairwise_cons.mp hs.apart).1 u hu; omega, (ht u (List.mem_cons_of_mem _ hu)).2⟩
    have beh : ∀ x, Held ts x → t.2 < x := fun x hx => hs.behind hx
    unfold gaps
    split
    · rename_i h
      refine ⟨sep_app.mpr ⟨⟨List.pairwise_singleton _ _, fun s hs => by cases List.mem_singleton.mp hs; exact h⟩, h1, fun x hx y hy => ?_⟩, fun g hg => ?_, fun x => ?_⟩
      · cases List.mem_singleton.mp hx
        have := (h2 y hy).1
        show t.1 < y.1
        omega
      · rcases List.mem_append.mp hg with hg | hg
        · cases List.mem_singleton.mp hg
          exact ⟨Int.le_refl _, by show t.1 ≤ hi; omega⟩
        · have := h2 g hg; omega
      · rw [held_append, held_one, h3, held_cons]
        unfold hold
        dsimp only
        constructor
        · rintro (q | ⟨q1, q2⟩)
          · exact ⟨by omega, fun z => z.elim (fun w => by omega) fun w => by have := beh x w; omega⟩
          · exact ⟨by omega, fun z => z.elim (fun w => by omega) q2⟩
        · rintro ⟨q1, q2⟩
          rcases Int.lt_or_le x t.1 with z | z
          · exact .inl ⟨by omega, z⟩
          · refine .inr ⟨⟨?_, q1.2⟩, fun w => q2 (.inr w)⟩
            rcases Int.lt_or_le x t.2 with w | w
            · exact absurd (.inl ⟨z, w⟩) q2
            · exact w
    · rename_i h
      rw [List.nil_append]
      refine ⟨h1, fun g hg => by have := h2 g hg; omega, fun x => ?_⟩
      rw [h3, held_cons]
      unfold hold
      constructor
      · rintro ⟨q1, q2⟩
        exact ⟨by omega, fun z => z.elim (fun w => by omega) q2⟩
      · rintro ⟨q1, q2⟩
        refine ⟨⟨?_, q1.2⟩, fun w => q2 (.inr w)⟩
        rcases Int.lt_or_le x t.2 with w | w
        · exact absurd (.inl ⟨by omega, w⟩) q2
        · exact w
def leftOf (a b : List Sp2) : List Sp2 := a.flatMap fun s => gaps s.2 s.1 (meets s b)
theorem gaps_meets {s : Sp2} {b : List Sp2} (hs : s.1 < s.2) (hb : Sep b) : Sep (gaps s.2 s.1 (meets s b)) ∧ (∀ g ∈ gaps s.2 s.1 (meets s b), s.1 ≤ g.1 ∧ g.2 ≤ s.2) ∧ ∀ x, Held (gaps s.2 s.1 (meets s b)) x ↔ hold s x ∧ ¬ Held b x := by
  obtain ⟨h1, h2, h3⟩ := gaps_ok (hi := s.2) (lo := s.1) (by omega) (sep_meets hb hs) fun t ht => meets_in ht
  refine ⟨h1, h2, fun x => ?_⟩
  rw [h3, held_meets]
  unfold hold
  exact ⟨fun ⟨q1, q2⟩ => ⟨q1, fun z => q2 ⟨q1, z⟩⟩, fun ⟨q1, q2⟩ => ⟨q1, fun z => q2 z.2⟩⟩
theorem held_left {a b : List Sp2} (ha : Sep a) (hb : Sep b) {x : Int} : Held (leftOf a b) x ↔ Held a x ∧ ¬ Held b x := by
  constructor
  · rintro ⟨u, hu, hx⟩
    obtain ⟨s, hs, hu⟩ := List.mem_flatMap.mp hu
    obtain ⟨h1, h2⟩ := ((gaps_meets (ha.pos s hs) hb).2.2 x).mp ⟨u, hu, hx⟩
    exact ⟨⟨s, hs, h1⟩, h2⟩
  · rintro ⟨⟨s, hs, h1⟩, h2⟩
    obtain ⟨u, hu, hx⟩ := ((gaps_meets (ha.pos s hs) hb).2.2 x).mpr ⟨h1, h2⟩
    exact ⟨u, List.mem_flatMap.mpr ⟨s, hs, hu⟩, hx⟩
theorem sep_left : ∀ {a b : List Sp2}, Sep a → Sep b → Sep (leftOf a b)
  | [], b, _, _ => Sep.nil
  | s :: a, b, ha, hb => by
    show Sep (gaps s.2 s.1 (meets s b) ++ leftOf a b)
    obtain ⟨h1, h2, _⟩ := gaps_meets (ha.pos s List.mem_cons_self) hb
    refine sep_app.mpr ⟨h1, sep_left ha.tail hb, fun x hx y hy => ?_⟩
    obtain ⟨t, ht, hy⟩ := List.mem_flatMap.mp hy
    have q1 := (h2 x hx).2
    have q2 := ((gaps_meets (ha.pos t (List.mem_cons_of_mem _ ht)) hb).2.1 y hy).1
    have := (List.pairwise_cons.mp ha.apart).1 t ht
    omega
def places (c : List Sp2) : Int := (c.map fun s => s.2 - s.1).sum
/-! ### covers of good spans, how many there are, how many places they hold -/
structure GC (n : Nat) (c : List Sp2) : Prop where
  good : ∀ s ∈ c, Good s
  sep : Sep c
  len : c.length ≤ n
theorem GC.mono {n n' : Nat} {c : List Sp2} (h : GC n c) (hn : n ≤ n') : GC n' c := ⟨h.good, h.sep, Nat.le_trans h.len hn⟩
theorem GC.nil {n : Nat} : GC n [] := ⟨fun s hs => (nomatch hs), Sep.nil, by simp⟩
theorem nodup_sub {α : Type} [DecidableEq α] : ∀ {l X : List α}, l.Nodup → (∀ x ∈ l, x ∈ X) → l.length ≤ X.length
  | [], _, _, _ => Nat.zero_le _
  | a :: l, X, h, hs => by
    obtain ⟨h1, h2⟩ := List.nodup_cons.mp h
    have ha := hs a List.mem_cons_self
    have := nodup_sub (l := l) (X := X.erase a) h2 fun x hx => (List.mem_erase_of_ne (fun (z : x = a) => h1 (z ▸ hx))).mpr (hs x (List.mem_cons_of_mem _ hx))
    rw [List.length_erase_of_mem ha] at this
    have := List.length_pos_of_mem ha
    simp; omega
theorem Sep.starts {c : List Sp2} (h : Sep c) : (c.map (·.1)).Nodup := by
  rw [List.Nodup, List.pairwise_map]
  refine List.Pairwise.imp_of_mem (fun {a b} ha hb z e => ?_) h.apart
  have := h.pos a ha
  omega
theorem len_starts {c : List Sp2} {X : List Int} (h : Sep c) (hs : ∀ s ∈ c, s.1 ∈ X) : c.length ≤ X.length := by
  have := nodup_sub h.starts (X := X) fun x hx => by
    obtain ⟨s, h1, rfl⟩ := List.mem_map.mp hx
    exact hs s h1
  rwa [List.length_map] at this
theorem good_held {a c : List Sp2} (ha : ∀ s ∈ a, Good s) (hc : Sep c) (h : ∀ x, Held c x → Held a x) : ∀ s ∈ c, Good s := by
  intro s hs
  have hp := hc.pos s hs
  obtain ⟨t, ht, t1, t2⟩ := h s.1 ⟨s, hs, by omega, by omega⟩
  obtain ⟨u, hu, u1, u2⟩ := h (s.2 - 1) ⟨s, hs, by omega, by omega⟩
  have := ha t ht
  have := ha u hu
  unfold Good at *
  omega
theorem gaps_starts {hi : Int} : ∀ {ts : List Sp2} {lo : Int} {g : Sp2}, g ∈ gaps hi lo ts → g.1 = lo ∨ ∃ t ∈ ts, g.1 = t.2
  | [], lo, g, h => by
    unfold gaps at h
    split at h
    · cases List.mem_singleton.mp h; exact .inl rfl
    · cases h
  | t :: ts, lo, g, h => by
    unfold gaps at h
    rcases List.mem_append.mp h with h | h
    · split at h
      · cases List.mem_singleton.mp h; exact .inl rfl
      · cases h
    · rcases gaps_starts h with z | ⟨u, hu, z⟩
      · exact .inr ⟨t, List.mem_cons_self, z⟩
      · exact .inr ⟨u, List.mem_cons_of_mem _ hu, z⟩
theorem GC.left {i j : Nat} {a b : List Sp2} (ha : GC i a) (hb : GC j b) : GC (i + j) (leftOf a b) := by
  refine ⟨good_held ha.good (sep_left ha.sep hb.sep) fun x h => ((held_left ha.sep hb.sep).mp h).1, sep_left ha.sep hb.sep, ?_⟩
  have := len_starts (X := a.map (·.1) ++ b.map (·.2)) (sep_left ha.sep hb.sep) fun u hu => by
    obtain ⟨s, hs, hu⟩ := List.mem_flatMap.mp hu
    have hp := (gaps_meets (ha.sep.pos s hs) hb.sep).1.pos u hu
    have hin := (gaps_meets (ha.sep.pos s hs) hb.sep).2.1 u hu
    rw [List.mem_append, List.mem_map, List.mem_map]
    rcases gaps_starts hu with z | ⟨t, ht, z⟩
    · exact .inl ⟨s, hs, z.symm⟩
    · obtain ⟨v, hv, rfl⟩ := List.mem_map.mp ht
      refine .inr ⟨v, (List.mem_filter.mp hv).1, ?_⟩
      have : u.1 = min s.2 v.2 := z
      show v.2 = u.1
      omega
  rw [List.length_append, List.length_map, List.length_map] at this
  have := ha.len
  have := hb.len
  omega
/-! counting places -/
open Classical in
noncomputable def cnt (p : Int → Prop) (lo : Int) : Nat → Int
  | 0 => 0
  | n + 1 => cnt p lo n + if p (lo + (n : Int)) then 1 else 0
/-! ### texts as lists of signs -/
def tx (l : List Nat) : Str := ⟨l.toArray⟩
theorem tx_list (l : List Nat) : (tx l).cps.toList = l := rfl
theorem tx_of (z : Str) : tx z.cps.toList = z := by cases z; rfl
theorem tx_len (l : List Nat) : (tx l).length = l.length := by show l.toArray.size = _; simp
theorem tx_app (a b : List Nat) : tx a ++ tx b = tx (a ++ b) := by
  show Str.mk (a.toArray ++ b.toArray) = Str.mk (a ++ b).toArray
  simp
theorem tx_inj {a b : List Nat} (h : tx a = tx b) : a = b := by
  have : (tx a).cps.toList = (tx b).cps.toList := by rw [h]
  exact this
theorem tx_to (l : List Nat) (j : Nat) : L2.cutS (tx l) none (some (j : Int)) = tx (l.take j) := by
  unfold L2.cutS
  rw [HT.sIx_none, HT.sIx_nat, tx_len, tx_list]
  simp only [List.drop_zero, Nat.sub_zero]
  show tx _ = tx _
  congr 1
  rw [List.take_eq_take_iff]; omega
theorem tx_from (l : List Nat) (j : Nat) : L2.cutS (tx l) (some (j : Int)) none = tx (l.drop j) := by
  unfold L2.cutS
  rw [HT.sIx_none, HT.sIx_nat, tx_len, tx_list]
  show tx _ = tx _
  congr 1
  rcases Nat.le_total j l.length with h | h
  · rw [Nat.min_eq_left h, List.take_of_length_le (by simp)]
  · rw [Nat.min_eq_right h, List.drop_eq_nil_of_le h]; simp
abbrev ltr : Str := "abcdefghijklmnopqrstuvwxyz"
theorem ltr_list : ltr.cps.toList = (List.range 26).map (97 + ·) := by decide +kernel
theorem ltr_len : ltr.length = 26 := by decide +kernel
theorem ltr_mem {c : Nat} : c ∈ ltr.cps.toList ↔ 97 ≤ c ∧ c < 123 := by
  rw [ltr_list, List.mem_map]
  constructor
  · rintro ⟨i, hi, rfl⟩
    have := List.mem_range.mp hi
    omega
  · intro h
    exact ⟨c - 97, List.mem_range.mpr (by omega), by omega⟩
theorem ltr_at {i : Int} (h0 : 0 ≤ i) (h1 : i < 26) : L2.atI ltr.cps.toList i = some (97 + i.toNat) := by
  have := atI_getD (xs := ltr.cps.toList) (i := i) 0 h0 (by rw [ltr_list]; simp; omega)
  rw [this, ltr_list]
  have hi : i.toNat < 26 := by omega
  simp [hi]
theorem ixS_ltr {i : Int} (h0 : 0 ≤ i) (h1 : i < 26) (m : Store) : pIxS (.str ltr) (.int i) m = ret (.str (tx [97 + i.toNat])) m := by
  unfold pIxS
  dsimp only
  rw [if_pos (by rw [ltr_len]; omega), ltr_at h0 h1]
  rfl
theorem addS_tx {a b : List Nat} (h : a.length + b.length ≤ 100000) (m : Store) : pAddS (.str (tx a)) (.str (tx b)) m = ret (.str (tx (a ++ b))) m := by
  unfold pAddS
  dsimp only
  rw [if_pos (by rw [tx_len, tx_len]; exact h), tx_app]
theorem inSg_ch {neg : Bool} {c : Nat} {z : Str} {m : Store} : pInSg neg (chS c) (.str z) m = ret (.bl (if neg then !decide (c ∈ z.cps.toList) else decide (c ∈ z.cps.toList))) m := rfl
theorem join_tx (ys : List (List Nat)) : Txt.join (tx []) (ys.map tx) = tx ys.flatten := by
  have h : ∀ ys : List (List Nat), TL.joinL [] ys = ys.flatten := fun ys => by
    induction ys with
    | nil => rfl
    | cons y ys ih =>
      cases ys with
      | nil => simp [TL.joinL]
      | cons z zs =>
        show y ++ ([] ++ TL.joinL [] (z :: zs)) = _
        rw [ih]; simp
  have e := TL.tl_join (tx []) (ys.map tx)
  have e2 : (ys.map tx).map TL.tl = ys := by
    rw [List.map_map]
    exact (List.map_congr_left fun l _ => rfl).trans (List.map_id ys)
  rw [e2, show TL.tl (tx []) = [] from rfl, h] at e
  exact TL.ext_tl ((congrArg TL.tl (TL.join_eq (tx []) (ys.map tx))).trans e)
def holdB (s : Sp2) (x : Int) : Bool := decide (s.1 ≤ x) && decide (x < s.2)
/-! ### apart, in plain Lean -/
theorem bools_f {α : Type} {f : α → Bool} {l : List α} : bools (l.map fun s => D.bl (f s)) = some (l.map f) := by
  rw [← bools_map, List.map_map]; rfl
noncomputable def e_is_name : MS :=
  (sRet (eAnd (eChain pLe pLe (eC (.int 1)) (eCB pLenS (aCons (eVar 0) aNil)) (eC (.int 8))) (eCB pAll (aCons (dat (fLc (wStr (eVar 0)) (mName 1) mYes (eOp (pInSg false) (eVar 1) (eC (.str "abcdefghijklmnopqrstuvwxyz"))) [1])) aNil))))
noncomputable def f_is_name : FnS := fnOf 1 2 e_is_name
def isNm (x : Str) : Bool := (decide (1 ≤ x.length) && decide (x.length ≤ 8)) && x.cps.toList.all fun c => decide (c ∈ ltr.cps.toList)
theorem is_name_eq {x : Str} {m : Store} (hl : x.length ≤ 90000) : f_is_name [.str x] m = ret (.pl (.bl (isNm x))) m := by
  have h1 : x.length ≤ 100000 := by omega
  have h2 : x.cps.toList.length < 100000 := by
    have : x.cps.toList.length = x.length := by show _ = x.cps.size; simp
    omega
  unfold f_is_name e_is_name isNm
  have d1 : decide ((1 : Int) ≤ (x.length : Int)) = decide (1 ≤ x.length) := decide_eq_decide.mpr (by omega)
  have d2 : decide ((x.length : Int) ≤ 8) = decide (x.length ≤ 8) := decide_eq_decide.mpr (by omega)
  have lc : lcM (mName 1) mYes (eOp (pInSg false) (eVar 1) (eC (.str ltr))) (Wk.mk (x.cps.toList.map chS) []).chk [some (.str x), none] (x.cps.toList.map chS) m = ret (x.cps.toList.map fun c => D.bl (decide (c ∈ ltr.cps.toList))) m :=
    lcM_map chk_nil chS _ x.cps.toList fun c _ => ⟨[some (.str x), some (chS c)], rfl, by simp! only [inSg_ch]; rfl⟩
  cases k1 : decide (1 ≤ x.length) with
  | false => simp! only [eFld, pLenS, pDictD, pLenD, pDIn, keyD, pSortD, eSlS, h1, d1, k1]
  | true =>
    cases k2 : decide (x.length ≤ 8) with
    | false => simp! only [eFld, pLenS, pDictD, pLenD, pDIn, keyD, pSortD, eSlS, h1, d1, d2, k1, k2]
    | true =>
      simp! only [eFld, pLenS, pDictD, pLenD, pDIn, keyD, pSortD, eSlS, h1, d1, d2, k1, k2, wStr, List.length_map, h2, wipeE, lc, pAll, bools_f, List.all_map, Function.comp_def, id]
/-! ### the purse: numbers drawn from a cell -/
structure Purse where
  a : Int
  b : Int
  c : Int
def ePu (p : Purse) : Cell := .lst [.int p.a, .int p.b, .int p.c]
/-- so many draws are left -/
def Pok (n : Nat) (p : Purse) : Prop := 0 ≤ p.b ∧ p.b < 2147483647 ∧ 0 ≤ p.c ∧ p.c + 3 * (n : Int) ≤ 1125899906842624
theorem Pok.mono {n n' : Nat} {p : Purse} (h : Pok n p) (hb : n' ≤ n) : Pok n' p := ⟨h.1, h.2.1, h.2.2.1, by have := h.2.2.2; omega⟩
theorem tidy_pu {m m' : Store} {k : Nat} {p : Purse} (h : Tidy m m') : Tidy m (m'.set k (ePu p)) := h.set rfl
noncomputable def e_law_at : MS :=
  (sSeq (sIf (tst (eOp pLt (eVar 1) (eCB pLen (aCons (eVar 0) aNil)))) (sRet (eOp pIxL (eVar 0) (eVar 1))) sNext)
    (sRet (eC (.int 0))))
noncomputable def f_law_at : FnS := fnOf 2 2 e_law_at
theorem law_at_eq (ns : List Int) (k : Nat) (m : Store) : ∃ i, f_law_at [.scr ns, .int (k : Int)] m = ret (.pl (.int i)) m := by
  by_cases h : k < ns.length
  · refine ⟨ns[k], ?_⟩
    have h2 : L2.atI (ns.map D.int) (k : Int) = some (.int ns[k]) := by
      rw [atI_of (by omega) (by rw [List.length_map]; omega)]
      simp [h]
    unfold f_law_at e_law_at
    simp! only [pLen, pIxL, List.length_map, h2]
    simp [h, fin_same, MX.run]
  · refine ⟨0, ?_⟩
    unfold f_law_at e_law_at
    simp! only [pLen, pIxL, List.length_map]
    simp [h, fin_same, MX.run]
noncomputable def e_law_purse : MS :=
  (sSeq (sSet 2 (pla (fCall0 f_law_at (aCons (eVar 0) (aCons (eVar 1) aNil)))))
    (sRet (cel (fLst (aCons (eCB pMax2 (aCons (eOp pSub (eVar 2) (eOp pPow (eC (.int 10)) (eC (.int 18)))) (aCons (eC (.int 0)) aNil))) (aCons (eOp pMod (eVar 2) (eC (.int 2147483647))) (aCons (eOp pMul (eC (.int 1000)) (eVar 1)) aNil)))))))
noncomputable def f_law_purse : FnS := fnOf 2 3 e_law_purse
theorem law_purse_ok (ns : List Int) (k : Nat) (hk : k ≤ 1000) (m : Store) : ∃ p : Purse, f_law_purse [.scr ns, .int (k : Int)] m = ret (.own [.int p.a, .int p.b, .int p.c]) m ∧ Pok 1000000000000 p := by
  obtain ⟨c, e⟩ := law_at_eq ns k m
  refine ⟨⟨max (c - 1000000000000000000) 0, c % 2147483647, 1000 * (k : Int)⟩, ?_, ?_⟩
  · unfold f_law_purse e_law_purse
    simp! only [e, pMod_pos (j := 2147483647) (by omega), pMul_l (i := 1000) (by omega) (by omega)]
    exact fin_own0 rfl
  · refine ⟨?_, ?_, ?_, ?_⟩ <;> simp <;> omega
noncomputable def e_law_mixed : MS :=
  (sSeq (sSet 2 (eOp pMod (eOp pAdd (eOp pAdd (eOp pAdd (eOp pMul (eVar 0) (eC (.int 1103515245))) (eOp pMul (eOp pMul (eC (.int 7919)) (eVar 1)) (eVar 1))) (eVar 1)) (eC (.int 1))) (eC (.int 2147483647))))
    (sSeq (sSet 2 (eOp pMod (eOp pAdd (eOp pMul (eVar 2) (eVar 2)) (eC (.int 69621))) (eC (.int 2147483629))))
    (sRet (eOp pMod (eOp pMul (eVar 2) (eC (.int 48271))) (eC (.int 2147483587))))))
noncomputable def f_law_mixed : FnS := fnOf 2 3 e_law_mixed
theorem law_mixed_ok (c k : Int) (m : Store) (h0 : 0 ≤ k) (h1 : k < 1152921504606846976) : ∃ i, f_law_mixed [.int c, .int k] m = ret (.pl (.int i)) m := by
  apply Exists.intro
  unfold f_law_mixed e_law_mixed
  have h2 : ∀ x : Int, -18446744073709551616 < x % 2147483647 ∧ x % 2147483647 < 18446744073709551616 := fun x => by omega
  simp! only [pMul_r (j := 1103515245) (by omega) (by omega), pMul_l (i := 7919) (by omega) (by omega), pMul_r (j := k) (by omega) (by omega), pMod_pos (j := 2147483647) (by omega), pMod_pos (j := 2147483629) (by omega), pMod_pos (j := 2147483587) (by omega), pMul_r (j := 48271) (by omega) (by omega), pMul_r (h2 _).1 (h2 _).2]
  rfl
noncomputable def e_law_draw : MS :=
  (sSeq (sIf (tst (eOp pGt (eOp pIxL (eVar 0) (eC (.int 0))) (eC (.int 0)))) (sSeq (sSet 2 (eOp pMod (eOp pIxL (eVar 0) (eC (.int 0))) (eVar 1)))
    (sSeq (sSetI (eOp pDiv (eOp pIxL (eVar 0) (eC (.int 0))) (eVar 1)) (eVar 0) (eC (.int 0)))
    (sRet (eVar 2)))) sNext)
    (sSeq (sSet 3 (eC (.int 0)))
    (sSeq (sFor (wRng1 (aCons (eOp pAdd (eC (.int 1)) (eOp pDiv (eBits (eVar 1)) (eC (.int 30)))) aNil)) (mName 4)
    (sSeq (sSetI (eOp pAdd (eOp pIxL (eVar 0) (eC (.int 2))) (eC (.int 1))) (eVar 0) (eC (.int 2)))
    (sSet 3 (eOp pAdd (eOp pMul (eVar 3) (eC (.int 2147483587))) (pla (fCall0 f_law_mixed (aCons (eOp pIxL (eVar 0) (eC (.int 1))) (aCons (eOp pIxL (eVar 0) (eC (.int 2))) aNil))))))))
    (sRet (eOp pMod (eVar 3) (eVar 1))))))
noncomputable def f_law_draw : FnS := fnOf 2 5 e_law_draw
theorem intBits_le {n : Int} {k : Nat} (h0 : 0 < n) (h1 : n.natAbs < 2 ^ k) : Builtin.Int.intBits n ≤ k := by
  unfold Builtin.Int.intBits
  have h2 : n.natAbs ≠ 0 := by omega
  split
  · omega
  · have := (Nat.log2_lt h2).mpr h1
    omega
theorem intBits_89 {n : Int} (h0 : 0 < n) (hn : n < 618970019642690137449562112) : Builtin.Int.intBits n ≤ 89 := by
  refine intBits_le h0 ?_
  rw [show (2 : Nat) ^ 89 = 618970019642690137449562112 from rfl]
  omega
theorem law_draw_wp {m : Store} {k b : Nat} {p : Purse} {n : Int} (hk : m[k]? = some (ePu p)) (hp : Pok (b + 1) p) (h0 : 0 < n) (hn : n < 618970019642690137449562112) :
    wp (f_law_draw [.cell k, .int n] m) (fun r m' => ∃ i p', r = .ok (.pl (.int i)) ∧ m' = m.set k (ePu p') ∧ 0 ≤ i ∧ i < n ∧ Pok b p') := by
  obtain ⟨q1, q2, q3, q4⟩ := hp
  have hk' : m[k]? = some (.lst [.int p.a, .int p.b, .int p.c]) := hk
  have hb := intBits_89 h0 hn
  unfold f_law_draw e_law_draw
  refine wp_fnI rfl ?_
  simp_arith only [pIxL, rdQ_cell hk', sSetI, cellL_cell hk', pMod_pos h0, pDiv_pos h0 hn]
  refine ⟨fun ha => ?_, fun ha => ?_⟩
  · exact ⟨_, { p with a := p.a / n }, rfl, rfl, Int.emod_nonneg _ (by omega), Int.emod_lt_of_pos _ h0, q1, q2, q3, by show p.c + 3 * (b : Int) ≤ 1125899906842624; omega⟩
  · simp_arith only [sFor, wRng1, eBits, pDiv_pos (j := 30) (by omega) (by omega)]
    rw [if_pos (rg62 (by omega) (by omega))]
    simp_arith only []
    have hk0 : k < m.length := (List.getElem?_eq_some_iff.mp hk).1
    refine ws_for (I := fun l δ m' => ∃ (i : Int) (p' : Purse) (z : Option D), δ = [some (.cell k), some (.int n), none, some (.int i), z] ∧ m' = m.set k (ePu p') ∧ 0 ≤ p'.b ∧ p'.b < 2147483647 ∧ 0 ≤ p'.c ∧ p'.c + (l.length : Int) + 3 * (b : Int) ≤ 1125899906842624) (fun _ _ _ _ => chk_nil) ?_ ?_ ?_
    · rintro δ m' ⟨i, p', z, rfl, rfl, r1, r2, r3, r4⟩
      simp_arith only [pMod_pos h0]
      exact ⟨_, p', rfl, rfl, Int.emod_nonneg _ (by omega), Int.emod_lt_of_pos _ h0, r1, r2, r3, by simpa using r4⟩
    · rintro x l δ m' ⟨i, p', z, rfl, rfl, r1, r2, r3, r4⟩
      have r4' : p'.c + ((l.length : Int) + 1) + 3 * (b : Int) ≤ 1125899906842624 := by simpa using r4
      refine ⟨_, rfl, ?_⟩
      have hk1 : ∀ xs : List D, (m.set k (.lst xs))[k]? = some (.lst xs) := fun xs => List.getElem?_set_self hk0
      obtain ⟨w, e⟩ := law_mixed_ok p'.b (p'.c + 1) (m.set k (.lst [.int p'.a, .int p'.b, .int (p'.c + 1)])) (by omega) (by omega)
      simp_arith only [ePu, sSetI, pIxL, rdQ_cell (hk1 _), cellL_cell (hk1 _), pMul_r (j := 2147483587) (by omega) (by omega), e]
      exact ⟨_, { p' with c := p'.c + 1 }, _, rfl, rfl, r1, r2, by show 0 ≤ p'.c + 1; omega, by show p'.c + 1 + (l.length : Int) + 3 * (b : Int) ≤ 1125899906842624; omega⟩
    · refine ⟨0, p, none, rfl, ?_, q1, q2, q3, ?_⟩
      · exact (set_same hk).symm
      · rw [rng_len]; omega
theorem law_draw_ok {m : Store} {k b : Nat} {p : Purse} {n : Int} (hk : m[k]? = some (ePu p)) (hp : Pok (b + 1) p) (h0 : 0 < n) (hn : n < 618970019642690137449562112) :
    ∃ i p', f_law_draw [.cell k, .int n] m = ret (.pl (.int i)) (m.set k (ePu p')) ∧ 0 ≤ i ∧ i < n ∧ Pok b p' := by
  obtain ⟨r, m', e, i, p', rfl, rfl, h⟩ := wp_get (law_draw_wp hk hp h0 hn)
  exact ⟨i, p', e, h⟩
noncomputable def e_law_number : MS :=
  (sSeq (sSet 2 (eOp pIxL (dat (fLst (aCons (eC (.int 1)) (aCons (eC (.int 4)) (aCons (eC (.int 30)) (aCons (eVar 1) aNil)))))) (pla (fCall0 f_law_draw (aCons (eVar 0) (aCons (eC (.int 4)) aNil))))))
    (sRet (eOp pSub (pla (fCall0 f_law_draw (aCons (eVar 0) (aCons (eOp pAdd (eOp pMul (eC (.int 2)) (eVar 2)) (eC (.int 1))) aNil)))) (eVar 2))))
noncomputable def f_law_number : FnS := fnOf 2 3 e_law_number
theorem law_number_ok {m : Store} {k b : Nat} {p : Purse} {most : Int} (hk : m[k]? = some (ePu p)) (hp : Pok (b + 2) p) (h0 : 30 ≤ most) (hn : most < 1000000000000000000) :
    ∃ i p', f_law_number [.cell k, .int most] m = ret (.pl (.int i)) (m.set k (ePu p')) ∧ -most ≤ i ∧ i ≤ most ∧ Pok b p' := by
  obtain ⟨i1, p1, e1, h1, h2, hp1⟩ := law_draw_ok (b := b + 1) hk hp (n := 4) (by omega) (by omega)
  have hk1 : (m.set k (ePu p1))[k]? = some (ePu p1) := set_get hk
  obtain ⟨far, hf, hf1, hf2⟩ : ∃ far : Int, L2.atI [D.int 1, .int 4, .int 30, .int most] i1 = some (.int far) ∧ 1 ≤ far ∧ far ≤ most := by
    have : i1 = 0 ∨ i1 = 1 ∨ i1 = 2 ∨ i1 = 3 := by omega
    rcases this with rfl | rfl | rfl | rfl
    · exact ⟨1, rfl, by omega, by omega⟩
    · exact ⟨4, rfl, by omega, by omega⟩
    · exact ⟨30, rfl, by omega, by omega⟩
    · exact ⟨most, rfl, by omega, by omega⟩
  obtain ⟨i2, p2, e2, h3, h4, hp2⟩ := law_draw_ok (b := b) hk1 hp1 (n := 2 * far + 1) (by omega) (by omega)
  refine ⟨i2 - far, p2, ?_, by omega, by omega, hp2⟩
  unfold f_law_number e_law_number
  simp! only [pIxL, e1, hf, pMul_l (i := 2) (by omega) (by omega), e2, List.set_set]
noncomputable def e_law_end : MS :=
  (sSeq (sIf (mAnd (tst (eOp pNeD (eVar 1) (dat (fLst aNil)))) (tst (eOp pGt (pla (fCall0 f_law_draw (aCons (eVar 0) (aCons (eC (.int 3)) aNil)))) (eC (.int 0))))) (sSeq (sSet 3 (eOp pSub (eOp pAdd (eOp pIxL (eVar 1) (pla (fCall0 f_law_draw (aCons (eVar 0) (aCons (eCB pLen (aCons (eVar 1) aNil)) aNil))))) (pla (fCall0 f_law_draw (aCons (eVar 0) (aCons (eC (.int 3)) aNil))))) (eC (.int 1))))
    (sRet (eCB pMax2 (aCons (eOp pSub (eC (.int 0)) (eVar 2)) (aCons (eCB pMin2 (aCons (eVar 2) (aCons (eVar 3) aNil))) aNil))))) sNext)
    (sRet (pla (fCall0 f_law_number (aCons (eVar 0) (aCons (eVar 2) aNil))))))
noncomputable def f_law_end : FnS := fnOf 3 4 e_law_end
theorem law_end_ok {m : Store} {k b : Nat} {p : Purse} {d : D} {ends : List Int} {most : Int} (hk : m[k]? = some (ePu p)) (hd : d = .lst (ends.map D.int) ∨ ∃ l, l ≠ k ∧ d = .cell l ∧ m[l]? = some (.lst (ends.map D.int))) (hl : ends.length ≤ 10000) (hp : Pok (b + 3) p) (h0 : 30 ≤ most) (hn : most < 1000000000000000000) :
    ∃ i p', f_law_end [.cell k, d, .int most] m = ret (.pl (.int i)) (m.set k (ePu p')) ∧ -most ≤ i ∧ i ≤ most ∧ Pok b p' := by
  have hv : ∀ c, vw (m.set k c) d = some (.lst (ends.map D.int)) ∧ rdQ (m.set k c) d = some (ends.map D.int) ∧ rdS (m.set k c) d = some (ends.map D.int) := by
    rcases hd with rfl | ⟨l, hl, rfl, h⟩
    · exact fun c => ⟨rfl, rfl, rfl⟩
    · intro c
      have : (m.set k c)[l]? = some (.lst (ends.map D.int)) := by rw [set_get_ne (fun z => hl z.symm)]; exact h
      exact ⟨vw_cell this, rdQ_cell this, rdS_cell this⟩
  have hv0 : vw m d = some (.lst (ends.map D.int)) := by have := (hv (ePu p)).1; rwa [set_same hk] at this
  by_cases he : ends = []
  · subst he
    obtain ⟨i, p1, e1, h1, h2, hp1⟩ := law_number_ok (b := b) hk (hp.mono (by omega)) h0 hn
    refine ⟨i, p1, ?_, h1, h2, hp1⟩
    unfold f_law_end e_law_end
    simp! only [pNeD_nil hv0 sh_ints, List.isEmpty_nil, Bool.not_true, cond_false, e1]
  · have hne : (ends.map D.int).isEmpty = false := by rw [isEmpty_map]; cases ends <;> first | rfl | exact absurd rfl he
    obtain ⟨i1, p1, e1, h1, h2, hp1⟩ := law_draw_ok (b := b + 2) hk hp (n := 3) (by omega) (by omega)
    have hk1 : (m.set k (ePu p1))[k]? = some (ePu p1) := set_get hk
    by_cases hz : 0 < i1
    · have hpos : 0 < ends.length := List.length_pos_iff.mpr he
      obtain ⟨i2, p2, e2, h3, h4, hp2⟩ := law_draw_ok (b := b + 1) hk1 hp1 (n := (ends.length : Int)) (by omega) (by omega)
      have hk2 : (m.set k (ePu p2))[k]? = some (ePu p2) := set_get hk
      rw [List.set_set] at e2
      obtain ⟨i3, p3, e3, h5, h6, hp3⟩ := law_draw_ok (b := b) hk2 hp2 (n := 3) (by omega) (by omega)
      rw [List.set_set] at e3
      have hx : L2.atI (ends.map D.int) i2 = some (.int (ends.getD i2.toNat 0)) := atI_map (atI_getD 0 h3 h4)
      refine ⟨max (0 - most) (min most (ends.getD i2.toNat 0 + i3 - 1)), p3, ?_, by omega, by omega, hp3⟩
      unfold f_law_end e_law_end
      simp! only [pNeD_nil hv0 sh_ints, hne, Bool.not_false, cond_true, e1, decide_eq_true hz, pIxL, pLen, (hv _).2.1, (hv _).2.2, List.length_map, e2, hx, e3]
    · obtain ⟨i2, p2, e2, h3, h4, hp2⟩ := law_number_ok (b := b) hk1 hp1 h0 hn
      rw [List.set_set] at e2
      refine ⟨i2, p2, ?_, h3, h4, hp2⟩
      unfold f_law_end e_law_end
      simp! only [pNeD_nil hv0 sh_ints, hne, Bool.not_false, cond_true, e1, decide_eq_false hz, cond_false, e2]
theorem rng_0 {n : Nat} : rng 0 n = (List.range n).map fun i : Nat => D.int (i : Int) := by
  unfold rng
  exact List.map_congr_left fun i _ => by rw [Int.zero_add]
theorem rng_a {a n : Nat} : rng (a : Int) n = (List.range' a n).map fun i : Nat => D.int (i : Int) := by
  unfold rng
  rw [List.range'_eq_map_range, List.map_map]
  exact List.map_congr_left fun i _ => by show D.int _ = D.int _; congr 1
theorem atI_d {α : Type} {l : List α} {i : Nat} (d : α) (h : i < l.length) : L2.atI l (i : Int) = some (l.getD i d) := by
  have := atI_getD (xs := l) (i := (i : Int)) d (by omega) (by omega)
  simpa using this
noncomputable def e_law_names : MS :=
  (sSeq (sSet 2 (eC (.str "abcdefghijklmnopqrstuvwxyz")))
    (sSeq (sSet 4 (eJoin (eC (.str "")) (dat (fLc (wRng1 (aCons (pla (fCall0 f_law_draw (aCons (eVar 0) (aCons (eC (.int 7)) aNil)))) aNil)) (mName 3) mYes (eOp pIxS (eVar 2) (pla (fCall0 f_law_draw (aCons (eVar 0) (aCons (eC (.int 26)) aNil))))) [3]))))
    (sSeq (sSet 5 (pla (fCall0 f_law_draw (aCons (eVar 0) (aCons (eOp pAdd (eCB pLenS (aCons (eVar 4) aNil)) (eC (.int 1))) aNil)))))
    (sSeq (sSet 6 (pla (fCall0 f_law_draw (aCons (eVar 0) (aCons (eC (.int 26)) aNil)))))
    (sSeq (sSet 7 (cel (fLc (wRng1 (aCons (eVar 1) aNil)) (mName 3) mYes (eOp pAddS (eOp pAddS (eSlS (eVar 4) oNone (oSome (eVar 5))) (eOp pIxS (eVar 2) (eOp pMod (eOp pAdd (eVar 6) (eOp pMul (eC (.int 7)) (eVar 3))) (eC (.int 26))))) (eSlS (eVar 4) (oSome (eVar 5)) oNone)) [3])))
    (sRet (eVar 7)))))))
noncomputable def f_law_names : FnS := fnOf 2 8 e_law_names
theorem of_ch : ∀ {ds : List D}, (∀ d ∈ ds, ∃ c : Nat, d = .str (tx [c]) ∧ 97 ≤ c ∧ c < 123) → ∃ cs : List Nat, ds = (cs.map fun c => tx [c]).map D.str ∧ ∀ c ∈ cs, 97 ≤ c ∧ c < 123
  | [], _ => ⟨[], rfl, fun s hs => nomatch hs⟩
  | d :: ds, h => by
    obtain ⟨s, rfl, gs⟩ := h d List.mem_cons_self
    obtain ⟨ss, rfl, g⟩ := of_ch fun x hx => h x (List.mem_cons_of_mem _ hx)
    refine ⟨s :: ss, rfl, fun t ht => ?_⟩
    rcases List.mem_cons.mp ht with rfl | ht
    · exact gs
    · exact g t ht
theorem flat_one (l : List Nat) : (l.map fun c => [c]).flatten = l := by
  induction l with
  | nil => rfl
  | cons c l ih => rw [List.map_cons, List.flatten_cons, ih]; rfl
theorem nm_ok {l : List Nat} (h1 : 1 ≤ l.length) (h2 : l.length ≤ 8) (h : ∀ c ∈ l, 97 ≤ c ∧ c < 123) : isNm (tx l) = true := by
  unfold isNm
  rw [tx_len, tx_list, decide_eq_true h1, decide_eq_true h2, List.all_eq_true.mpr fun c hc => decide_eq_true (ltr_mem.mpr (h c hc))]
  rfl
theorem law_names_ok7 {m : Store} {k b n : Nat} {p : Purse} (hk : m[k]? = some (ePu p)) (hn : n ≤ 26) (hp : Pok (b + 10) p) :
    ∃ (xs : List Str) (p' : Purse), f_law_names [.cell k, .int (n : Int)] m = ret (.own (xs.map D.str)) (m.set k (ePu p')) ∧ xs.length = n ∧ xs.Nodup ∧ (∀ x ∈ xs, isNm x = true) ∧ (∀ x ∈ xs, x.length ≤ 7) ∧ Pok b p' := by
  have hk0 : k < m.length := (List.getElem?_eq_some_iff.mp hk).1
  have gk : ∀ q : Purse, (m.set k (ePu q))[k]? = some (ePu q) := fun q => List.getElem?_set_self hk0
  obtain ⟨n7, p1, e1, a0, a1, hp1⟩ := law_draw_ok (b := b + 9) hk hp (n := 7) (by omega) (by omega)
  obtain ⟨r7, rfl⟩ : ∃ r7 : Nat, n7 = (r7 : Int) := ⟨n7.toNat, by omega⟩
  have hr : Rg62 ((r7 : Nat) : Int) := rg62 (by omega) (by omega)
  have hnl : r7 < 100000 := by omega
  have key : ∀ (δ : En), δ = [some (.cell k), some (.int (n : Int)), some (.str ltr), none, none, none, none, none] → _ := fun δ hδ => lcM_inv (g := mName 3) (e := eOp pIxS (eVar 2) (pla (fCall0 f_law_draw (aCons (eVar 0) (aCons (eC (.int 26)) aNil))))) (c := Wk.chk ⟨(List.range r7).map fun i : Nat => D.int (i : Int), []⟩) (δ := δ) (fun i : Nat => D.int (i : Int)) (fun i d => ∃ c : Nat, d = .str (tx [c]) ∧ 97 ≤ c ∧ c < 123) (fun r m' => ∃ q, m' = m.set k (ePu q) ∧ Pok (b + 2 + r) q) (fun _ _ _ => chk_nil) (fun y r m' ⟨q, hm, hq⟩ => by
      obtain ⟨d, q2, e6, d0, d1, hq2⟩ := law_draw_ok (b := b + 2 + r) (n := 26) (gk q) hq (by omega) (by omega)
      rw [List.set_set] at e6
      subst hm hδ
      exact ⟨[some (.cell k), some (.int (n : Int)), some (.str ltr), some (.int (y : Int)), none, none, none, none], .str (tx [97 + d.toNat]), _, rfl, by simp! only [e6, ixS_ltr d0 d1], ⟨97 + d.toNat, rfl, by omega, by omega⟩, q2, rfl, hq2⟩) (List.range r7) (m.set k (ePu p1)) ⟨p1, rfl, hp1.mono (by simp; omega)⟩
  obtain ⟨ds, m5, e5, l5, h5, q5, rfl, hq5⟩ := key _ rfl
  obtain ⟨cs, rfl, hcs⟩ := of_ch (ds := ds) fun d hd => by
    obtain ⟨x, hx, rfl⟩ := List.mem_iff_getElem.mp hd
    exact h5 x (by simpa [l5] using hx) hx
  have lcs : cs.length = r7 := by simpa using l5
  have hj : Txt.join (Str.ofString "") (cs.map fun c => tx [c]) = tx cs := by
    have e0 : Str.ofString "" = tx [] := by decide +kernel
    have e1 : (cs.map fun c => tx [c]) = (cs.map fun c => [c]).map tx := by rw [List.map_map]; rfl
    rw [e0, e1, join_tx, flat_one]
  have hb : ((cs.map fun c => tx [c]).map (·.length)).sum + (cs.map fun c => tx [c]).length * (Str.ofString "").length ≤ 16777216 := by
    have e0 : (Str.ofString "").length = 0 := by decide +kernel
    have e1 : ((cs.map fun c => tx [c]).map (·.length)).sum = cs.length := by
      rw [List.map_map]
      clear lcs l5 h5 e5 hj
      induction cs with
      | nil => rfl
      | cons c cs ih => rw [List.map_cons, List.sum_cons, ih fun x hx => hcs x (List.mem_cons_of_mem _ hx), List.length_cons]; show 1 + _ = _; omega
    rw [e0, e1]; omega
  obtain ⟨at', p2, e2, b0, b1, hp2⟩ := law_draw_ok (b := b + 1) (n := (cs.length : Int) + 1) (gk q5) (hq5.mono (by omega)) (by omega) (by omega)
  rw [List.set_set] at e2
  obtain ⟨j, rfl⟩ : ∃ j : Nat, at' = (j : Int) := ⟨at'.toNat, by omega⟩
  obtain ⟨f, p3, e3, f0, f1, hp3⟩ := law_draw_ok (b := b) (n := 26) (gk p2) hp2 (by omega) (by omega)
  rw [List.set_set] at e3
  have hrn : Rg62 ((n : Nat) : Int) := rg62 (by omega) (by omega)
  have hnn : n < 100000 := by omega
  let nm : Nat → List Nat := fun i => cs.take j ++ [97 + ((f + 7 * (i : Int)) % 26).toNat] ++ cs.drop j
  have l1 : (cs.take j).length ≤ cs.length := by simp; omega
  have l2 : (cs.drop j).length ≤ cs.length := by simp
  have lnm : ∀ i, (nm i).length = cs.length + 1 := fun i => by
    show (cs.take j ++ [_] ++ cs.drop j).length = _
    simp; omega
  have hnt : cs.length ≤ 100000 := by omega
  have fin := fin_own1 (m0 := m) (m := m.set k (ePu p3)) (xs := ((List.range n).map fun i => tx (nm i)).map D.str) (by simp) (tidy_pu (Tidy.refl _)) (unds_map (fun _ => rfl) _)
  refine ⟨(List.range n).map fun i => tx (nm i), p3, ?_, by simp, ?_, ?_, fun x hx => by
    obtain ⟨i, _, rfl⟩ := List.mem_map.mp hx
    rw [tx_len, lnm]; omega, hp3⟩
  · rw [List.map_map] at fin ⊢
    unfold f_law_names e_law_names
    have lc : lcM (mName 3) mYes (eOp pAddS (eOp pAddS (eSlS (eVar 4) oNone (oSome (eVar 5))) (eOp pIxS (eVar 2) (eOp pMod (eOp pAdd (eVar 6) (eOp pMul (eC (.int 7)) (eVar 3))) (eC (.int 26))))) (eSlS (eVar 4) (oSome (eVar 5)) oNone)) (Wk.mk ((List.range n).map fun i : Nat => D.int (i : Int)) []).chk [some (.cell k), some (.int (n : Int)), some (.str ltr), none, some (.str (tx cs)), some (.int (j : Int)), some (.int f), none] ((List.range n).map fun i : Nat => D.int (i : Int)) (m.set k (ePu p3)) = ret ((List.range n).map (D.str ∘ fun i => tx (nm i))) (m.set k (ePu p3)) :=
      lcM_map chk_nil (fun i : Nat => D.int (i : Int)) _ (List.range n) fun i _ => ⟨[some (.cell k), some (.int (n : Int)), some (.str ltr), some (.int (i : Int)), some (.str (tx cs)), some (.int (j : Int)), some (.int f), none], rfl, by
        have hc : (tx cs).length ≤ 100000 := by rw [tx_len]; exact hnt
        simp! only [eFld, pLenS, pDictD, pLenD, pDIn, keyD, pSortD, eSlS, hc, tx_to, tx_from, pMul_l (i := 7) (by omega) (by omega), pMod_pos (j := 26) (by omega), ixS_ltr (i := (f + 7 * (i : Int)) % 26) (by omega) (by omega)]
        rw [addS_tx (by simp; omega)]
        simp! only []
        rw [addS_tx (by simp; omega)]
        rfl⟩
    have hs5 : (tx cs).length ≤ 100000 := by rw [tx_len]; exact hnt
    apply eq_of_wp
    refine wp_fnI rfl ?_
    apply ws_step (δ' := [some (.cell k), some (.int (n : Int)), some (.str ltr), none, none, none, none, none]) (m' := m)
    · simp! only []
    apply ws_step (δ' := [some (.cell k), some (.int (n : Int)), some (.str ltr), none, some (.str (tx cs)), none, none, none]) (m' := m.set k (ePu q5))
    · unfold sSet eJoin
      simp! only [e1, wRng1, hr, Int.toNat_natCast, rng_len, hnl, wipeE, rng_0]
      rw [e5]
      simp! only [List.length_map, List.length_range, hnl, toStrs_map]
      rw [if_pos (by simpa using hb), hj]
      rfl
    apply ws_step (δ' := [some (.cell k), some (.int (n : Int)), some (.str ltr), none, some (.str (tx cs)), some (.int (j : Int)), none, none]) (m' := m.set k (ePu p2))
    · simp! only [eFld, pLenS, pDictD, pLenD, pDIn, keyD, pSortD, eSlS, tx_len, hnt, e2]
    apply ws_step (δ' := [some (.cell k), some (.int (n : Int)), some (.str ltr), none, some (.str (tx cs)), some (.int (j : Int)), some (.int f), none]) (m' := m.set k (ePu p3))
    · simp! only [e3]
    apply ws_step (δ' := [some (.cell k), some (.int (n : Int)), some (.str ltr), none, some (.str (tx cs)), some (.int (j : Int)), some (.int f), some (.cell m.length)]) (m' := m.set k (ePu p3) ++ [.lst ((List.range n).map (D.str ∘ fun i => tx (nm i)))])
    · simp! only [wRng1, hrn, Int.toNat_natCast, rng_len, hnn, wipeE, rng_0]
      rw [lc]
      simp! only [List.length_map, List.length_range, hnn, List.length_set]
    simp_arith only [fin]
    exact ⟨by trivial, by trivial⟩
  · refine List.pairwise_map.mpr (List.Pairwise.imp_of_mem (fun {a c} ha hc hac e => hac ?_) (List.nodup_range (n := n)))
    have ha' := List.mem_range.mp ha
    have hc' := List.mem_range.mp hc
    have e' := tx_inj e
    have h1 := List.append_cancel_right e'
    have h2 := List.append_cancel_left h1
    simp only [List.cons.injEq, and_true] at h2
    omega
  · intro x hx
    obtain ⟨i, _, rfl⟩ := List.mem_map.mp hx
    refine nm_ok (by rw [lnm]; omega) (by rw [lnm]; omega) fun c hc => ?_
    rcases List.mem_append.mp hc with z | z
    · rcases List.mem_append.mp z with z | z
      · exact hcs c (List.mem_of_mem_take z)
      · cases List.mem_singleton.mp z
        omega
    · exact hcs c (List.mem_of_mem_drop z)
theorem law_names_ok {m : Store} {k b n : Nat} {p : Purse} (hk : m[k]? = some (ePu p)) (hn : n ≤ 26) (hp : Pok (b + 10) p) :
    ∃ (xs : List Str) (p' : Purse), f_law_names [.cell k, .int (n : Int)] m = ret (.own (xs.map D.str)) (m.set k (ePu p')) ∧ xs.length = n ∧ xs.Nodup ∧ (∀ x ∈ xs, isNm x = true) ∧ Pok b p' := by
  obtain ⟨xs, p', h1, h2, h3, h4, _, h5⟩ := law_names_ok7 hk hn hp
  exact ⟨xs, p', h1, h2, h3, h4, h5⟩
mutual
theorem eqv_toPy : ∀ d : D, PyData.eqv d.toPy d.toPy = true
  | .non => rfl
  | .bl b => by cases b <;> rfl
  | .int i => by show decide (i = i) = true; simp
  | .str x => by simp [D.toPy, PyData.eqv]
  | .lst xs => eqv_toPys xs
  | .tup xs => eqv_toPys xs
  | .cell _ => rfl
  | .scr ns => by
    have h := eqv_ints ns ns
    rw [decide_eq_true rfl] at h
    have e : D.toPys (ns.map D.int) = ns.map PyData.int := by
      clear h
      induction ns with
      | nil => rfl
      | cons n ns ih => show _ :: D.toPys (ns.map D.int) = _; rw [ih]; rfl
    rw [e] at h
    exact h
  | .exc _ => rfl
theorem eqv_toPys : ∀ ds : List D, PyData.eqvAll (D.toPys ds) (D.toPys ds) = true
  | [] => rfl
  | d :: ds => by
    show (PyData.eqv d.toPy d.toPy && PyData.eqvAll (D.toPys ds) (D.toPys ds)) = true
    rw [eqv_toPy d, eqv_toPys ds]; rfl
end
theorem eqb_self (d : D) : eqb d d = true := eqv_toPy d
theorem sh_two {n : Nat} {a b : D} (ha : Sh n a) (hb : Sh n b) : Sh (n + 1) (.tup [a, b]) := fun x hx => by
  rcases List.mem_cons.mp hx with rfl | hx
  · exact ha
  · cases List.mem_singleton.mp hx; exact hb
noncomputable def e_law_cover_4 : MS :=
  (sSeq (sSet 2 (cel (fLst aNil)))
    (sSeq (sFor (wRng1 (aCons (eOp pMul (eC (.int 2)) (eVar 1)) aNil)) (mName 3)
    (sExpr (eBM pAppend (eVar 2) (aCons (pla (fCall0 f_law_end (aCons (eVar 0) (aCons (eVar 2) (aCons (eOp pSub (eOp pPow (eC (.int 10)) (eC (.int 12))) (eC (.int 1))) aNil))))) aNil))))
    (sSeq (sSet 2 (cel (fSortSet (eVar 2))))
    (sRet (cel (fLc (wRng1 (aCons (eOp pDiv (eCB pLen (aCons (eVar 2) aNil)) (eC (.int 2))) aNil)) (mName 3) mYes (eTup (aCons (eOp pIxL (eVar 2) (eOp pMul (eC (.int 2)) (eVar 3))) (aCons (eOp pIxL (eVar 2) (eOp pAdd (eOp pMul (eC (.int 2)) (eVar 3)) (eC (.int 1)))) aNil))) [3]))))))
noncomputable def f_law_cover_4 : FnS := fnOf 2 4 e_law_cover_4
theorem ints_get {ns : List Int} {j : Nat} (h : j < ns.length) : L2.atI (ns.map D.int) (j : Int) = some (.int (ns.getD j 0)) := by
  have := atI_d (l := ns.map D.int) (i := j) (.int 0) (by simpa using h)
  rw [this]; simp
/-- two and two of a row of numbers -/
def twos (us : List Int) : List Sp2 := (List.range (us.length / 2)).map fun i => (us.getD (2 * i) 0, us.getD (2 * i + 1) 0)
theorem us_lt {us : List Int} (h : us.Pairwise (· < ·)) {i j : Nat} (hij : i < j) (hj : j < us.length) : us.getD i 0 < us.getD j 0 := by
  have hi : i < us.length := by omega
  have := List.pairwise_iff_getElem.mp h i j hi hj hij
  rwa [show us.getD i 0 = us[i] by simp [hi], show us.getD j 0 = us[j] by simp [hj]]
theorem us_mem {us : List Int} {i : Nat} (hi : i < us.length) : us.getD i 0 ∈ us := by
  rw [show us.getD i 0 = us[i] by simp [hi]]
  exact List.getElem_mem hi
theorem twos_sep {us : List Int} (h : us.Pairwise (· < ·)) : Sep (twos us) := by
  refine ⟨?_, fun s hs => ?_⟩
  · unfold twos
    rw [List.pairwise_map]
    refine List.pairwise_lt_range.imp_of_mem fun {a b} ha hb hab => ?_
    have := List.mem_range.mp hb
    exact us_lt h (by omega) (by omega)
  · unfold twos at hs
    obtain ⟨i, hi, rfl⟩ := List.mem_map.mp hs
    have := List.mem_range.mp hi
    exact us_lt h (by omega) (by omega)
theorem twos_span {us : List Int} (h : us.Pairwise (· < ·)) (hr : ∀ x ∈ us, -999999999999 ≤ x ∧ x ≤ 999999999999) : ∀ s ∈ twos us, isSpan s = true := fun s hs => by
  have ps := (twos_sep h).pos s hs
  unfold twos at hs
  obtain ⟨i, hi, rfl⟩ := List.mem_map.mp hs
  have hi := List.mem_range.mp hi
  have a := hr _ (us_mem (us := us) (i := 2 * i) (by omega))
  have b := hr _ (us_mem (us := us) (i := 2 * i + 1) (by omega))
  exact good_iff.mpr ⟨by show -1000000000000 < us.getD (2 * i) 0; omega, ps, by show us.getD (2 * i + 1) 0 < 1000000000000; omega⟩
theorem undup_len : ∀ ns : List Int, (undup ns).length ≤ ns.length
  | [] => Nat.le_refl _
  | x :: xs => by
    have := undup_len xs
    unfold undup
    split
    · rw [List.length_cons]; omega
    · rw [List.length_cons, List.length_cons]; omega
theorem usort_le (ns : List Int) : (usort ns).length ≤ ns.length := by
  unfold usort
  rw [(isort_perm _).length_eq]
  exact undup_len ns
theorem law_cover_4_ok {m : Store} {k b n : Nat} {p : Purse} (hk : m[k]? = some (ePu p)) (hn : n ≤ 200) (hp : Pok (b + 3 * (2 * n)) p) :
    ∃ (ss : List Sp2) (p' : Purse), f_law_cover_4 [.cell k, .int (n : Int)] m = ret (.own (ss.map eS)) (m.set k (ePu p')) ∧ ss.length ≤ 200 ∧ (∀ s ∈ ss, isSpan s = true) ∧ isCover ss = true ∧ Pok b p' := by
  have hk0 : k < m.length := (List.getElem?_eq_some_iff.mp hk).1
  have key : wp (f_law_cover_4 [.cell k, .int (n : Int)] m) (fun r m' => ∃ (ss : List Sp2) (p' : Purse), r = .ok (.own (ss.map eS)) ∧ m' = m.set k (ePu p') ∧ ss.length ≤ 200 ∧ (∀ s ∈ ss, isSpan s = true) ∧ isCover ss = true ∧ Pok b p') := by
    unfold f_law_cover_4 e_law_cover_4
    refine wp_fnI rfl ?_
    refine ws_step (δ' := [some (.cell k), some (.int (n : Int)), some (.cell m.length), none]) (m' := m ++ [.lst (([] : List Int).map D.int)]) ?_ ?_
    · simp! only []
    have g0 : ∀ (q : Purse) (es : List Int), (m.set k (ePu q) ++ [Cell.lst (es.map D.int)])[k]? = some (ePu q) := fun q es => by rw [List.getElem?_append_left (by simpa using hk0)]; exact List.getElem?_set_self hk0
    have g1 : ∀ (q : Purse) (es : List Int), (m.set k (ePu q) ++ [Cell.lst (es.map D.int)])[m.length]? = some (.lst (es.map D.int)) := fun q es => by
      have : (m.set k (ePu q)).length = m.length := by simp
      rw [← this]; exact app_get
    have s0 : ∀ (q q' : Purse) (es : List Int), (m.set k (ePu q) ++ [Cell.lst (es.map D.int)]).set k (ePu q') = m.set k (ePu q') ++ [.lst (es.map D.int)] := fun q q' es => by rw [List.set_append_left _ _ (by simpa using hk0), List.set_set]
    have s1 : ∀ (q : Purse) (es : List Int) (xs : List D), (m.set k (ePu q) ++ [Cell.lst (es.map D.int)]).set m.length (.lst xs) = m.set k (ePu q) ++ [.lst xs] := fun q es xs => by
      have : (m.set k (ePu q)).length = m.length := by simp
      rw [← this]; simp
    have m0 : m = m.set k (ePu p) := (set_same hk).symm
    have pm : ∀ M : Store, pMul (.int 2) (.int (n : Int)) M = ret (.int ((2 * n : Nat) : Int)) M := fun M => by
      rw [pMul_l (by omega) (by omega)]; rfl
    have rg : Rg62 ((2 * n : Nat) : Int) := rg62 (by omega) (by omega)
    refine ws_mid (I := fun δ m' => ∃ (es : List Int) (q : Purse) (z3 : Option D), m' = m.set k (ePu q) ++ [.lst (es.map D.int)] ∧ es.length ≤ 400 ∧ (∀ x ∈ es, -999999999999 ≤ x ∧ x ≤ 999999999999) ∧ Pok b q ∧ δ = [some (.cell k), some (.int (n : Int)), some (.cell m.length), z3]) ?_ ?_
    · refine ws_forS (wk := ⟨(List.range (2 * n)).map fun i : Nat => D.int (i : Int), []⟩) (m' := m ++ [.lst (([] : List Int).map D.int)]) ?_ ?_
      · simp! only [pm, wRng1, rg, Int.toNat_natCast, rng_0]
      refine ws_mono (forT (en := fun i : Nat => D.int (i : Int)) (I := fun l δ m' => ∃ (es : List Int) (q : Purse) (z3 : Option D), m' = m.set k (ePu q) ++ [.lst (es.map D.int)] ∧ es.length + l.length ≤ 400 ∧ (∀ x ∈ es, -999999999999 ≤ x ∧ x ≤ 999999999999) ∧ Pok (b + 3 * l.length) q ∧ δ = [some (.cell k), some (.int (n : Int)), some (.cell m.length), z3]) (fun _ _ _ _ => chk_nil) ?_ (l := List.range (2 * n)) ⟨[], p, _, by rw [← m0], by simp; omega, (fun x hx => nomatch hx), by simpa using hp, rfl⟩) ?_
      · rintro i l δ m' ⟨es, q, z3, rfl, hl, hr, hq, rfl⟩
        rw [List.length_cons] at hl hq
        obtain ⟨x, q2, e, x0, x1, hq2⟩ := law_end_ok (b := b + 3 * l.length) (most := 999999999999) (g0 q es) (.inr ⟨m.length, by omega, rfl, g1 q es⟩) (by omega) (hq.mono (by omega)) (by omega) (by omega)
        rw [s0] at e
        have el : es.length < 100000 := by omega
        refine ⟨[some (.cell k), some (.int (n : Int)), some (.cell m.length), some (.int (i : Int))], rfl, ?_⟩
        refine ws_last (o := .nx [some (.cell k), some (.int (n : Int)), some (.cell m.length), some (.int (i : Int))] (m.set k (ePu q2) ++ [.lst ((es ++ [x]).map D.int)])) ?_ ⟨_, _, rfl, es ++ [x], q2, _, rfl, by rw [List.length_append]; show es.length + 1 + _ ≤ _; omega, fun y hy => ?_, hq2, rfl⟩
        · rw [List.map_append]
          simp! only [e, isLst_cell (g1 q es), isLst_cell (g1 q2 es), cellL_cell (g1 q2 es), List.length_map, el, s1]
        · rcases List.mem_append.mp hy with hy | hy
          · exact hr y hy
          · cases List.mem_singleton.mp hy; exact ⟨by omega, by omega⟩
      · rintro o ⟨δ, m', rfl, es, q, z3, rfl, hl, hr, hq, rfl⟩
        exact ⟨_, _, rfl, es, q, z3, rfl, by simpa using hl, hr, by simpa using hq, rfl⟩
    rintro δ m' ⟨es, q, z3, rfl, hl, hr, hq, rfl⟩
    obtain ⟨us, hus⟩ : ∃ us, us = usort es := ⟨_, rfl⟩
    have ul : us.length ≤ 400 := by rw [hus]; have := usort_le es; omega
    have up : us.Pairwise (· < ·) := by rw [hus]; exact usort_lt es
    have ur : ∀ x ∈ us, -999999999999 ≤ x ∧ x ≤ 999999999999 := fun x hx => hr x (usort_mem.mp (by rw [← hus]; exact hx))
    have l4 : es.length ≤ 4000 := by omega
    obtain ⟨M, hM⟩ : ∃ M, M = m.set k (ePu q) ++ [Cell.lst (es.map D.int)] := ⟨_, rfl⟩
    have lM : M.length = m.length + 1 := by rw [hM]; simp
    refine ws_step (δ' := [some (.cell k), some (.int (n : Int)), some (.cell (m.length + 1)), z3]) (m' := M ++ [.lst (us.map D.int)]) ?_ ?_
    · simp! only [fSortSet, rdQ_cell (g1 q es), toInts_map, l4, ← hus]
      rw [← hM, lM]
    have gU : (M ++ [Cell.lst (us.map D.int)])[m.length + 1]? = some (.lst (us.map D.int)) := by rw [← lM]; exact app_get
    have pd : pDiv (.int (us.length : Int)) (.int 2) (M ++ [.lst (us.map D.int)]) = ret (.int ((us.length / 2 : Nat) : Int)) (M ++ [.lst (us.map D.int)]) := by
      rw [pDiv_pos (by omega) (by omega)]; rfl
    have rg2 : Rg62 ((us.length / 2 : Nat) : Int) := rg62 (by omega) (by omega)
    have n2 : us.length / 2 < 100000 := by omega
    have lc : lcM (mName 3) mYes (eTup (aCons (eOp pIxL (eVar 2) (eOp pMul (eC (.int 2)) (eVar 3))) (aCons (eOp pIxL (eVar 2) (eOp pAdd (eOp pMul (eC (.int 2)) (eVar 3)) (eC (.int 1)))) aNil))) (Wk.mk ((List.range (us.length / 2)).map fun i : Nat => D.int (i : Int)) []).chk [some (.cell k), some (.int (n : Int)), some (.cell (m.length + 1)), none] ((List.range (us.length / 2)).map fun i : Nat => D.int (i : Int)) (M ++ [.lst (us.map D.int)]) = ret ((twos us).map eS) (M ++ [.lst (us.map D.int)]) := by
      unfold twos
      rw [List.map_map]
      exact lcM_map chk_nil (fun i : Nat => D.int (i : Int)) _ (List.range (us.length / 2)) fun i hi => ⟨[some (.cell k), some (.int (n : Int)), some (.cell (m.length + 1)), some (.int (i : Int))], rfl, by
        have hi := List.mem_range.mp hi
        have p1 : pMul (.int 2) (.int (i : Int)) (M ++ [.lst (us.map D.int)]) = ret (.int ((2 * i : Nat) : Int)) (M ++ [.lst (us.map D.int)]) := by
          rw [pMul_l (by omega) (by omega)]; rfl
        have a1 := ints_get (ns := us) (j := 2 * i) (by omega)
        have a2 := ints_get (ns := us) (j := 2 * i + 1) (by omega)
        have c1 : ((2 * i : Nat) : Int) + 1 = ((2 * i + 1 : Nat) : Int) := by omega
        simp! only [p1, rdQ_cell gU, a1, c1, a2]
        rfl⟩
    refine ws_last (o := .rt (.cell (m.length + 2)) (M ++ [.lst (us.map D.int)] ++ [.lst ((twos us).map eS)])) ?_ ?_
    · simp! only [rdS_cell gU, List.length_map, pd, wRng1, rg2, Int.toNat_natCast, rng_0, List.length_range, n2, wipeE, lc, List.length_append, lM]
    · rw [endF_rt, hM, List.append_assoc, List.append_assoc]
      rw [fin_own (i := 2) (m := m.set k (ePu q)) (by simp) (tidy_pu (Tidy.refl _)) rfl (unds_eS _ _)]
      simp only [wp_some]
      refine ⟨twos us, q, rfl, rfl, ?_, twos_span up ur, ?_, hq⟩
      · unfold twos; simp; omega
      · unfold isCover
        have : (twos us).length ≤ 200 := by unfold twos; simp; omega
        rw [decide_eq_true this, Bool.true_and]
        exact (rises_sep (twos_sep up).pos).mpr (twos_sep up)
  obtain ⟨r, m', e, ss, p', rfl, rfl, h⟩ := wp_get key
  exact ⟨ss, p', e, h⟩
noncomputable def e_law_span : MS :=
  (sSeq (sSet 3 (pla (fCall0 f_law_end (aCons (eVar 0) (aCons (eVar 1) (aCons (eVar 2) aNil))))))
    (sSeq (sSet 4 (pla (fCall0 f_law_end (aCons (eVar 0) (aCons (dat (fOp pCat (eVar 1) (dat (fLst (aCons (eVar 3) aNil))))) (aCons (eVar 2) aNil))))))
    (sSeq (sSet 5 (eCB pMin3 (aCons (eVar 3) (aCons (eVar 4) (aCons (eOp pSub (eVar 2) (eC (.int 1))) aNil)))))
    (sSeq (sSet 6 (eCB pMax3 (aCons (eVar 3) (aCons (eVar 4) (aCons (eOp pAdd (eVar 5) (eC (.int 1))) aNil)))))
    (sSeq (sExpr (eBM pAppend (eVar 1) (aCons (eVar 5) aNil)))
    (sSeq (sExpr (eBM pAppend (eVar 1) (aCons (eVar 6) aNil)))
    (sRet (eTup (aCons (eVar 5) (aCons (eVar 6) aNil))))))))))
noncomputable def f_law_span : FnS := fnOf 3 7 e_law_span
theorem law_number_an {m : Store} {k b : Nat} {p : Purse} {most : Int} (hk : m[k]? = some (ePu p)) (hp : Pok (b + 2) p) (h0 : 0 ≤ most) (hn : most < 1000000000000000000) :
    ∃ i p', f_law_number [.cell k, .int most] m = ret (.pl (.int i)) (m.set k (ePu p')) ∧ -(max 30 most) ≤ i ∧ i ≤ max 30 most ∧ Pok b p' := by
  obtain ⟨i1, p1, e1, h1, h2, hp1⟩ := law_draw_ok (b := b + 1) hk hp (n := 4) (by omega) (by omega)
  have hk1 : (m.set k (ePu p1))[k]? = some (ePu p1) := set_get hk
  obtain ⟨far, hf, hf1, hf2⟩ : ∃ far : Int, L2.atI [D.int 1, .int 4, .int 30, .int most] i1 = some (.int far) ∧ 0 ≤ far ∧ far ≤ max 30 most := by
    have : i1 = 0 ∨ i1 = 1 ∨ i1 = 2 ∨ i1 = 3 := by omega
    rcases this with rfl | rfl | rfl | rfl
    · exact ⟨1, rfl, by omega, by omega⟩
    · exact ⟨4, rfl, by omega, by omega⟩
    · exact ⟨30, rfl, by omega, by omega⟩
    · exact ⟨most, rfl, by omega, by omega⟩
  obtain ⟨i2, p2, e2, h3, h4, hp2⟩ := law_draw_ok (b := b) hk1 hp1 (n := 2 * far + 1) (by omega) (by omega)
  refine ⟨i2 - far, p2, ?_, by omega, by omega, hp2⟩
  unfold f_law_number e_law_number
  simp! only [pIxL, e1, hf, pMul_l (i := 2) (by omega) (by omega), e2, List.set_set]
theorem law_end_an {m : Store} {k b : Nat} {p : Purse} {d : D} {ends : List Int} {most : Int} (hk : m[k]? = some (ePu p)) (hd : d = .lst (ends.map D.int) ∨ ∃ l, l ≠ k ∧ d = .cell l ∧ m[l]? = some (.lst (ends.map D.int))) (hl : ends.length ≤ 10000) (hp : Pok (b + 3) p) (h0 : 0 ≤ most) (hn : most < 1000000000000000000) :
    ∃ i p', f_law_end [.cell k, d, .int most] m = ret (.pl (.int i)) (m.set k (ePu p')) ∧ -(max 30 most) ≤ i ∧ i ≤ max 30 most ∧ Pok b p' := by
  have hv : ∀ c, vw (m.set k c) d = some (.lst (ends.map D.int)) ∧ rdQ (m.set k c) d = some (ends.map D.int) ∧ rdS (m.set k c) d = some (ends.map D.int) := by
    rcases hd with rfl | ⟨l, hl, rfl, h⟩
    · exact fun c => ⟨rfl, rfl, rfl⟩
    · intro c
      have : (m.set k c)[l]? = some (.lst (ends.map D.int)) := by rw [set_get_ne (fun z => hl z.symm)]; exact h
      exact ⟨vw_cell this, rdQ_cell this, rdS_cell this⟩
  have hv0 : vw m d = some (.lst (ends.map D.int)) := by have := (hv (ePu p)).1; rwa [set_same hk] at this
  by_cases he : ends = []
  · subst he
    obtain ⟨i, p1, e1, h1, h2, hp1⟩ := law_number_an (b := b) hk (hp.mono (by omega)) h0 hn
    refine ⟨i, p1, ?_, h1, h2, hp1⟩
    unfold f_law_end e_law_end
    simp! only [pNeD_nil hv0 sh_ints, List.isEmpty_nil, Bool.not_true, cond_false, e1]
  · have hne : (ends.map D.int).isEmpty = false := by rw [isEmpty_map]; cases ends <;> first | rfl | exact absurd rfl he
    obtain ⟨i1, p1, e1, h1, h2, hp1⟩ := law_draw_ok (b := b + 2) hk hp (n := 3) (by omega) (by omega)
    have hk1 : (m.set k (ePu p1))[k]? = some (ePu p1) := set_get hk
    by_cases hz : 0 < i1
    · have hpos : 0 < ends.length := List.length_pos_iff.mpr he
      obtain ⟨i2, p2, e2, h3, h4, hp2⟩ := law_draw_ok (b := b + 1) hk1 hp1 (n := (ends.length : Int)) (by omega) (by omega)
      have hk2 : (m.set k (ePu p2))[k]? = some (ePu p2) := set_get hk
      rw [List.set_set] at e2
      obtain ⟨i3, p3, e3, h5, h6, hp3⟩ := law_draw_ok (b := b) hk2 hp2 (n := 3) (by omega) (by omega)
      rw [List.set_set] at e3
      have hx : L2.atI (ends.map D.int) i2 = some (.int (ends.getD i2.toNat 0)) := atI_map (atI_getD 0 h3 h4)
      refine ⟨max (0 - most) (min most (ends.getD i2.toNat 0 + i3 - 1)), p3, ?_, by omega, by omega, hp3⟩
      unfold f_law_end e_law_end
      simp! only [pNeD_nil hv0 sh_ints, hne, Bool.not_false, cond_true, e1, decide_eq_true hz, pIxL, pLen, (hv _).2.1, (hv _).2.2, List.length_map, e2, hx, e3]
    · obtain ⟨i2, p2, e2, h3, h4, hp2⟩ := law_number_an (b := b) hk1 hp1 h0 hn
      rw [List.set_set] at e2
      refine ⟨i2, p2, ?_, h3, h4, hp2⟩
      unfold f_law_end e_law_end
      simp! only [pNeD_nil hv0 sh_ints, hne, Bool.not_false, cond_true, e1, decide_eq_false hz, cond_false, e2]
theorem law_span_any {m : Store} {k l b : Nat} {p : Purse} {ends : List Int} {most : Int} (hkl : k ≠ l) (hk : m[k]? = some (ePu p)) (hl : m[l]? = some (.lst (ends.map D.int))) (hn : ends.length ≤ 9000) (hp : Pok (b + 6) p) (h0 : 0 ≤ most) (h1 : most < 1000000000000000000) :
    ∃ s p', f_law_span [.cell k, .cell l, .int most] m = ret (.pl (eS s)) ((m.set k (ePu p')).set l (.lst ((ends ++ [s.1, s.2]).map D.int))) ∧ -(max 30 most) ≤ s.1 ∧ s.1 < s.2 ∧ s.2 ≤ max 30 most ∧ Pok b p' := by
  obtain ⟨i1, p1, e1, a1, a2, hp1⟩ := law_end_an (b := b + 3) (d := .cell l) hk (.inr ⟨l, fun z => hkl z.symm, rfl, hl⟩) (by omega) hp h0 h1
  have hk1 : (m.set k (ePu p1))[k]? = some (ePu p1) := set_get hk
  have hl1 : ∀ c, (m.set k c)[l]? = some (.lst (ends.map D.int)) := fun c => by rw [set_get_ne hkl]; exact hl
  obtain ⟨i2, p2, e2, a3, a4, hp2⟩ := law_end_an (b := b) (d := .lst ((ends ++ [i1]).map D.int)) hk1 (.inl rfl) (by rw [List.length_append]; show ends.length + 1 ≤ 10000; omega) hp1 h0 h1
  rw [List.set_set] at e2
  refine ⟨(min (min i1 i2) (most - 1), max (max i1 i2) (min (min i1 i2) (most - 1) + 1)), p2, ?_, ?_, ?_, ?_, hp2⟩
  · have e2' : f_law_end [.cell k, .lst (ends.map D.int ++ [.int i1]), .int most] (m.set k (ePu p1)) = ret (.pl (.int i2)) (m.set k (ePu p2)) := by rw [← e2, List.map_append]; rfl
    have hl2 : ∀ c xs, ((m.set k c).set l (.lst xs))[l]? = some (.lst xs) := fun c xs => set_get (hl1 c)
    unfold f_law_span e_law_span
    simp! only [e1, pCat, rdL_cell (hl1 _), List.length_map]
    rw [if_pos (by omega)]
    simp! only [e2', eBM, isLst_cell (hl1 _), isLst_cell (hl2 _ _), pAppend, cellL_cell (hl1 _), cellL_cell (hl2 _ _), List.length_map]
    rw [if_pos (by omega)]
    simp! only [eBM, isLst_cell (hl2 _ _), pAppend, cellL_cell (hl2 _ _), List.length_map, List.length_append]
    rw [if_pos (by omega)]
    simp! only [eS, List.set_set, List.map_append, List.append_assoc]
  · show -(max 30 most) ≤ min (min i1 i2) (most - 1); omega
  · show min (min i1 i2) (most - 1) < max (max i1 i2) (min (min i1 i2) (most - 1) + 1); omega
  · show max (max i1 i2) (min (min i1 i2) (most - 1) + 1) ≤ max 30 most; omega
/-! texts: parts of them, numbers that they write, their order, texts time and again; d.get -/
section
variable {K : PySem.W.Frag} {W : WX} {ta tb tc to td : TE} {a b c o : ME}
/-- a method of a text that is handed one text -/
def eM1 {κ : Type} (f : Str → Str → Store → MX κ) (o a : ME) : En → Store → MX κ := fun δ m => (o δ m).bind fun x m => match x with
  | .str z => (a δ m).bind fun y m => match y with
    | .str w => f z w m
    | _ => none
  | _ => none
theorem so_m1 {κ : Type} {R : Rel V κ} (mon : RMon R) {r : V → List V → Hp → VK → Prop} {f : Str → Str → Store → MX κ} (hf : ∀ z w m res m', f z w m = some (res, m') → ∀ rr F H σ, HR K rr F H m → JAt K W R rr F H σ m (r (.str z) [.str w]) res m')
    (ho : So K W (RE K) to o) (ha : So K W (RE K) ta a) : So K W R (tM1 r to ta) (eM1 f o a) := fun δ m res m' e rr F H σ hr er => by
  show JAt K W R rr F H σ m (fun H Q => to σ H fun x H1 => (∃ a, x = .str a) ∧ ta σ H1 fun y H2 => r x [y] H2 Q) res m'
  rcases bind_some e with ⟨x, m1, e1, e2⟩ | ⟨y, e1, rfl⟩
  · refine (ho δ m _ _ e1 rr F H σ hr er).bind mon hr fun v r1 F1 H1 hr1 x1 rv => ?_
    cases x with
    | str z =>
      cases rv
      dsimp only at e2
      have key : JAt K W R r1 F1 H1 σ m1 (fun H Q => ta σ H fun y H2 => r (.str z) [y] H2 Q) res m' := by
        rcases bind_some e2 with ⟨y, m2, e3, e4⟩ | ⟨y, e3, rfl⟩
        · refine (ha δ m1 _ _ e3 r1 F1 H1 σ hr1 (er.ext x1)).bind mon hr1 fun vy r2 F2 H2 hr2 x2 ry => ?_
          cases y with
          | str w => cases ry; exact hf z w m2 res m' e4 r2 F2 H2 σ hr2
          | _ => cases e4
        · exact (ha δ m1 _ _ e3 r1 F1 H1 σ hr1 (er.ext x1)).thrown
      cases res with
      | ok w => exact fun Q q => ⟨⟨z, rfl⟩, key Q q⟩
      | ex w => exact fun q Q => ⟨⟨z, rfl⟩, key q Q⟩
    | _ => cases e2
  · exact (ho δ m _ _ e1 rr F H σ hr er).thrown
theorem repStr {r : List Addr} {F : Hp} : ∀ zs : List Str, RepAll K r F (zs.map V.str) (zs.map D.str)
  | [] => .nil
  | z :: zs => .cons (.str z) (repStr zs)
/-- s.split(t) -/
abbrev rSplit : V → List V → Hp → VK → Prop := fun x xs H Q => ∃ a b, x = .str a ∧ xs = [.str b] ∧ (b.length == 0) = false ∧ a.length + 2 ≤ sizeLine ∧ rNewStrs (Txt.split a b) H Q
def fSplit (o a : ME) : MF := eM1 (fun z w m => if (w.length == 0) = false ∧ z.length ≤ 90000 then ret (FT.own ((Txt.split z w).map D.str)) m else none) o a
theorem so_split (ho : So K W (RE K) to o) (ha : So K W (RE K) ta a) : So K W (RF K) (tM1 rSplit to ta) (fSplit o a) := so_m1 rf_mon (fun z w m res m' e rr F H σ hr => by
  split at e
  · rename_i hc
    cases e
    refine fun Q q => ⟨z, w, rfl, rfl, hc.1, Evl.sz_of (by omega), fun p hp => ?_⟩
    obtain ⟨q1, q2, q3⟩ := rf_new (xs := (Txt.split z w).map D.str) hr hp (repStr _)
    exact q _ rr F _ q1 q2 q3
  · cases e) ho ha
/-- s.partition(t) -/
abbrev rPart : V → List V → Hp → VK → Prop := fun x xs H Q => ∃ a b, x = .str a ∧ xs = [.str b] ∧ (b.length == 0) = false ∧ a.length ≤ sizeLine ∧ ∀ p, H p = none → Q (.ref p) (upd H p (.tup [.str (Txt.partition a b).1, .str (Txt.partition a b).2.1, .str (Txt.partition a b).2.2]))
def ePart (o a : ME) : ME := eM1 (fun z w m => if (w.length == 0) = false ∧ z.length ≤ 90000 then ret (.tup [.str (Txt.partition z w).1, .str (Txt.partition z w).2.1, .str (Txt.partition z w).2.2]) m else none) o a
theorem so_part (ho : So K W (RE K) to o) (ha : So K W (RE K) ta a) : So K W (RE K) (tM1 rPart to ta) (ePart o a) := so_m1 re_mon (fun z w m res m' e rr F H σ hr => by
  split at e
  · rename_i hc
    cases e
    exact fun Q q => ⟨z, w, rfl, rfl, hc.1, Evl.sz_of (by omega), fun p hp => q _ rr _ _ (hr.laid hp) (Ext.laid hr hp) (.tup upd_same (.cons (.str _) (.cons (.str _) (.cons (.str _) .nil))))⟩
  · cases e) ho ha
/-- int(s) -/
abbrev rIntS : List V → Hp → VK → Prop := fun xs H Q => ∃ a n, xs = [.str a] ∧ PySem.intText? a = some n ∧ a.length ≤ 640 ∧ Q (.int n) H
def pIntS : List D → Store → MX D := fun xs m => match xs with
  | [.str z] => if z.length ≤ 640 then (PySem.intText? z).bind fun n => ret (.int n) m else none
  | _ => none
theorem sc_pIntS : SC K W (RE K) rIntS pIntS := fun xs m res m' e r F H σ vs hr p => by
  unfold pIntS at e
  split at e
  · rename_i z
    split at e
    · rename_i hz
      cases h0 : PySem.intText? z with
      | none => rw [h0] at e; cases e
      | some n =>
        rw [h0] at e
        cases e
        obtain ⟨v, rfl, pv⟩ := rep1 p
        cases pv
        exact fun Q q => ⟨z, n, rfl, h0, hz, q _ r F H hr (Ext.refl hr) (.int _)⟩
    · cases e
  · cases e
/-- the order of texts -/
abbrev rGtS : R2 := fun x y H Q => ∃ i j, x = .str i ∧ y = .str j ∧ Q (.bl (decide (j.cps.toList < i.cps.toList))) H
def pGtS : D → D → Store → MX D := fun x y m => match x, y with
  | .str i, .str j => ret (.bl (decide (j.cps.toList < i.cps.toList))) m
  | _, _ => none
theorem s2_pGtS : S2 K W rGtS pGtS := fun x y m res m' e r F H σ vx vy hr px py => by
  unfold pGtS at e
  split at e
  · rename_i i j
    cases e; cases px; cases py
    exact fun Q q => ⟨i, j, rfl, rfl, q _ r F H hr (Ext.refl hr) (.bl _)⟩
  · cases e
end
/-! a text time and again -/
/-! ### numbers and spans as texts -/
open PySem PySem.NumText
/-- the signs of a whole number -/
def numZ (i : Int) : List Nat := if i < 0 then 45 :: TL.numL i.natAbs else TL.numL i.natAbs
theorem numZ_pos {n : Nat} : numZ (n : Int) = TL.numL n := by
  unfold numZ
  rw [if_neg (by omega), Int.natAbs_natCast]
theorem numZ_neg {n : Nat} : numZ (-((n + 1 : Nat) : Int)) = 45 :: TL.numL (n + 1) := by
  unfold numZ
  rw [if_pos (by omega)]
  congr 2
theorem int_cases (i : Int) : (∃ n : Nat, i = (n : Int)) ∨ ∃ n : Nat, i = -((n + 1 : Nat) : Int) := by
  by_cases h : 0 ≤ i
  · exact .inl ⟨i.toNat, by omega⟩
  · exact .inr ⟨(-i).toNat - 1, by omega⟩
theorem str_int (i : Int) : Str.ofString (toString i) = tx (numZ i) := by
  refine TL.ext_tl ?_
  show _ = numZ i
  rcases int_cases i with ⟨n, rfl⟩ | ⟨n, rfl⟩
  · rw [numZ_pos, TL.tl_num]
  · rw [numZ_neg]
    have e : toString (-((n + 1 : Nat) : Int)) = "-" ++ toString (((n + 1 : Nat)) : Int) := rfl
    have t := TL.tl_num (n + 1)
    rw [TL.tl_ofString] at t
    rw [e, TL.tl_ofString, String.toList_append, List.map_append, t]
    rfl
theorem numZ_sign {i : Int} : ∀ c ∈ numZ i, c = 45 ∨ (48 ≤ c ∧ c ≤ 57) := fun c hc => by
  unfold numZ at hc
  split at hc
  · rcases List.mem_cons.mp hc with rfl | hc
    · exact .inl rfl
    · exact .inr (TL.numL_digits _ c hc)
  · exact .inr (TL.numL_digits _ c hc)
theorem numZ_free {i : Int} {c : Nat} (h : c ≠ 45) (h2 : c < 48 ∨ 57 < c) : c ∉ numZ i := fun hc => by
  rcases numZ_sign c hc with rfl | hc
  · exact h rfl
  · omega
theorem numL_12 {n : Nat} (h : n < 1000000000000) : (TL.numL n).length ≤ 12 := TL.numL_len (by decide) (by omega)
theorem numZ_len {i : Int} (h : -1000000000000 < i) (h2 : i < 1000000000000) : (numZ i).length ≤ 13 := by
  unfold numZ
  have := numL_12 (n := i.natAbs) (by omega)
  split
  · rw [List.length_cons]; omega
  · omega
theorem int_read {i : Int} (h : -1000000000000 < i) (h2 : i < 1000000000000) : intText? (tx (numZ i)) = some i := by
  have l := numZ_len h h2
  rcases int_cases i with ⟨n, rfl⟩ | ⟨n, rfl⟩
  · rw [numZ_pos] at l ⊢
    have := intText_digits (x := tx (TL.numL n)) (TL.numL_digits n) (TL.numL_ne n) (by rw [tx_len]; omega)
    rw [this]
    show some ((digitsVal (TL.numL n) : Nat) : Int) = _
    rw [TL.numL_val]
  · rw [numZ_neg] at l ⊢
    have := intText_neg (x := tx (45 :: TL.numL (n + 1))) (cs := TL.numL (n + 1)) rfl (TL.numL_digits _) (TL.numL_ne _) (by rw [tx_len]; omega)
    rw [this, TL.numL_val]
theorem strI_tx {i : Int} (h : -1000000000001 < i) (h2 : i < 1000000000001) (m : Store) : pStrI [.int i] m = ret (.str (tx (numZ i))) m := by
  have l : i.natAbs.log2 < 1920 := by
    by_cases z : i.natAbs = 0
    · rw [z]; decide
    · have := (Nat.log2_lt z (k := 64)).mpr (by omega)
      omega
  show (if i.natAbs.log2 < 1920 then ret (D.str (Str.ofString (toString i))) m else none) = _
  rw [if_pos l, str_int]
/-- a span's text -/
def spanL (s : Sp2) : List Nat := numZ s.1 ++ ([46, 46] ++ numZ s.2)
theorem spanL_len {s : Sp2} (h : isSpan s = true) : (spanL s).length ≤ 28 := by
  have g := good_iff.mp h
  have a := numZ_len (i := s.1) (by have := g.1; omega) (by have := g.1; have := g.2.1; have := g.2.2; omega)
  have b := numZ_len (i := s.2) (by have := g.1; have := g.2.1; have := g.2.2; omega) (by have := g.2.2; omega)
  unfold spanL
  rw [List.length_append, List.length_append]
  show _ + (2 + _) ≤ _
  omega
theorem dd_tx : (".." : Str) = tx [46, 46] := by decide +kernel
theorem sp_tx : (" " : Str) = tx [32] := by decide +kernel
/-! ### a shelf in its cells -/
abbrev Ent := Sp2 × Int
abbrev Kv := List (Str × Ent)
def eE (e : Ent) : D := .tup [eS e.1, .int e.2]
def encV (kv : Kv) : List (Key × D) := kv.map fun p => (.inr p.1, eE p.2)
def lookV (kv : Kv) (x : Str) : Option Ent := (kv.find? fun p => decide (p.1 = x)).map (·.2)
def putV (kv : Kv) (x : Str) (e : Ent) : Kv := if (kv.any fun p => decide (p.1 = x)) = true then kv.map (fun p => if p.1 = x then (p.1, e) else p) else kv ++ [(x, e)]
theorem inr_eq {a b : Str} : ((Sum.inr a : Key) = Sum.inr b) ↔ a = b := ⟨fun h => Sum.inr.inj h, fun h => by rw [h]⟩
theorem valV_enc (kv : Kv) (x : Str) : valD (encV kv) (.inr x) = (lookV kv x).map eE := by
  unfold valD lookV encV
  induction kv with
  | nil => rfl
  | cons p kv ih =>
    rw [List.map_cons, List.find?_cons, List.find?_cons]
    by_cases h : p.1 = x
    · rw [decide_eq_true (inr_eq.mpr h), decide_eq_true h]; rfl
    · rw [decide_eq_false (fun z => h (inr_eq.mp z)), decide_eq_false h]; exact ih
theorem anyV_enc (kv : Kv) (x : Str) : ((encV kv).any fun p => decide (p.1 = (.inr x : Key))) = kv.any fun p => decide (p.1 = x) := by
  unfold encV
  rw [List.any_map]
  congr 1
  funext p
  exact decide_eq_decide.mpr inr_eq
theorem putV_enc (kv : Kv) (x : Str) (e : Ent) : putD (encV kv) (.inr x) (eE e) = encV (putV kv x e) := by
  unfold putD putV
  rw [anyV_enc]
  split
  · unfold encV
    rw [List.map_map, List.map_map]
    refine List.map_congr_left fun p _ => ?_
    show (if (Sum.inr p.1 : Key) = Sum.inr x then _ else _) = _
    by_cases h : p.1 = x
    · rw [if_pos (inr_eq.mpr h)]
      show _ = (Sum.inr (if p.1 = x then (p.1, e) else p).1, eE (if p.1 = x then (p.1, e) else p).2)
      rw [if_pos h]
    · rw [if_neg (fun z => h (inr_eq.mp z))]
      show _ = (Sum.inr (if p.1 = x then (p.1, e) else p).1, eE (if p.1 = x then (p.1, e) else p).2)
      rw [if_neg h]
  · unfold encV
    rw [List.map_append]
    rfl
theorem keysS_enc (kv : Kv) : keysS (encV kv) = some (kv.map (·.1)) := by
  induction kv with
  | nil => rfl
  | cons p kv ih =>
    show (keysS (encV kv)).map (p.1 :: ·) = _
    rw [ih]; rfl
theorem encV_len (kv : Kv) : (encV kv).length = kv.length := by unfold encV; simp
theorem look_none {kv : Kv} {x : Str} : lookV kv x = none ↔ x ∉ kv.map (·.1) := by
  unfold lookV
  rw [Option.map_eq_none_iff, List.find?_eq_none]
  constructor
  · intro h hx
    obtain ⟨p, hp, e⟩ := List.mem_map.mp hx
    exact h p hp (decide_eq_true e)
  · intro h p hp e
    exact h (List.mem_map.mpr ⟨p, hp, of_decide_eq_true e⟩)
theorem look_some {kv : Kv} {x : Str} (h : x ∈ kv.map (·.1)) : ∃ e, lookV kv x = some e := by
  cases hl : lookV kv x with
  | none => exact absurd h (look_none.mp hl)
  | some e => exact ⟨e, rfl⟩
theorem look_in {kv : Kv} {x : Str} {e : Ent} (h : lookV kv x = some e) : (x, e) ∈ kv := by
  unfold lookV at h
  cases hf : kv.find? fun p => decide (p.1 = x) with
  | none => rw [hf] at h; cases h
  | some p =>
    rw [hf] at h
    cases h
    have h1 := List.find?_some hf
    have h2 := List.mem_of_find?_eq_some hf
    have : p.1 = x := by simpa using h1
    rw [← this]
    exact h2
theorem look_mem {kv : Kv} {x : Str} {e : Ent} (nd : (kv.map (·.1)).Nodup) (h : (x, e) ∈ kv) : lookV kv x = some e := by
  unfold lookV
  induction kv with
  | nil => cases h
  | cons p kv ih =>
    rw [List.find?_cons]
    obtain ⟨n1, n2⟩ := List.nodup_cons.mp nd
    by_cases hp : p.1 = x
    · rw [decide_eq_true hp]
      rcases List.mem_cons.mp h with rfl | hm
      · rfl
      · exact absurd (List.mem_map.mpr ⟨(x, e), hm, hp.symm⟩) n1
    · rw [decide_eq_false hp]
      rcases List.mem_cons.mp h with rfl | hm
      · exact absurd rfl hp
      · exact ih n2 hm
theorem putV_new {kv : Kv} {x : Str} {e : Ent} (h : x ∉ kv.map (·.1)) : putV kv x e = kv ++ [(x, e)] := by
  unfold putV
  rw [if_neg]
  intro z
  obtain ⟨p, hp, hx⟩ := List.any_eq_true.mp z
  exact h (List.mem_map.mpr ⟨p, hp, by simpa using hx⟩)
def namesV (kv : Kv) : List Str := ssort (kv.map (·.1))
def spanV (kv : Kv) (x : Str) : Sp2 := ((lookV kv x).getD ((0, 0), 0)).1
def spansV (kv : Kv) : List Sp2 := (namesV kv).map (spanV kv)
def wtV (kv : Kv) (x : Str) : Int := ((lookV kv x).getD ((0, 0), 0)).2
theorem namesV_mem {kv : Kv} {x : Str} : x ∈ namesV kv ↔ x ∈ kv.map (·.1) := (ssort_perm _).mem_iff
theorem namesV_len (kv : Kv) : (namesV kv).length = kv.length := by unfold namesV; rw [(ssort_perm _).length_eq]; simp
theorem spansV_perm {kv : Kv} (nd : (kv.map (·.1)).Nodup) : (spansV kv).Perm (kv.map fun p => p.2.1) := by
  unfold spansV namesV
  refine ((ssort_perm (kv.map (·.1))).map (spanV kv)).trans ?_
  rw [List.map_map]
  refine List.Perm.of_eq (List.map_congr_left fun p hp => ?_)
  show spanV kv p.1 = _
  unfold spanV
  rw [look_mem nd (e := p.2) hp]
  rfl
abbrev shF (a b c : Nat) : List (Str × D) := [("kept", .cell a), ("behind", .cell b), ("ahead", .cell c)]
section
variable {a b c : Nat}
theorem sk_kept : lkF "kept" (shF a b c) = some (.cell a) := rfl
theorem sk_names : lkF "names" (shF a b c) = none := rfl
theorem sk_span : lkF "span" (shF a b c) = none := rfl
theorem sk_weight : lkF "weight" (shF a b c) = none := rfl
theorem sk_must_have : lkF "must_have" (shF a b c) = none := rfl
end
theorem cellI_sh {m : Store} {k : Nat} {x : Str} {fs : List (Str × D)} (h : m[k]? = some (.ins x fs)) : cellI m x (.cell k) = some (k, fs) := by
  unfold cellI; dsimp only; rw [h]; simp
theorem cellK_sh {m : Store} {k : Nat} {kvs : List (Key × D)} (h : m[k]? = some (.dK kvs)) : cellK m (.cell k) = some (k, kvs) := by
  unfold cellK; dsimp only; rw [h]
theorem cellR_sh {m : Store} {k : Nat} {kvs : List (Key × D)} (h : m[k]? = some (.dK kvs)) : cellR m (.cell k) = some (k, kvs) := by
  unfold cellR; dsimp only; rw [h]
/-- what is read of a shelf -/
structure SK (m : Store) (k a b c : Nat) (kv : Kv) : Prop where
  hk : m[k]? = some (.ins "Shelf" (shF a b c))
  ha : m[a]? = some (.dK (encV kv))
structure SH (m : Store) (k a b c : Nat) (kv : Kv) (bs as : List D) : Prop where
  sk : SK m k a b c kv
  hb : m[b]? = some (.lst bs)
  hc : m[c]? = some (.lst as)
  nd : [k, a, b, c].Nodup
section
variable {m : Store} {k a b c : Nat} {kv : Kv} {bs as : List D}
theorem SK.ins (h : SK m k a b c kv) : cellI m "Shelf" (.cell k) = some (k, shF a b c) := cellI_sh h.hk
theorem SK.dict (h : SK m k a b c kv) : cellR m (.cell a) = some (a, encV kv) := cellR_sh h.ha
theorem SK.set (h : SK m k a b c kv) {i : Nat} {x : Cell} (h1 : i ≠ k) (h2 : i ≠ a) : SK (m.set i x) k a b c kv := ⟨by rw [List.getElem?_set_ne h1]; exact h.hk, by rw [List.getElem?_set_ne h2]; exact h.ha⟩
theorem SK.app (h : SK m k a b c kv) {l : Store} : SK (m ++ l) k a b c kv := ⟨by rw [List.getElem?_append_left (List.getElem?_eq_some_iff.mp h.hk).1]; exact h.hk, by rw [List.getElem?_append_left (List.getElem?_eq_some_iff.mp h.ha).1]; exact h.ha⟩
end
def isWt (w : Int) : Bool := decide (0 ≤ w) && decide (w ≤ 1000000000)
/-! deeds on a shelf, as plain data -/
inductive Deed where
  | put (x : Str) (s : Sp2) (w : Int)
  | out (x : Str)
  | move (x : Str) (i : Int)
  | clip (x : Str) (s : Sp2)
  | weigh (x : Str) (w : Int)
/-- what stands on a shelf -/
structure Wf (kv : Kv) : Prop where
  nd : (kv.map (·.1)).Nodup
  fine : ∀ p ∈ kv, isSpan p.2.1 = true ∧ isWt p.2.2 = true
  nm : ∀ p ∈ kv, isNm p.1 = true
  len : kv.length ≤ 60
theorem Wf.nil : Wf [] := ⟨by simp, (fun p hp => nomatch hp), (fun p hp => nomatch hp), Nat.zero_le _⟩
theorem look_at {kv : Kv} {x : Str} (h : x ∈ kv.map (·.1)) : lookV kv x = some (spanV kv x, wtV kv x) := by
  obtain ⟨e, he⟩ := look_some h
  unfold spanV wtV
  rw [he]; rfl
theorem Wf.at {kv : Kv} (h : Wf kv) {x : Str} (hx : x ∈ kv.map (·.1)) : isSpan (spanV kv x) = true ∧ isWt (wtV kv x) = true ∧ isNm x = true := by
  have hl := look_in (look_at hx)
  exact ⟨(h.fine _ hl).1, (h.fine _ hl).2, h.nm _ hl⟩
/-! the same but for their order -/
theorem nm_str {x : Str} (h : isNm x = true) : PyData.strOk x = true := by
  unfold isNm at h
  rw [Bool.and_eq_true, List.all_eq_true] at h
  unfold PyData.strOk
  rw [← Array.all_toList, List.all_eq_true]
  intro c hc
  have := ltr_mem.mp (of_decide_eq_true (h.2 c hc))
  exact decide_eq_true (by omega)
theorem sh_str {n : Nat} {x : Str} (h : PyData.strOk x = true) : Sh n (.str x) := by cases n <;> exact h
/-! the law's own dict of spans, beside a shelf -/
/-! walks over a dict -/
def depth (ss : List Sp2) (x : Int) : Nat := (ss.filter fun s => holdB s x).length
def ends (ss : List Sp2) : List Int := usort (ss.map (·.1) ++ ss.map (·.2))
/-! ### pieces of one depth -/
abbrev Tr := Int × Int × Int
def e3 (t : Tr) : D := .tup [.int t.1, .int t.2.1, .int t.2.2]
noncomputable def e_Shelf_names : MS :=
  (sRet (cel (fCB pSortD (aCons (eFld "Shelf" "kept" (eVar 0)) aNil))))
noncomputable def f_Shelf_names : FnS := fnOf 1 1 e_Shelf_names
theorem Shelf_names_eq {m : Store} {k a b c : Nat} {kv : Kv} (h : SK m k a b c kv) (hl : kv.length < 64) : f_Shelf_names [.cell k] m = ret (.own ((namesV kv).map D.str)) m := by
  have hl' : (kv.map (·.1)).length < 64 := by simpa using hl
  unfold f_Shelf_names e_Shelf_names
  simp! only [eFld, pLenS, pDictD, pLenD, pDIn, keyD, pSortD, eSlS, h.ins, sk_kept, h.dict, keysS_enc, hl']
  exact fin_own0 (unds_map (fun _ => rfl) _)
noncomputable def e_Shelf_must_have : MS :=
  (sIf (tst (eOp (pDIn true) (eVar 1) (eFld "Shelf" "kept" (eVar 0)))) (sRaise "NoName") sNext)
noncomputable def f_Shelf_must_have : FnS := fnOf 2 2 e_Shelf_must_have
theorem Shelf_must_have_eq {m : Store} {k a b c : Nat} {kv : Kv} {x : Str} (h : SK m k a b c kv) : f_Shelf_must_have [.cell k, .str x] m = if (lookV kv x).isSome = true then ret (.pl .non) m else some (.ex "NoName", m) := by
  have e : (valD (encV kv) (.inr x)).isSome = (lookV kv x).isSome := by rw [valV_enc]; cases lookV kv x <;> rfl
  unfold f_Shelf_must_have e_Shelf_must_have
  cases hx : (lookV kv x).isSome with
  | true =>
    rw [hx] at e
    simp! only [eFld, pLenS, pDictD, pLenD, pDIn, keyD, pSortD, eSlS, h.ins, sk_kept, h.dict, e]
  | false =>
    rw [hx] at e
    simp! only [eFld, pLenS, pDictD, pLenD, pDIn, keyD, pSortD, eSlS, h.ins, sk_kept, h.dict, e, Bool.false_eq_true, cut_same]
theorem dget_sh {m : Store} {k a b c : Nat} {kv : Kv} (h : SK m k a b c kv) {x : Str} {e : Ent} (hx : lookV kv x = some e) : pDGet (.cell a) (.str x) m = ret (.tup [eS e.1, .int e.2]) m := by
  unfold pDGet
  rw [h.dict]
  simp only [Option.bind_some, keyD, valV_enc, hx]
  rfl
noncomputable def e_Shelf_span : MS :=
  (sSeq (sExpr (pla (fMethS "Shelf" "must_have" f_Shelf_must_have (eVar 0) (aCons (eVar 1) aNil))))
    (sRet (eOp pIxT (eOp pDGet (eFld "Shelf" "kept" (eVar 0)) (eVar 1)) (eC (.int 0)))))
noncomputable def f_Shelf_span : FnS := fnOf 2 2 e_Shelf_span
theorem Shelf_span_ok {m : Store} {k a b c : Nat} {kv : Kv} {x : Str} (h : SK m k a b c kv) (hx : x ∈ kv.map (·.1)) : f_Shelf_span [.cell k, .str x] m = ret (.pl (eS (spanV kv x))) m := by
  obtain ⟨e, he⟩ := look_some hx
  have hv : spanV kv x = e.1 := by unfold spanV; rw [he]; rfl
  have mh := Shelf_must_have_eq (x := x) h
  rw [he] at mh
  replace mh : f_Shelf_must_have [.cell k, .str x] m = ret (.pl .non) m := mh
  unfold f_Shelf_span e_Shelf_span
  simp! only [fMethS, eFld, h.ins, sk_must_have, mh, sk_kept, dget_sh h he, hv]
noncomputable def e_Shelf_weight : MS :=
  (sSeq (sExpr (pla (fMethS "Shelf" "must_have" f_Shelf_must_have (eVar 0) (aCons (eVar 1) aNil))))
    (sRet (eOp pIxT (eOp pDGet (eFld "Shelf" "kept" (eVar 0)) (eVar 1)) (eC (.int 1)))))
noncomputable def f_Shelf_weight : FnS := fnOf 2 2 e_Shelf_weight
theorem Shelf_weight_ok {m : Store} {k a b c : Nat} {kv : Kv} {x : Str} (h : SK m k a b c kv) (hx : x ∈ kv.map (·.1)) : f_Shelf_weight [.cell k, .str x] m = ret (.pl (.int (wtV kv x))) m := by
  obtain ⟨e, he⟩ := look_some hx
  have hv : wtV kv x = e.2 := by unfold wtV; rw [he]; rfl
  have mh := Shelf_must_have_eq (x := x) h
  rw [he] at mh
  replace mh : f_Shelf_must_have [.cell k, .str x] m = ret (.pl .non) m := mh
  unfold f_Shelf_weight e_Shelf_weight
  simp! only [fMethS, eFld, h.ins, sk_must_have, mh, sk_kept, dget_sh h he, hv]
/-! what is read of a shelf while a dict is walked -/
structure SKr (m : Store) (k a b c : Nat) (kv : Kv) : Prop where
  hk : m[k]? = some (.ins "Shelf" (shF a b c))
  ha : cellR m (.cell a) = some (a, encV kv)
section
variable {m : Store} {k a b c : Nat} {kv : Kv} {x : Str}
theorem SKr.ins (h : SKr m k a b c kv) : cellI m "Shelf" (.cell k) = some (k, shF a b c) := cellI_sh h.hk
theorem dgetV {d : Nat} {e : Ent} (h : cellR m (.cell d) = some (d, encV kv)) (hx : lookV kv x = some e) : pDGet (.cell d) (.str x) m = ret (.tup [eS e.1, .int e.2]) m := by
  unfold pDGet
  rw [h]
  simp only [Option.bind_some, keyD, valV_enc, hx]
  rfl
theorem SK.r (h : SK m k a b c kv) : SKr m k a b c kv := ⟨h.hk, h.dict⟩
theorem Wf.str (h : Wf kv) : ∀ x ∈ kv.map (·.1), PyData.strOk x = true := fun x hx => nm_str (h.at hx).2.2
theorem Wf.spans (h : Wf kv) : ∀ s ∈ spansV kv, isSpan s = true := fun s hs => by
  rw [(spansV_perm h.nd).mem_iff] at hs
  obtain ⟨p, hp, rfl⟩ := List.mem_map.mp hs
  exact (h.fine p hp).1
end
/-! ### sorted triples -/
def k3 (t : Tr) : List Int := [t.1, t.2.1, t.2.2]
/-! ### the span that ends first, again and again -/
def pin (t : Tr) : Int := t.1 - 1
/-! ### lanes along a line: one lane more by a longest way -/
inductive Kd where
  | idle | back | off | on
abbrev Stp := Kd × Nat
structure Sys where
  N : Nat
  n : Nat
  lo : Nat → Nat
  hi : Nat → Nat
  wt : Nat → Int
  ord : ∀ k, k < n → lo k < hi k ∧ hi k < N
  pos : ∀ k, k < n → 0 ≤ wt k
section
variable {S : Sys} {tk : Nat → Bool} {id : Nat → Int} {π far : Nat → Int} {st : Nat → Option (Nat × Stp)} {u v : Nat} {g : Int} {s : Stp}
def par (st : Nat → Option (Nat × Stp)) (x : Nat) : Nat := if x = 0 then 0 else match st x with
  | some (u, _) => u
  | none => x
end
/-! ### a lane taken; what the heights then show -/
def sm {α : Type} (l : List α) (f : α → Int) : Int := (l.map f).sum
section
variable {S : Sys} {tk : Nat → Bool} {id : Nat → Int} {π far : Nat → Int} {st : Nat → Option (Nat × Stp)} {u v : Nat} {g q : Int} {s : Stp} {rk : Nat → Nat}
/-! what the heights show -/
def pr (far : Nat → Int) (c : Nat) : Int := far (c + 1) - far c
end
/-! ### an instance of Lanes in its cell -/
/-! the same, plainly: what is known is told by what was known -/
abbrev Sst := Bool × List Int × List (Option (Nat × Stp))
abbrev Edg := Nat × Nat × Int × Stp
def ldS (x : Sst) (y : Edg) : Sst := if x.2.1.getD y.1 0 + y.2.2.1 ≤ x.2.1.getD y.2.1 0 then x else (true, x.2.1.set y.2.1 (x.2.1.getD y.1 0 + y.2.2.1), x.2.2.set y.2.1 (some (y.1, y.2.2.2)))
def idE (id : List Int) (i : Nat) : List Edg := (i, i + 1, 0, (.idle, i)) :: if id.getD i 0 > 0 then [(i + 1, i, 0, (.back, i))] else []
def idA (id : List Int) (n : Nat) : List Edg := (List.range n).flatMap (idE id)
def arE (S : Sys) (tk : List Bool) (n : Nat) : Edg := if tk.getD n false = true then (S.hi n, S.lo n, - S.wt n, (.off, n)) else (S.lo n, S.hi n, S.wt n, (.on, n))
def arA (S : Sys) (tk : List Bool) (n : Nat) : List Edg := (List.range n).map (arE S tk)
def allP (S : Sys) (tk : List Bool) (id fr : List Int) (sp : List (Option (Nat × Stp))) : Sst := (idA id id.length ++ arA S tk S.n).foldl ldS (false, fr, sp)
/-! ### the lanes of a list of spans with weights -/
def sp0 (n : Nat) : List (Option (Nat × Stp)) := none :: (List.range n).map fun i => some (i, (.idle, i))
/-- looking, plainly -/
inductive LookR (S : Sys) (tk : List Bool) (id : List Int) : List Int → List (Option (Nat × Stp)) → List Int → List (Option (Nat × Stp)) → Prop
  | stop {fr sp fr' sp'} : (false, fr', sp') = allP S tk id fr sp → LookR S tk id fr sp fr' sp'
  | more {fr sp fr1 sp1 fr' sp'} : (true, fr1, sp1) = allP S tk id fr sp → LookR S tk id fr1 sp1 fr' sp' → LookR S tk id fr sp fr' sp'
def Look (S : Sys) (tk : List Bool) (id fr : List Int) (sp : List (Option (Nat × Stp))) : Prop := LookR S tk id (List.replicate S.N 0) (sp0 id.length) fr sp
/-- taking, plainly -/
def aT (tk : List Bool) (s : Stp) : List Bool := match s with
  | (.on, k) => tk.set k true
  | (.off, k) => tk.set k false
  | _ => tk
def aI (id : List Int) (s : Stp) : List Int := match s with
  | (.idle, a) => id.set a (id.getD a 0 + 1)
  | (.back, a) => id.set a (id.getD a 0 - 1)
  | _ => id
inductive TakeR (sp : List (Option (Nat × Stp))) : Nat → List Bool → List Int → List Bool → List Int → Prop
  | stop {tk id} : TakeR sp 0 tk id tk id
  | step {v u s tk id tk' id'} : 0 < v → sp.getD v none = some (u, s) → TakeR sp u (aT tk s) (aI id s) tk' id' → TakeR sp v tk id tk' id'
/-! ### cheapest covers: costs up to each stop -/
abbrev CF := Int → Int × Nat
def putF (F : CF) (x : Int) (v : Int × Nat) : CF := fun y => if y = x then v else F y
/-! rents -/
section
variable {s : Sp2} {L : List (Sp2 × Int)} {F : CF} {t : List Int}
def back (F : CF) (L : List (Sp2 × Int)) (lo at' : Int) : List Nat :=
  if h : lo < at' ∧ max lo (L.getD (F at').2 ((0, 0), 0)).1.1 < at' then (F at').2 :: back F L lo (max lo (L.getD (F at').2 ((0, 0), 0)).1.1) else []
termination_by (at' - lo).toNat
decreasing_by omega
end
theorem f0 {x : D} : putFD "ends" x [] = ([("ends", x)] : List (Str × D)) := rfl
theorem f1 {a x : D} : putFD "arcs" x [("ends", a)] = ([("ends", a), ("arcs", x)] : List (Str × D)) := rfl
theorem f2 {a b x : D} : putFD "taken" x [("ends", a), ("arcs", b)] = ([("ends", a), ("arcs", b), ("taken", x)] : List (Str × D)) := rfl
theorem f3 {a b c x : D} : putFD "idle" x [("ends", a), ("arcs", b), ("taken", c)] = ([("ends", a), ("arcs", b), ("taken", c), ("idle", x)] : List (Str × D)) := rfl
theorem f4 {a b c d x : D} : putFD "far" x [("ends", a), ("arcs", b), ("taken", c), ("idle", d)] = ([("ends", a), ("arcs", b), ("taken", c), ("idle", d), ("far", x)] : List (Str × D)) := rfl
theorem f5 {a b c d e x : D} : putFD "steps" x [("ends", a), ("arcs", b), ("taken", c), ("idle", d), ("far", e)] = ([("ends", a), ("arcs", b), ("taken", c), ("idle", d), ("far", e), ("steps", x)] : List (Str × D)) := rfl
theorem g1 {a b : D} : lkF "arcs" [("ends", a), ("arcs", b)] = some b := rfl
theorem g0 {a b : D} : lkF "ends" [("ends", a), ("arcs", b)] = some a := rfl
theorem g2 {a b c : D} : lkF "ends" [("ends", a), ("arcs", b), ("taken", c)] = some a := rfl
/-! ### the heaviest choice, plainly -/
def goB (S : Sys) (k q : Int) (fr : List Int) : Prop := q < k ∧ 0 < S.n ∧ fr.getD (S.N - 1) 0 > 0
inductive HvR (S : Sys) (k : Int) : Int → List Bool → List Int → List Int → List (Option (Nat × Stp)) → Int → List Bool → List Int → Prop
  | stop {q tk id fr sp} : ¬ goB S k q fr → HvR S k q tk id fr sp q tk fr
  | step {q tk id fr sp tk1 id1 fr1 sp1 q' tk' fr'} : goB S k q fr → TakeR sp (S.N - 1) tk id tk1 id1 → Look S tk1 id1 fr1 sp1 → HvR S k (q + 1) tk1 id1 fr1 sp1 q' tk' fr' → HvR S k q tk id fr sp q' tk' fr'
/-! ### what the heaviest choice is like -/
/-! ### the heaviest choice is the same at every time -/
/-! sorted(set(xs)) of texts -/
section
open PySem PySem.Spec PyProof.Rows L2
def skOf (e : Int × Value) : Str := match e.2 with | .str x _ => x | _ => ""
def GoodS (w : World) (e : Int × Value) : Prop := ∃ x tk, e.2 = Value.str x tk ∧ e.1 = hashStr w x
theorem nd_le {α : Type} [DecidableEq α] : ∀ {l k : List α}, l.Nodup → (∀ x ∈ l, x ∈ k) → l.length ≤ k.length
  | [], _, _, _ => Nat.zero_le _
  | x :: l, k, h, hs => by
    obtain ⟨h1, h2⟩ := List.nodup_cons.mp h
    have hx : x ∈ k := hs x List.mem_cons_self
    have := nd_le (k := k.erase x) h2 fun y hy => (List.mem_erase_of_ne (fun e => h1 (by rw [← e]; exact hy))).mpr (hs y (List.mem_cons_of_mem _ hy))
    rw [List.length_erase_of_mem hx] at this
    have := List.length_pos_of_mem hx
    rw [List.length_cons]
    omega
/-- the set of texts at a: S its members, n their number; its table rises and can be walked -/
def SetS (w : World) (h : Heap) (a : Addr) (S : Str → Bool) (n : Nat) : Prop :=
  ∃ o es ep t, h.get? a = some o ∧ o.ExactSet ∧ o.data = .set es ep t ∧ (∀ e ∈ es.toList, GoodS w e) ∧ (es.toList.map skOf).Nodup ∧ (∀ k, S k = true ↔ k ∈ es.toList.map skOf) ∧
    es.size < scanBound ∧ t.fits es.size = true ∧ es.size = n ∧ Ris t.place.toList ∧ (w.params.followText "set-order" = true ∨ t.led = true)
section
variable {P : Program} {w : World} {h h' : Heap} {a : Addr} {S : Str → Bool} {n : Nat}
theorem SetS.keep (R : SetS w h a S n) (k : ∀ o, h.get? a = some o → h'.get? a = some o) : SetS w h' a S n := by
  obtain ⟨o, es, ep, t, ho, r⟩ := R
  exact ⟨o, es, ep, t, k o ho, r⟩
theorem SetS.same {S' : Str → Bool} (R : SetS w h a S n) (e : ∀ k, S' k = S k) : SetS w h a S' n := by
  have q : S' = S := funext e
  rw [q]; exact R
theorem goodS_elems {l : List (Int × Value)} (g : ∀ e ∈ l, GoodS w e) : ElemsOf (mixKind P w) l := fun e he => by
  obtain ⟨k, tk, h1, h2⟩ := g e he
  exact ⟨⟨.inr k, by rw [h1]; exact keyIs_str k tk, h2⟩, by rw [h1] <;> rfl⟩
theorem goodS_is {e : Int × Value} (g : GoodS w e) (k : Str) : (mixKind P w).is (.inr k) e.2 = true ↔ skOf e = k := by
  obtain ⟨k0, tk, h1, _⟩ := g
  unfold skOf
  rw [h1]
  constructor
  · intro h
    rcases keyIs_shape (k := .inr k) (v := .str k0 tk) h with ⟨i, t, e, _⟩ | ⟨x, t, e, e2⟩
    · cases e
    · cases e; cases e2; rfl
  · intro h
    have h : k0 = k := h
    rw [h]
    exact keyIs_str k tk
theorem goodS_mem {l : List (Int × Value)} (g : ∀ e ∈ l, GoodS w e) (k : Str) : k ∈ l.map skOf ↔ ∃ e ∈ l, (mixKind P w).is (.inr k) e.2 = true := by
  rw [List.mem_map]
  exact ⟨fun ⟨e, he, q⟩ => ⟨e, he, (goodS_is (g e he) k).2 q⟩, fun ⟨e, he, q⟩ => ⟨e, he, (goodS_is (g e he) k).1 q⟩⟩
end
section
variable {P : Program} {w : World} {A : Around} {E : Value → Shared → Prop} {s : Shared} {a : Addr} {S : Str → Bool} {n : Nat}
theorem setS_tail {g : Bool → Sem Unit} (hg : ∀ (b : Bool) (s₁ : Shared) (Q' : Unit → Shared → Prop), Q' () s₁ → wpAny (model P w) A (g b) Q' E s₁)
    {o : Obj} {es : Array (Int × Value)} {ep : Nat} {t : SetTable} (ho : s.heap.get? a = some o) (hex : o.ExactSet) (hd : o.data = .set es ep t)
    {es1 : Array (Int × Value)} {t2 : SetTable} {S' : Str → Bool} (g1 : ∀ e ∈ es1.toList, GoodS w e) (nd1 : (es1.toList.map skOf).Nodup) (m1 : ∀ k, S' k = true ↔ k ∈ es1.toList.map skOf)
    (hb1 : es1.size < scanBound) (hf2 : t2.fits es1.size = true) (hr : Ris t2.place.toList) (hl : w.params.followText "set-order" = true ∨ t2.led = true) {wasDummy : Bool} {R : Option Bool → Shared → Prop}
    (hR : ∀ h', Heap.SameBut a s.heap h' → SetS w h' a S' es1.size → R (some true) { s with heap := h' }) :
    wpAny (model P w) A (do
        storeSet a es1 t2
        if (!wasDummy && t2.tooFull) = true then do
            g (relayAll t2 es1 (SetTable.grown es1.size)).2.2
            storeSet a (relayAll t2 es1 (SetTable.grown es1.size)).1 (relayAll t2 es1 (SetTable.grown es1.size)).2.1
            pure (some true)
          else pure (some true)) R E s := by
  refine wpAny_bind (wpAny_storeSet_of ho hd ?_ (fits_of_scanBound hb1))
  have ho1 := store_at (es' := es1) (t' := t2) ho hd
  have sb1 := Heap.SameBut.update s.heap a (Obj.putSet es1 t2)
  split
  · have pm := relayAll_perm t2 es1 (SetTable.grown es1.size)
    have hf3 := relayAll_fits t2 es1 (SetTable.grown es1.size)
    have hr3 := relayAll_ris t2 es1 (SetTable.grown es1.size)
    have hl3 := relayAll_led t2 es1 (SetTable.grown es1.size)
    generalize relayAll t2 es1 (SetTable.grown es1.size) = Z at pm hf3 hr3 hl3 ⊢
    obtain ⟨es2, t3, gave⟩ := Z
    dsimp only at pm hf3 hr3 hl3 ⊢
    have hsz : es2.size = es1.size := by rw [← Array.length_toList, pm.length_eq, Array.length_toList]
    have hb2 : es2.size < scanBound := by rw [hsz]; exact hb1
    refine wpAny_bind (hg _ _ _ ?_)
    refine wpAny_bind (wpAny_storeSet_of ho1 rfl ?_ (fits_of_scanBound hb2))
    have ho2 := store_at (es' := es2) (t' := t3) ho1 rfl
    refine wpAny_pure (hR _ (sb1.trans (Heap.SameBut.update _ a _)) ?_)
    exact ⟨_, es2, _, t3, ho2, hex, rfl, fun e he => g1 e (pm.mem_iff.mp he), (pm.map skOf).nodup_iff.mpr nd1, fun k => (m1 k).trans (pm.map skOf).mem_iff.symm, hb2, hf3, hsz, hr3,
      hl.imp id fun z => by rw [hl3]; exact z⟩
  · exact wpAny_pure (hR _ sb1 ⟨_, es1, _, t2, ho1, hex, rfl, g1, nd1, m1, hb1, hf2, rfl, hr, hl⟩)
theorem setS_add {k : Str} {tk : Tok} {Q : Bool → Shared → Prop} (R : SetS w s.heap a S n) (room : n + 1 < scanBound)
    (hQ : ∀ h', Heap.SameBut a s.heap h' → SetS w h' a (fun j => S j || decide (j = k)) (if S k = true then n else n + 1) → Q (!S k) { s with heap := h' }) :
    wpAny (model P w) A (setAddHashed a (.str k tk) ((mixKind P w).hash (.inr k))) Q E s := by
  obtain ⟨o, es, ep, t, ho, hex, hd, g, nd, hm, hb, hf, hn, hr, hl⟩ := R
  have hkey : (mixKind P w).is (.inr k) (.str k tk) = true := keyIs_str k tk
  have hsc : (Value.str k tk).scannable = true := rfl
  have hel : ElemsOf (mixKind P w) es.toList := goodS_elems g
  unfold setAddHashed setAddHashedIn
  refine wpAny_holding (wpAny_bind (wpAny_setState_of ho hd hf ?_))
  dsimp only
  rw [byScan_of hsc hb hel]
  simp only [↓reduceIte]
  unfold setAddByScan
  refine wpAny_bind ?_
  refine wpAny_bind (wpAny_rule ?_)
  refine wpAny_bind (wpAny_setScan_of hkey ho hd hf hel ?_)
  cases hfi : List.findIdx? (fun e => (mixKind P w).is (.inr k) e.2) es.toList with
  | some j =>
    dsimp only
    obtain ⟨hj, pj, _⟩ := List.findIdx?_eq_some_iff_getElem.mp hfi
    have hSk : S k = true := (hm k).2 ((goodS_mem (P := P) (w := w) g k).2 ⟨es.toList[j], List.getElem_mem hj, pj⟩)
    refine wpAny_pure (wpAny_pure ?_)
    have q := hQ s.heap (Heap.SameBut.refl a s.heap) ⟨o, es, ep, t, ho, hex, hd, g, nd, fun i => by
      rw [Bool.or_eq_true, decide_eq_true_eq, ← hm i]
      exact ⟨fun z => z.elim id (fun e => e ▸ hSk), .inl⟩, hb, hf, by rw [if_pos hSk]; exact hn, hr, hl⟩
    rw [hSk] at q
    exact q
  | none =>
    dsimp only
    have hnk : k ∉ es.toList.map skOf := fun z => by
      obtain ⟨e, he, q⟩ := (goodS_mem (P := P) (w := w) g k).1 z
      have c := List.findIdx?_eq_none_iff.mp hfi e he
      rw [q] at c
      cases c
    have hSk : S k = false := by
      cases q : S k with
      | false => rfl
      | true => exact absurd ((hm k).1 q) hnk
    have hgw : ∀ (b : Bool) {s₁ : Shared} {Q' : Unit → Shared → Prop}, Q' () s₁ → wpAny (model P w) A (match b with | true => rule "set.scan.the-table-gave-way" | false => pure ()) Q' E s₁ :=
      fun b s₁ Q' q => by cases b <;> first | exact wpAny_pure q | exact wpAny_rule q
    have pm := layNew_perm t es ((mixKind P w).hash (.inr k)) (.str k tk)
    have hf1 := layNew_fits t es ((mixKind P w).hash (.inr k)) (.str k tk)
    have hr1 := layNew_ris t es ((mixKind P w).hash (.inr k)) (.str k tk) hr
    have hl1 := layNew_led t es ((mixKind P w).hash (.inr k)) (.str k tk)
    generalize layNew t es ((mixKind P w).hash (.inr k)) (.str k tk) = Z at pm hf1 hr1 hl1 ⊢
    obtain ⟨es1, t1, wasDummy, gave⟩ := Z
    dsimp only at pm hf1 hr1 hl1 ⊢
    rw [Array.toList_push] at pm
    have pc : es1.toList.Perm (((mixKind P w).hash (.inr k), Value.str k tk) :: es.toList) := pm.trans (List.perm_append_singleton _ _)
    have pk : (es1.toList.map skOf).Perm (k :: es.toList.map skOf) := pc.map skOf
    have g1 : ∀ e ∈ es1.toList, GoodS w e := fun e he => by
      rcases List.mem_cons.mp (pc.mem_iff.mp he) with z | z
      · rw [z]; exact ⟨k, tk, rfl, rfl⟩
      · exact g e z
    have nd1 : (es1.toList.map skOf).Nodup := pk.nodup_iff.mpr (List.nodup_cons.mpr ⟨hnk, nd⟩)
    have m1 : ∀ i, (S i || decide (i = k)) = true ↔ i ∈ es1.toList.map skOf := fun i => by
      rw [Bool.or_eq_true, decide_eq_true_eq, hm i, pk.mem_iff, List.mem_cons]
      exact Or.comm
    have hsz : es1.size = n + 1 := by rw [← Array.length_toList, pc.length_eq, List.length_cons, Array.length_toList, hn]
    have hb1 : es1.size < scanBound := by rw [hsz]; exact room
    have hled : w.params.followText "set-order" = true ∨ t1.led = true := hl.imp id fun z => by rw [hl1]; exact z
    have fin : ∀ h', Heap.SameBut a s.heap h' → SetS w h' a (fun j => S j || decide (j = k)) es1.size → Q true { s with heap := h' } := fun h' sb r => by
      have q := hQ h' sb
      rw [hSk] at q
      rw [hsz] at r
      exact q r
    refine wpAny_bind (hgw _ ?_)
    split
    · refine wpAny_bind ?_
      rw [hashByValue_scannable 8 hsc]
      refine wpAny_pure ?_
      refine setS_tail ?_ ho hex hd g1 nd1 m1 hb1 ?_ ?_ ?_ ?_
      · intro b s₁ Q' q; cases b <;> first | exact wpAny_pure q | exact wpAny_rule q
      · first | (split <;> first | exact hf1 | exact SetTable.fits_plain_off hf1) | exact hf1
      · first | (split <;> exact hr1) | exact hr1
      · first | (split <;> exact hled) | exact hled
      · intro h' sb r; dsimp only; exact wpAny_pure (fin h' sb r)
    · refine wpAny_bind (wpAny_pure ?_)
      simp only [↓reduceIte]
      refine setS_tail ?_ ho hex hd g1 nd1 m1 hb1 hf1 hr1 hled ?_
      · intro b s₁ Q' q; cases b <;> first | exact wpAny_pure q | exact wpAny_rule q
      · intro h' sb r; dsimp only; exact wpAny_pure (fin h' sb r)
theorem setS_new {h : Heap} {a : Addr} {ns : List Str} (ho : h.get? a = some { cls := .type "set", dict := none, data := .set #[] 0 (.fresh 0 0 (!w.params.followText "set-order")) }) : SetS w h a (fun j => decide (j ∈ ns.take 0)) 0 :=
  ⟨_, #[], 0, _, ho, ⟨rfl, rfl, rfl⟩, rfl, (fun e he => by simp at he), (by simp), (fun k => by simp), (by decide), (by rfl), rfl, List.Pairwise.nil, by
    show _ ∨ (!w.params.followText "set-order") = true
    cases w.params.followText "set-order"
    · exact .inr rfl
    · exact .inl rfl⟩
theorem setS_loop {I : Addr} {fp wr : List Addr} {G : Array GenState → Array GenState → Prop} {n : Nat} {Pv : Nat → Value → Prop} {St : Nat → Shared → Prop} {R : Result → Shared → Prop}
    (W : WalksS P w A.in1 I fp wr G n Pv St) (S : Addr) (hSf : S ∉ fp) (ns : List Str) (hn : n = ns.length) (hb : ns.length + 1 < scanBound) (hval : ∀ i v, Pv i v → ∃ k t, ns[i]? = some k ∧ v = .str k t) :
    ∀ (k i : Nat) (s : Shared), n - i = k → i ≤ n → St i s → (∃ c, c ≤ i ∧ SetS w s.heap S (fun j => decide (j ∈ ns.take i)) c) →
      (∀ s' c, Moved (S :: wr) G s s' → c ≤ n → SetS w s'.heap S (fun j => decide (j ∈ ns)) c → R (.ok (.ret .none)) s') →
      codeAny (model P w) A (.builtin "set.update.loop" ⟨[.ref S, .ref I], []⟩) R s := by
  have hSw : S ∉ wr := fun h => hSf (W.sub _ h)
  have hsub : ∀ b ∈ wr, b ∈ S :: wr := fun b hb => List.mem_cons_of_mem _ hb
  intro k
  induction k with
  | zero =>
    intro i s hk' hi hst ⟨c, hc, hS⟩ hR
    have hin : i = n := by omega
    subst hin
    refine codeAny_builtin F.entry_set_update_loop ?_
    rw [Around.under_plainId F.plain_set_update_loop _]
    show wpAny _ A.in1 (pyNext (.ref I) >>= _) _ _ s
    refine wpAny_bind (W.done s _ _ hst fun s' hm => ?_)
    show wpAny _ A.in1 (PySem.ret Value.none) _ _ s'
    have e : ns.take i = ns := List.take_of_length_le (by omega)
    rw [e] at hS
    exact wpAny_pure (hR s' c (hm.mono hsub) hc (hS.keep fun o e => hm.heap S o hSw e))
  | succ k ih =>
    intro i s hk' hi hst ⟨c, hc, hS⟩ hR
    have hlt : i < n := by omega
    refine codeAny_builtin F.entry_set_update_loop ?_
    rw [Around.under_plainId F.plain_set_update_loop _]
    show wpAny _ A.in1 (pyNext (.ref I) >>= _) _ _ s
    refine wpAny_bind (W.item i s _ _ hlt hst fun v s' hP hst' hm => ?_)
    obtain ⟨z, t, hz, rfl⟩ := hval i v hP
    have hS' : SetS w s'.heap S (fun j => decide (j ∈ ns.take i)) c := hS.keep fun o e => hm.heap S o hSw e
    show wpAny _ A.in1 (holding [Value.str z t] (setAdd S (.str z t)) >>= _) _ _ s'
    refine wpAny_bind (wpAny_holding ?_)
    unfold setAdd
    refine wpAny_holding ?_
    refine wpAny_bind ((mixKind P w).pyHash (k := .inr z) (v := .str z t) (keyIs_str z t) ?_)
    refine setS_add (s := { s' with toks := s'.toks + 1 }) hS' (by omega) fun h' hsb hS2 => ?_
    have hS3 : SetS w h' S (fun j => decide (j ∈ ns.take (i + 1))) (if decide (z ∈ ns.take i) = true then c else c + 1) := hS2.same fun j => by
      rw [List.take_add_one, hz]
      simp [List.mem_append]
    have hc3 : (if decide (z ∈ ns.take i) = true then c else c + 1) ≤ i + 1 := by
      split <;> omega
    refine wpAny_pure ⟨plainId_quiet F.plain_set_update_loop _, ih (i + 1) _ (by omega) hlt (W.frame _ s' _ _ hst' (Nat.le_succ _) fun b hb o e => ?_) ⟨_, hc3, hS3⟩ fun s'' c2 hm'' hc'' hS'' => ?_⟩
    · rw [hsb.2 b (fun h : b = S => hSf (by rw [← h]; exact hb))]; exact e
    · refine hR s'' c2 (Moved.trans W.gtrans ((hm.mono hsub).then_heap (Nat.le_succ _) fun b o hb e => ?_) hm'') hc'' hS''
      rw [hsb.2 b (fun h : b = S => hb (by rw [h]; exact List.mem_cons_self))]; exact e
theorem strs_get : ∀ {vs : List Value} {ss : List Str}, StrsAre vs ss → ∀ (i : Nat) (v : Value), vs[i]? = some v → ∃ (k : Str) (t : Tok), ss[i]? = some k ∧ v = .str k t
  | _, _, .nil, i, v, h => by simp at h
  | _, _, .cons x t r, 0, v, h => by
    have : Value.str x t = v := by simpa using h
    exact ⟨x, t, rfl, this.symm⟩
  | _, _, .cons x t r, i + 1, v, h => by
    obtain ⟨k, u, a, b⟩ := strs_get r i v (by simpa using h)
    exact ⟨k, u, by simpa using a, b⟩
set_option maxHeartbeats 4000000 in
theorem setS_of_list {l : Addr} {its : Array Value} (ns : List Str) {Q : Value → Shared → Prop} (hA : A.handled = none) (hL : s.heap.IsList l its) (hI : StrsAre its.toList ns) (hB : ns.length + 1 < scanBound)
    (hQ : ∀ (g : Heap) (tk c : Nat), SetS w g s.heap.objs.size (fun j => decide (j ∈ ns)) c → (∀ b o, s.heap.get? b = some o → g.get? b = some o) → Q (.ref s.heap.objs.size) { s with heap := g, toks := tk }) :
    wpAny (model P w) A (call (.type "set") [.ref l]) Q E s := by
  have hn : its.size = ns.length := by
    have z := StrsAre.length hI
    rw [Array.length_toList] at z
    omega
  obtain ⟨cc, tt, hmro⟩ := F.called_set.mro
  have hmade := F.called_set.made
  have hsub := F.called_set.sub
  refine wpAny_call (codeAny_of_tree ?_)
  show wpAny _ _ (callAny (.type "set") _) _ _ _
  refine wpAny_pure ⟨Code.quiet_builtin _ (by decide +kernel), codeAny_builtin F.entry_type_call ?_⟩
  rw [Around.under_plain (weight_type_call_type "set" [.ref l] []) rfl]
  have f1 := F.called_set.notType
  have f2 := F.called_set.canCreate
  have f3 := F.typeCall_set_1 (.ref l)
  repeat (any_goals (first | assumption | wp_step))
  refine codeAny_mono (code_set_led1 (.ref l) (E := E) (Q₁ := fun z s₁ => z = .ref s.heap.objs.size ∧ s₁ = { s with heap := s.heap.push (newSet w) }) ⟨rfl, rfl⟩) fun z s₁ hz => ?_
  cases z with
  | error e => exact hz
  | ok fl =>
    cases fl with
    | ret z =>
      obtain ⟨rfl, rfl⟩ := hz
      have g0 : (s.heap.push (newSet w)).get? s.heap.objs.size = some (newSet w) := Heap.get?_push_size _ rfl
      have t0 : Shared.TypeIs { s with heap := s.heap.push (newSet w) } (.ref s.heap.objs.size) "set" := ⟨_, g0, rfl⟩
      have f4 := F.called_set.init.lookup
      have f5 := F.called_set.init.bind (.ref s.heap.objs.size)
      repeat (any_goals (first | assumption | wp_step))
      refine codeAny_mono (codeAny_call_builtin (R := wants (fun z s₂ => z = .none ∧ ∃ g tk c, s₂ = { s with heap := g, toks := tk } ∧ SetS w g s.heap.objs.size (fun j => decide (j ∈ ns)) c ∧
          (∀ b o, s.heap.get? b = some o → g.get? b = some o)) E) F.called_set.init.plain F.entry_set_init (check_set_init_1 t0 ?_)) fun y s₂ hy => ?_
      · obtain ⟨⟨oc, od, oda, osl⟩, ho, hc, nl, hd⟩ := hL
        simp only at hc hd
        subst hc hd
        have ho2 : (s.heap.push (newSet w)).get? l = some { cls := .type "list", dict := od, data := .seq its nl, slots := osl } := Heap.get?_push_of_some _ ho
        have k1 := F.sub_list_set
        have k2 := F.sub_list_frozenset
        have k3 : (Value.type "list" == Value.type "dict") = false := by decide
        have hL2 : (s.heap.push (newSet w)).IsList l its := ⟨_, ho2, rfl, nl, rfl⟩
        unfold Builtin.«set.__init__» noKeywords Builtin.Frozenset.updateFrom
        generalize hPI : pyIter = PI
        wp_walk
        subst hPI
        refine wpAny_pyIter_list hL2 ?_
        refine wpAny_bind (wpAny_runValue ?_)
        have lS : l < s.heap.objs.size := Heap.lt_size ho
        have h3 : A.in1.in1.in1.handled = none := by simp [hA]
        have neI : l ≠ (s.heap.push (newSet w)).objs.size := by
          rw [Heap.size_push]; exact Nat.ne_of_lt (Nat.lt_succ_of_lt lS)
        have notF : s.heap.objs.size ∉ [(s.heap.push (newSet w)).objs.size, l] := by
          rw [Heap.size_push]
          intro hm
          rcases List.mem_cons.mp hm with z | z
          · exact absurd z (Nat.ne_of_lt (Nat.lt_succ_self _))
          · exact absurd (List.mem_singleton.mp z) (Nat.ne_of_gt lS)
        have hv : ∀ (i : Nat) (v : Value), its[i]? = some v → ∃ k t, ns[i]? = some k ∧ v = .str k t := fun i v e => strs_get hI i v (by rw [Array.getElem?_toList]; exact e)
        refine setS_loop ((Walks.list h3 _ l neI its).toS) s.heap.objs.size notF ns hn hB hv (its.size - 0) 0 _ (by omega) (Nat.zero_le _) ⟨⟨_, Heap.get?_push_size _ rfl, rfl, rfl⟩, (hL2.push _)⟩ ?start ?fin
        case start =>
          refine ⟨0, Nat.le_refl 0, setS_new ?_⟩
          exact Heap.get?_push_of_some _ g0
        case fin =>
          intro s' c' hm _ hS'
          obtain ⟨g, gg, dd, tk', oo⟩ := s'
          have e1 : gg = s.gens := hm.gens
          have e2 : dd = s.drawn := hm.drawn
          have e3 : oo = s.os := hm.os
          subst e1 e2 e3
          show wpAny _ _ _ _ _ _
          refine wpAny_pure ?_
          show wpAny _ _ (PySem.ret Value.none) _ _ _
          refine wpAny_pure ⟨rfl, g, tk', c', rfl, hS', fun b o e => ?_⟩
          have hb0 : b < s.heap.objs.size := Heap.lt_size e
          refine hm.heap b o ?_ (Heap.get?_push_of_some _ (Heap.get?_push_of_some _ e))
          intro hm2
          rcases List.mem_cons.mp hm2 with z | z
          · exact absurd z (Nat.ne_of_lt hb0)
          · have z := List.mem_singleton.mp z
            rw [Heap.size_push] at z
            exact absurd z (Nat.ne_of_lt (Nat.lt_succ_of_lt hb0))
      · cases y with
        | error e => exact hy
        | ok fl₂ =>
          cases fl₂ with
          | ret z =>
            obtain ⟨rfl, g, tk, c', rfl, hS', hk'⟩ := hy
            repeat (any_goals (first | assumption | wp_step))
            exact hQ _ _ _ hS' hk'
          | _ => exact hy.elim
    | _ => exact hz.elim
theorem sortedS_of_set {a : Addr} {S : Str → Bool} {n : Nat} {Q : Value → Shared → Prop} (R : SetS w s.heap a S n) (hA : A.handled = none) (h64 : n < 64)
    (hQ : ∀ s' p (out : Array Value) (c : Nat) (ns : List Str), (∀ b o, s.heap.get? b = some o → s'.heap.get? b = some o) → s'.gens = s.gens → s'.os = s.os → s.heap.objs.size ≤ p →
      s'.heap.get? p = some (seqObj "list" out c) → StrsAre out.toList ns → sortedS ns = true → ns.Nodup → (∀ k, k ∈ ns ↔ S k = true) → ns.length ≤ sizeLine → Q (.ref p) s') :
    wpAny (model P w) A (call (.builtin "sorted") [.ref a]) Q E s := by
  obtain ⟨o, es, ep, t, h1, h2, h3, h4, h5, h6, h7, h8, h9, h10, h11⟩ := R
  refine Calls.call_function_entry kind_sorted plain_sorted entry_sorted (args_sorted1 _) ?_
  unfold Builtin.«sorted»
  refine wpAny_bind (m := checkCount "sorted" 1 1 _) (wpAny_pure ?_)
  refine wpAny_bind (collect_set (A := A.in1) hA ⟨o, h1, h2.1, h3⟩ h8 h7 h10 h11 fun s1 us k1 z1 g1 o1 pm => ?_)
  have ul : us.length = n := by
    rw [pm.length_eq, List.length_map, Array.length_toList]; exact h9
  have lz : us.length ≤ sizeLine := by rw [sizeLine_eq]; omega
  have ui : StrsAre us (us.map strOf) := strsAre_map us fun v hv => by
    obtain ⟨e, he, q⟩ := List.mem_map.mp (pm.mem_iff.mp hv)
    obtain ⟨k, tk, z, _⟩ := h4 e he
    exact ⟨k, tk, by rw [← q]; exact z⟩
  have pk : (us.map strOf).Perm (es.toList.map skOf) := by
    have q := pm.map strOf
    rw [List.map_map] at q
    refine q.trans (List.Perm.of_eq (List.map_congr_left fun e he => ?_))
    obtain ⟨k, tk, z, _⟩ := h4 e he
    show strOf e.2 = skOf e
    unfold skOf
    rw [z]; rfl
  refine wpAny_bind (wpAny_newList ?_ lz)
  have gL : (s1.heap.push (seqObj "list" us.toArray 0)).get? s1.heap.objs.size = some (seqObj "list" us.toArray 0) := Heap.get?_push_size _ rfl
  refine wpAny_bind (wpAny_holding (wpAny_call_entry slot_list_sort ⟨_, gL, rfl⟩ entry_list_sort (list_sort_treeK strKind_oneLt gL ui.keysOf (fun v₁ v₂ rest e => keyKind_strs (by rw [← e]; exact ui)) (by rw [ul]; exact h64) fun st' hp hs => ⟨_, rfl, ?_⟩) (args_list_sort _)))
  obtain ⟨ys, m1, m2, m3⟩ := sorted_out_str ui hp hs
  obtain ⟨c, hc⟩ := sortedHeap_at (vs := us) (out := (arrOf st').map (·.2)) gL
  have pn := m2.trans pk
  refine wpAny_pure ⟨_, rfl, hQ _ s1.heap.objs.size ((arrOf st').map (·.2)) c ys (fun b u e => ?_) g1 o1 z1 hc m1 m3 (pn.nodup_iff.mpr h5) (fun k => by rw [pn.mem_iff, ← h6 k]) ?_⟩
  · have q := k1 b u e
    have hlt := Heap.lt_size q
    show (sortedHeap (s1.heap.push (seqObj "list" us.toArray 0)) s1.heap.objs.size us ((arrOf st').map (·.2))).get? b = some u
    rw [sortedHeap_old (Nat.ne_of_lt hlt) (by rw [size_push']; exact Nat.lt_succ_of_lt hlt)]
    exact Heap.get?_push_of_some _ q
  · rw [m2.length_eq, List.length_map]; exact lz
end
def undupS : List Str → List Str
  | [] => []
  | x :: xs => if x ∈ xs then undupS xs else x :: undupS xs
theorem undupS_mem : ∀ {ns : List Str} {k : Str}, k ∈ undupS ns ↔ k ∈ ns
  | [], k => Iff.rfl
  | x :: xs, k => by
    unfold undupS
    split
    · rename_i h
      rw [undupS_mem]
      exact ⟨List.mem_cons_of_mem _, fun q => by
        rcases List.mem_cons.mp q with rfl | q
        · exact h
        · exact q⟩
    · rw [List.mem_cons, List.mem_cons, undupS_mem]
theorem undupS_nodup : ∀ ns : List Str, (undupS ns).Nodup
  | [] => .nil
  | x :: xs => by
    unfold undupS
    split
    · exact undupS_nodup xs
    · rename_i h
      exact List.nodup_cons.mpr ⟨fun q => h (undupS_mem.mp q), undupS_nodup xs⟩
/-- the texts, in order, none twice -/
def usortS (ns : List Str) : List Str := ssort (undupS ns)
theorem usortS_uniq {us ns : List Str} (h1 : sortedS us = true) (h2 : us.Nodup) (h3 : ∀ k, k ∈ us ↔ k ∈ ns) : us = usortS ns :=
  ssort_uniq ((List.perm_ext_iff_of_nodup h2 (undupS_nodup ns)).mpr fun k => by rw [h3, undupS_mem]) h1
def tSortSetS (K : PySem.W.Frag) (ta : TE) : TE := fun σ H Q => ta σ H fun x H1 => ∃ (l : Addr) (ns : List Str), x = V.ref l ∧ SqL K H1 l (ns.map V.str) ∧ ns.length < 63 ∧
  ∀ (us : List Str) (p : Addr), sortedS us = true → us.Nodup → (∀ k, k ∈ us ↔ k ∈ ns) → H1 p = none → Q (.ref p) (upd H1 p (.lst (us.map V.str)))
theorem pe_sortSetS {X : Cx} {a : Expr} {ta : TE} {p p2 q pos : Pos} (hg : Gl X "sorted") (hm : X.mg "sorted" = none) (hg2 : Gl X "set") (hm2 : X.mg "set" = none) (ha : PE X a ta) (hc : X.calm = true := by rfl)
    (na : starEach [a] X.env = (false, eval a X.env) :: starEach [] X.env := by rfl) : PE X (.Call (.Name "sorted" p) [.Call (.Name "set" p2) [a] [] q] [] pos) (tSortSetS X.K ta) := by
  refine ⟨fun pins s σ H Q I h => ?_⟩
  refine Call_ (ld_blt I hg hm bt_sorted ?_)
  refine PyProof.Rows.callWith_builtin1 (PyProof.Rows.args_cons ?_ rfl) rfl rfl
  refine Call_ (ld_blt I hg2 hm2 bt_set ?_)
  refine PyProof.Rows.callWith_type1 (PyProof.Rows.args_cons (thn (ha.run pins s σ H _ I h) fun v s1 ⟨x, H1, I1, r1, q1⟩ => PyProof.Rows.args_nil ?_) na) na rfl
  obtain ⟨l, ns, rfl, hq, hl, q1⟩ := q1
  cases r1
  obtain ⟨its, r, pl, hz⟩ := I1.list hq
  have hints := r.strs
  refine setS_of_list ns (I1.ok.hd hc) pl.isList (by simpa using hints) (by unfold scanBound; omega) fun g tk c hS hk => ?_
  refine PyProof.Rows.args_nil ?_
  have I2 : Inv X pins σ H1 { s1 with heap := g, toks := tk } := I1.kept fun b o e => hk b o e
  have hS' : SetS X.w ({ s1 with heap := g, toks := tk } : Shared).heap s1.heap.objs.size (fun j => decide (j ∈ ns)) c := hS
  have hc64 : c < 64 := by
    obtain ⟨o, es, ep, t, _, _, _, _, h5, h6, _, _, h9, _⟩ := hS
    have nd := h5
    have : (es.toList.map skOf).length ≤ ns.length := by
      have sub : ∀ k ∈ es.toList.map skOf, k ∈ ns := fun k hk => by simpa using (h6 k).mpr hk
      exact nd_le nd sub
    rw [List.length_map, Array.length_toList] at this
    omega
  generalize ({ s1 with heap := g, toks := tk } : Shared) = s2 at I2 hS' ⊢
  refine sortedS_of_set hS' (I2.ok.hd hc) hc64 fun s' p' out c' us k g o hp hg' hi hs hnd hm' hl' => ?_
  have hlen : (us.map V.str).length ≤ sizeLine := by rw [List.length_map]; exact hl'
  have hn : H1 p' = none := I2.hok.fresh hp
  have J : Inv X pins σ (upd H1 p' (.lst (us.map V.str))) { s2 with heap := s'.heap, gens := s'.gens, drawn := s'.drawn, toks := s'.toks } :=
    I2.call (ch := []) (Un.laid k hp hn) (I2.hok.laid k hp ⟨hlen, out.toList, c', vals_of_strs hi, hg'⟩) (by rw [g]; exact I2.bare) (fun _ z => nomatch z)
  have e : s' = { s2 with heap := s'.heap, gens := s'.gens, drawn := s'.drawn, toks := s'.toks } := by
    cases s'
    cases o
    rfl
  rw [e]
  exact ⟨.ref p', _, J, rfl, q1 us p' hs hnd (fun k => by rw [hm' k]; simp) hn⟩
def fSortSetS (a : ME) : MF := fun δ m => (a δ m).bind fun x m => (rdQ m x).bind fun ds => (toStrs ds).bind fun ns => if ns.length < 63 then DL.ret (FT.own ((usortS ns).map D.str)) m else none
theorem so_sortSetS {K : PySem.W.Frag} {W : WX} {ta : TE} {a : ME} (ha : So K W (RE K) ta a) : So K W (RF K) (tSortSetS K ta) (fSortSetS a) :=
  So.bind rf_mon ha (k := fun (x : D) δ m => (rdQ m x).bind fun ds => (toStrs ds).bind fun ns => if ns.length < 63 then DL.ret (FT.own ((usortS ns).map D.str)) m else none)
    (u := fun (x : V) σ H1 Q => ∃ (l : Addr) (ns : List Str), x = V.ref l ∧ SqL K H1 l (ns.map V.str) ∧ ns.length < 63 ∧
      ∀ (us : List Str) (p : Addr), sortedS us = true → us.Nodup → (∀ k, k ∈ us ↔ k ∈ ns) → H1 p = none → Q (.ref p) (upd H1 p (.lst (us.map V.str)))) fun x δ m res m' e v r F H σ _ hr er rv => by
    cases h0 : rdQ m x with
    | none => rw [h0] at e; cases e
    | some ds =>
      rw [h0] at e
      simp only [Option.bind_some] at e
      cases h1 : toStrs ds with
      | none => rw [h1] at e; cases e
      | some ns =>
        rw [h1] at e
        simp only [Option.bind_some] at e
        split at e
        · rename_i hl
          cases e
          cases toStrs_eq h1
          obtain ⟨p, vs, rfl, hs, ra⟩ := rdQ_get h0 hr rv
          cases repStrs ra
          refine fun Q q => ⟨p, ns, rfl, hs, hl, fun us p' z1 z2 z3 hp' => ?_⟩
          rw [usortS_uniq z1 z2 z3]
          obtain ⟨q1, q2, q3⟩ := rf_new hr hp' (repAllStr (usortS ns))
          exact q _ r F _ q1 q2 q3
        · cases e
end
/-! names by their numbers -/
section
variable {kv : Kv} {ch : List Int}
/-- a law's own dict of spans and weights -/
theorem dgetK {m : Store} {d : Nat} (h : cellR m (.cell d) = some (d, encV kv)) {x : Str} (hx : x ∈ kv.map (·.1)) : pDGet (.cell d) (.str x) m = ret (.tup [eS (spanV kv x), .int (wtV kv x)]) m := by
  rw [dgetV h (look_at hx)]
theorem sh_strs {n : Nat} {l : List Str} (h : ∀ x ∈ l, PyData.strOk x = true) : Sh (n + 1) (.lst (l.map D.str)) := fun d hd => by
  obtain ⟨x, hx, rfl⟩ := List.mem_map.mp hd
  exact sh_str (h x hx)
end
/-! ### a shelf as a text -/
theorem nl_tx : ("\n" : Str) = tx [10] := by decide +kernel
def rowL (kv : Kv) (x : Str) : List Nat := TL.joinL [32] [x.cps.toList, spanL (spanV kv x), numZ (wtV kv x)]
def shelfL (kv : Kv) : List Nat := TL.joinL [10] ((namesV kv).map (rowL kv))
section
variable {kv : Kv} {x : Str}
theorem join3 : Txt.join (" " : Str) [x, tx (spanL (spanV kv x)), tx (numZ (wtV kv x))] = tx (rowL kv x) := by
  refine TL.ext_tl ?_
  rw [TL.join_eq, TL.tl_join, sp_tx]
  rfl
theorem rowL_len (wf : Wf kv) (hx : x ∈ kv.map (·.1)) : (rowL kv x).length ≤ 52 := by
  have a := (wf.at hx).1
  have b := (wf.at hx).2.1
  have c := (wf.at hx).2.2
  have l1 := spanL_len a
  unfold isWt at b
  simp only [Bool.and_eq_true, decide_eq_true_eq] at b
  have l2 := numZ_len (i := wtV kv x) (by omega) (by omega)
  unfold isNm at c
  rw [Bool.and_eq_true, Bool.and_eq_true, decide_eq_true_eq, decide_eq_true_eq] at c
  have l3 : x.cps.toList.length ≤ 8 := by
    have : x.length = x.cps.toList.length := TL.len_tl x
    omega
  show (x.cps.toList ++ ([32] ++ (spanL (spanV kv x) ++ ([32] ++ numZ (wtV kv x))))).length ≤ 52
  simp only [List.length_append, List.length_cons, List.length_nil]
  omega
theorem joinN (kv : Kv) : Txt.join ("\n" : Str) ((namesV kv).map fun x => tx (rowL kv x)) = tx (shelfL kv) := by
  refine TL.ext_tl ?_
  rw [TL.join_eq, TL.tl_join, List.map_map, nl_tx]
  rfl
theorem joinM_len (s : Nat) : ∀ (ls : List (List Nat)) (k : Nat), (∀ l ∈ ls, l.length ≤ k) → (TL.joinL [s] ls).length ≤ ls.length * (k + 1)
  | [], _, _ => Nat.zero_le _
  | [a], k, h => by
    have := h a List.mem_cons_self
    show a.length ≤ 1 * (k + 1)
    omega
  | a :: b :: r, k, h => by
    have h1 := h a List.mem_cons_self
    have h2 := joinM_len s (b :: r) k fun l hl => h l (List.mem_cons_of_mem _ hl)
    show (a ++ ([s] ++ TL.joinL [s] (b :: r))).length ≤ _
    rw [List.length_append, List.length_append, List.length_cons]
    show a.length + (1 + _) ≤ _
    have e : (a :: b :: r).length * (k + 1) = (b :: r).length * (k + 1) + (k + 1) := by rw [List.length_cons, Nat.add_mul, Nat.one_mul]
    omega
theorem shelfL_len (wf : Wf kv) : (shelfL kv).length ≤ 3180 := by
  have := joinM_len 10 ((namesV kv).map (rowL kv)) 52 fun l hl => by
    obtain ⟨y, hy, rfl⟩ := List.mem_map.mp hl
    exact rowL_len wf (namesV_mem.mp hy)
  rw [List.length_map, namesV_len] at this
  have := wf.len
  show (TL.joinL [10] _).length ≤ _
  omega
theorem row_sum (wf : Wf kv) : ∀ l : List Str, (∀ x ∈ l, x ∈ kv.map (·.1)) → ((l.map fun x => tx (rowL kv x)).map (·.length)).sum ≤ l.length * 52
  | [], _ => by simp
  | x :: l, h => by
    have h1 := rowL_len wf (h x List.mem_cons_self)
    have h2 := row_sum wf l fun y hy => h y (List.mem_cons_of_mem _ hy)
    rw [List.map_cons, List.map_cons, List.sum_cons, tx_len, List.length_cons]
    omega
theorem three_sum (wf : Wf kv) (hx : x ∈ kv.map (·.1)) : ([x.length, (tx (spanL (spanV kv x))).length, (tx (numZ (wtV kv x))).length] : List Nat).sum + 3 * (" " : Str).length ≤ 16777216 := by
  have l := rowL_len wf hx
  have e : (x.cps.toList ++ ([32] ++ (spanL (spanV kv x) ++ ([32] ++ numZ (wtV kv x))))).length ≤ 52 := l
  simp only [List.length_append, List.length_cons, List.length_nil] at e
  have l1 : (" " : Str).length = 1 := by decide +kernel
  have l3 : x.length = x.cps.toList.length := TL.len_tl x
  rw [l1]
  simp only [List.map_cons, List.map_nil, List.sum_cons, List.sum_nil, tx_len]
  omega
theorem wt_12 (wf : Wf kv) (hx : x ∈ kv.map (·.1)) : 0 ≤ wtV kv x ∧ wtV kv x ≤ 1000000000 := by
  have b := (wf.at hx).2.1
  unfold isWt at b
  simpa using b
end
noncomputable def e_law_span_text : MS :=
  (sRet (eOp pAddS (eOp pAddS (eCB pStrI (aCons (eOp pIxT (eVar 0) (eC (.int 0))) aNil)) (eC (.str ".."))) (eCB pStrI (aCons (eOp pIxT (eVar 0) (eC (.int 1))) aNil))))
noncomputable def f_law_span_text : FnS := fnOf 1 1 e_law_span_text
theorem law_span_text_eq {s : Sp2} (h : isSpan s = true) (m : Store) : f_law_span_text [eS s] m = ret (.pl (.str (tx (spanL s)))) m := by
  have g := good_iff.mp h
  have g1 := g.1
  have g2 := g.2.1
  have g3 := g.2.2
  have a := numZ_len (i := s.1) (by omega) (by omega)
  have b := numZ_len (i := s.2) (by omega) (by omega)
  have e1 := addS_tx (a := numZ s.1) (b := [46, 46]) (by show _ + 2 ≤ _; omega) m
  have e2 := addS_tx (a := numZ s.1 ++ [46, 46]) (b := numZ s.2) (by rw [List.length_append]; show _ + 2 + _ ≤ _; omega) m
  have e3 : numZ s.1 ++ [46, 46] ++ numZ s.2 = spanL s := by rw [List.append_assoc]; rfl
  rw [e3] at e2
  unfold f_law_span_text e_law_span_text
  simp! only [eS, strI_tx (i := s.1) (by omega) (by omega), strI_tx (i := s.2) (by omega) (by omega), dd_tx, e1, e2]
noncomputable def e_law_shelf_text : MS :=
  (sSeq (sSet 2 (dat (fLc (wList (dat (fCB pSortD (aCons (eVar 0) aNil)))) (mName 1) mYes (eJoin (eC (.str " ")) (dat (fLst (aCons (eVar 1) (aCons (pla (fCall0 f_law_span_text (aCons (eOp pIxT (eOp pDGet (eVar 0) (eVar 1)) (eC (.int 0))) aNil))) (aCons (eCB pStrI (aCons (eOp pIxT (eOp pDGet (eVar 0) (eVar 1)) (eC (.int 1))) aNil)) aNil)))))) [1])))
    (sRet (eJoin (eC (.str "\n")) (eVar 2))))
noncomputable def f_law_shelf_text : FnS := fnOf 1 3 e_law_shelf_text
theorem law_shelf_text_eq {m : Store} {d : Nat} {kv : Kv} (hd : m[d]? = some (.dK (encV kv))) (wf : Wf kv) : f_law_shelf_text [.cell d] m = ret (.pl (.str (tx (shelfL kv)))) m := by
  have hl' : (kv.map (·.1)).length < 64 := by rw [List.length_map]; have := wf.len; omega
  have hk64 : kv.length < 64 := by have := wf.len; omega
  have nv : ssort (kv.map (·.1)) = namesV kv := rfl
  have n1 : (namesV kv).length < 100000 := by rw [namesV_len]; have := wf.len; omega
  have n60 : (namesV kv).length ≤ 60 := by rw [namesV_len]; exact wf.len
  have dc := cellR_sh hd
  have l1 : lcM (mName 1) mYes (eJoin (eC (.str " ")) (dat (fLst (aCons (eVar 1) (aCons (pla (fCall0 f_law_span_text (aCons (eOp pIxT (eOp pDGet (eVar 0) (eVar 1)) (eC (.int 0))) aNil))) (aCons (eCB pStrI (aCons (eOp pIxT (eOp pDGet (eVar 0) (eVar 1)) (eC (.int 1))) aNil)) aNil)))))) (Wk.mk ((namesV kv).map D.str) []).chk [some (.cell d), none, none] ((namesV kv).map D.str) m = ret (((namesV kv).map fun x => tx (rowL kv x)).map D.str) m := by
    rw [List.map_map]
    exact lcM_map chk_nil D.str _ (namesV kv) fun x hx => ⟨[some (.cell d), some (.str x), none], rfl, by
      have xm := namesV_mem.mp hx
      have dg := dgetK dc xm
      have st := law_span_text_eq (wf.at xm).1 m
      have w12 := wt_12 wf xm
      have si := strI_tx (i := wtV kv x) (by omega) (by omega) m
      have t3 : toStrs [.str x, .str (tx (spanL (spanV kv x))), .str (tx (numZ (wtV kv x)))] = some [x, tx (spanL (spanV kv x)), tx (numZ (wtV kv x))] := rfl
      have s3 := three_sum wf xm
      simp! only [eJoin, dg, st, si, t3, join3]
      rw [if_pos s3]
      rfl⟩
  have rs := row_sum wf (namesV kv) fun x hx => namesV_mem.mp hx
  have ll : ("\n" : Str).length = 1 := by decide +kernel
  have sm : ((((namesV kv).map fun x => tx (rowL kv x)).map (·.length)).sum + ((namesV kv).map fun x => tx (rowL kv x)).length * ("\n" : Str).length) ≤ 16777216 := by
    rw [ll, List.length_map]
    omega
  apply eq_of_wp
  unfold f_law_shelf_text e_law_shelf_text
  refine wp_fnI rfl ?_
  refine ws_step (δ' := [some (.cell d), none, some (.lst (((namesV kv).map fun x => tx (rowL kv x)).map D.str))]) (m' := m) ?_ ?_
  · have ks : keysS (encV kv) = some (kv.map (·.1)) := keysS_enc kv
    generalize eJoin (eC (.str " ")) (dat (fLst (aCons (eVar 1) (aCons (pla (fCall0 f_law_span_text (aCons (eOp pIxT (eOp pDGet (eVar 0) (eVar 1)) (eC (.int 0))) aNil))) (aCons (eCB pStrI (aCons (eOp pIxT (eOp pDGet (eVar 0) (eVar 1)) (eC (.int 1))) aNil)) aNil))))) = J at l1 ⊢
    simp! only [pSortD, dc, ks, List.length_map, hk64, nv, srcOf_lst, List.length_map, n1, wipeE, l1]
  refine ws_last (o := .rt (.str (tx (shelfL kv))) m) ?_ (by simp_arith only [and_self])
  simp! only [eJoin, toStrs_map]
  rw [if_pos sm, joinN]
  simp! only []
noncomputable def e_is_number : MS :=
  (sSeq (sSet 1 (eSlS (eVar 0) (oSome (eCB pInt1 (aCons (eOp pEq (eSlS (eVar 0) oNone (oSome (eC (.int 1)))) (eC (.str "-"))) aNil))) oNone))
    (sSeq (sIf (mOr (mNot (tst (eChain pLe pLe (eC (.int 1)) (eCB pLenS (aCons (eVar 1) aNil)) (eC (.int 12))))) (mNot (tst (eCB pAll (aCons (dat (fLc (wStr (eVar 1)) (mName 2) mYes (eOp (pInSg false) (eVar 2) (eC (.str "0123456789"))) [2])) aNil))))) (sRet (eC (.bl false))) sNext)
    (sRet (eOr (eOp pNe (eOp pIxS (eVar 1) (eC (.int 0))) (eC (.str "0"))) (eOp pEq (eVar 0) (eC (.str "0")))))))
noncomputable def f_is_number : FnS := fnOf 1 3 e_is_number
theorem fig_tx : ("0123456789" : Str).cps.toList = [48, 49, 50, 51, 52, 53, 54, 55, 56, 57] := by decide +kernel
theorem minus_tx : ("-" : Str) = tx [45] := by decide +kernel
theorem zero_tx : ("0" : Str) = tx [48] := by decide +kernel
/-- ten signs -/
def figB (c : Nat) : Bool := decide (48 ≤ c) && decide (c ≤ 57)
def dropM (l : List Nat) : List Nat := if l.take 1 = [45] then l.drop 1 else l
def isNo (l : List Nat) : Bool := decide (1 ≤ (dropM l).length) && (decide ((dropM l).length ≤ 12) && ((dropM l).all figB && (!decide ((dropM l).take 1 = [48]) || decide (l = [48]))))
theorem fig_all {d : List Nat} (h : d.all figB = true) : ∀ c ∈ d, 48 ≤ c ∧ c ≤ 57 := fun c hc => by
  have := List.all_eq_true.mp h c hc
  unfold figB at this
  simpa using this
theorem snoc_cases (d : List Nat) : d = [] ∨ ∃ l c, d = l ++ [c] := by
  rcases List.eq_nil_or_concat d with h | ⟨l, c, h⟩
  · exact .inl h
  · exact .inr ⟨l, c, by rw [h]; simp⟩
theorem num_back : ∀ (n : Nat) {d : List Nat}, d.length = n → (∀ c ∈ d, 48 ≤ c ∧ c ≤ 57) → d ≠ [] → (d.take 1 ≠ [48] ∨ d = [48]) → ∃ v : Nat, d = TL.numL v ∧ v < 10 ^ n ∧ (d.take 1 ≠ [48] → 0 < v)
  | 0, d, hn, _, h, _ => absurd (List.length_eq_zero_iff.mp hn) h
  | n + 1, d, hn, hd, h, hz => by
    rcases snoc_cases d with e | ⟨l, c, e⟩
    · exact absurd e h
    subst e
    have hc := hd c (by simp)
    have ln : l.length = n := by simpa using hn
    cases l with
    | nil =>
      refine ⟨c - 48, ?_, ?_, ?_⟩
      · rw [TL.numL_lt (by omega)]
        show [c] = _
        congr 1; omega
      · subst ln
        show c - 48 < 10 ^ 1
        omega
      · intro hh
        have : c ≠ 48 := fun z => hh (by rw [z]; rfl)
        omega
    | cons a l =>
      have h1 : (a :: l).take 1 ≠ [48] := by
        rcases hz with hz | hz
        · exact hz
        · simp at hz
      obtain ⟨v, ev, lv, pv⟩ := num_back n (d := a :: l) ln (fun x hx => hd x (List.mem_append_left _ hx)) (by simp) (.inl h1)
      have hv := pv h1
      refine ⟨10 * v + (c - 48), ?_, ?_, fun _ => by omega⟩
      · rw [TL.numL_step (by omega), show (10 * v + (c - 48)) / 10 = v by omega, show (10 * v + (c - 48)) % 10 = c - 48 by omega, ← ev]
        congr 2; omega
      · rw [Nat.pow_succ]; omega
theorem isNo_num {l : List Nat} (h : isNo l = true) : ∃ i : Int, -1000000000000 < i ∧ i < 1000000000000 ∧ l = numZ i := by
  unfold isNo at h
  simp only [Bool.and_eq_true, decide_eq_true_eq, Bool.or_eq_true, Bool.not_eq_true', decide_eq_false_iff_not] at h
  obtain ⟨h1, h2, h3, h4⟩ := h
  have hd := fig_all h3
  have hne : dropM l ≠ [] := fun z => by rw [z] at h1; simp at h1
  unfold dropM at *
  by_cases hm : l.take 1 = [45]
  · rw [if_pos hm] at *
    have h4' : (l.drop 1).take 1 ≠ [48] := by
      rcases h4 with h4 | h4
      · exact h4
      · rw [h4] at hm; simp at hm
    obtain ⟨v, ev, lv, pv⟩ := num_back _ rfl hd hne (.inl h4')
    have hv := pv h4'
    have hv12 : v < 10 ^ 12 := Nat.lt_of_lt_of_le lv (Nat.pow_le_pow_right (by omega) h2)
    refine ⟨-(v : Int), by omega, by omega, ?_⟩
    have hcut : l = l.take 1 ++ l.drop 1 := (List.take_append_drop 1 l).symm
    obtain ⟨w, rfl⟩ : ∃ w, v = w + 1 := ⟨v - 1, by omega⟩
    rw [numZ_neg, ← ev]
    rw [hm] at hcut
    exact hcut
  · rw [if_neg hm] at *
    obtain ⟨v, ev, lv, _⟩ := num_back _ rfl hd hne h4
    have : v < 10 ^ 12 := Nat.lt_of_lt_of_le lv (Nat.pow_le_pow_right (by omega) h2)
    exact ⟨(v : Int), by omega, by omega, by rw [numZ_pos]; exact ev⟩
theorem tx_dec (a b : List Nat) : decide (tx a = tx b) = decide (a = b) := decide_eq_decide.mpr ⟨tx_inj, fun h => by rw [h]⟩
theorem cut_dropM (l : List Nat) : L2.cutS (tx l) (some (if decide (l.take 1 = [45]) then 1 else 0)) none = tx (dropM l) := by
  unfold dropM
  by_cases hm : l.take 1 = [45]
  · rw [decide_eq_true hm, if_pos hm]
    exact tx_from l 1
  · rw [decide_eq_false hm, if_neg hm]
    exact tx_from l 0
theorem dropM_len (l : List Nat) : (dropM l).length ≤ l.length := by
  unfold dropM
  split
  · rw [List.length_drop]; omega
  · exact Nat.le_refl _
theorem fig_mem (c : Nat) : decide (c ∈ ("0123456789" : Str).cps.toList) = figB c := by
  rw [fig_tx]
  unfold figB
  rw [← Bool.decide_and]
  refine decide_eq_decide.mpr ?_
  simp only [List.mem_cons, List.not_mem_nil, or_false]
  omega
theorem is_number_eq {l : List Nat} (hl : l.length < 90000) (m : Store) : f_is_number [.str (tx l)] m = ret (.pl (.bl (isNo l))) m := by
  obtain ⟨d, hd⟩ : ∃ d, d = dropM l := ⟨_, rfl⟩
  have dl0 := dropM_len l
  rw [← hd] at dl0
  have zl2 : (tx l).length ≤ 100000 := by rw [tx_len]; omega
  have dl2 : (tx d).length ≤ 100000 := by rw [tx_len]; omega
  have dl3 : d.length ≤ 100000 := by omega
  have dl4 : d.length < 100000 := by omega
  have c1 : L2.cutS (tx l) none (some 1) = tx (l.take 1) := tx_to l 1
  have c2 := cut_dropM l
  rw [← hd] at c2
  have lc : lcM (mName 2) mYes (eOp (pInSg false) (eVar 2) (eC (.str "0123456789"))) (Wk.mk (d.map chS) []).chk [some (.str (tx l)), some (.str (tx d)), none] (d.map chS) m = ret ((d.map figB).map D.bl) m := by
    rw [List.map_map]
    exact lcM_map chk_nil chS _ d fun c hc => ⟨[some (.str (tx l)), some (.str (tx d)), some (chS c)], rfl, by
      have := fig_mem c
      simp! only [inSg_ch, Bool.false_eq_true, if_false, this]
      rfl⟩
  have al : (d.map figB).all id = d.all figB := by rw [List.all_map]; rfl
  have d1 : decide ((1 : Int) ≤ (d.length : Int)) = decide (1 ≤ d.length) := decide_eq_decide.mpr (by omega)
  have d2 : decide ((d.length : Int) ≤ 12) = decide (d.length ≤ 12) := decide_eq_decide.mpr (by omega)
  unfold isNo
  rw [← hd]
  unfold f_is_number e_is_number
  simp! only [eFld, pLenS, pDictD, pLenD, pDIn, keyD, pSortD, eSlS, zl2, c1, pEq, minus_tx, tx_dec]
  simp! only [pInt1, c2, eFld, pLenS, pDictD, pLenD, pDIn, keyD, pSortD, eSlS, dl2, dl3, tx_len, d1, d2]
  cases k1 : decide (1 ≤ d.length) with
  | false => simp! only [k1]
  | true =>
    cases k2 : decide (d.length ≤ 12) with
    | false => simp! only [k1, k2]
    | true =>
      have ne : 1 ≤ d.length := of_decide_eq_true k1
      have ix : pIxS (.str (tx d)) (.int 0) m = ret (.str (tx (d.take 1))) m := by
        unfold pIxS
        dsimp only
        rw [if_pos dl2, tx_list]
        cases hdd : d with
        | nil => rw [hdd] at ne; simp at ne
        | cons c l => rw [atI_0]; rfl
      simp! only [k1, k2, wStr, tx_list, List.length_map, dl4, dl3, wipeE, lc, pAll, bools_map, al]
      cases k3 : d.all figB with
      | false => simp! only [k3]
      | true =>
        cases k4 : decide (d.take 1 = [48]) with
        | false => simp! only [k3, ix, zero_tx, pNe, tx_dec, k4]
        | true => simp! only [k3, ix, zero_tx, pNe, tx_dec, k4, pEq]
noncomputable def e_must : MS :=
  (sIf (mNot (tst (eVar 0))) (sRaise "NoText") sNext)
noncomputable def f_must : FnS := fnOf 1 1 e_must
theorem must_ok (m : Store) : f_must [.bl true] m = ret (.pl .non) m := by
  unfold f_must e_must
  simp! only []
noncomputable def e_read_number : MS :=
  (sSeq (sExpr (pla (fCall f_must (aCons (pla (fCall0 f_is_number (aCons (eVar 0) aNil))) aNil))))
    (sRet (eCB pIntS (aCons (eVar 0) aNil))))
noncomputable def f_read_number : FnS := fnOf 1 1 e_read_number
/-! a table of the module's top: FORMS.get(word) -/
/-! zip(text, list) -/
open PySem PySem.Spec PyProof.Rows L2
theorem spl_facts (s : Nat) : ∀ (l acc : List Nat), TL.spl [s] 0 acc l ≠ [] ∧ (∀ p ∈ TL.spl [s] 0 acc l, p.length ≤ acc.length + l.length ∧ ∀ c ∈ p, c ∈ acc ∨ c ∈ l) ∧ (TL.spl [s] 0 acc l).length ≤ l.length + 1
  | [], acc => by
    rw [TL.spl_nil]
    refine ⟨by simp, fun p hp => ?_, by simp⟩
    cases List.mem_singleton.mp hp
    exact ⟨by simp, fun c hc => .inl hc⟩
  | c :: r, acc => by
    cases h : TL.pre [s] (c :: r) with
    | true =>
      rw [TL.spl_hit h]
      obtain ⟨h1, h2, h3⟩ := spl_facts s r []
      refine ⟨by simp, fun p hp => ?_, ?_⟩
      · rcases List.mem_cons.mp hp with rfl | hp
        · exact ⟨by simp, fun c hc => .inl hc⟩
        · obtain ⟨h4, h5⟩ := h2 p hp
          refine ⟨by rw [List.length_cons]; simp at h4; omega, fun c' hc => ?_⟩
          rcases h5 c' hc with h6 | h6
          · cases h6
          · exact .inr (List.mem_cons_of_mem _ h6)
      · rw [List.length_cons, List.length_cons]
        exact Nat.succ_le_succ h3
    | false =>
      rw [TL.spl_miss h]
      obtain ⟨h1, h2, h3⟩ := spl_facts s r (acc ++ [c])
      refine ⟨h1, fun p hp => ?_, by rw [List.length_cons]; omega⟩
      obtain ⟨h4, h5⟩ := h2 p hp
      refine ⟨by rw [List.length_append] at h4; rw [List.length_cons]; simp at h4; omega, fun c' hc => ?_⟩
      rcases h5 c' hc with h6 | h6
      · rcases List.mem_append.mp h6 with h7 | h7
        · exact .inl h7
        · cases List.mem_singleton.mp h7; exact .inr List.mem_cons_self
      · exact .inr (List.mem_cons_of_mem _ h6)
theorem sp1_tl : TL.tl (" " : Str) = [32] := by decide +kernel
/-- the words of a text -/
theorem words_facts (T : Str) : ∃ w0 rest, Txt.split T (" " : Str) = w0 :: rest ∧ (∀ w ∈ w0 :: rest, w.length ≤ T.length ∧ ∀ c ∈ w.cps.toList, c ∈ T.cps.toList) ∧ rest.length ≤ T.length := by
  have h := TL.split_spl T (" " : Str) (by rw [sp1_tl]; simp) (TL.kind_ok (by decide +kernel))
  rw [sp1_tl] at h
  obtain ⟨h1, h2, h3⟩ := spl_facts 32 (TL.tl T) []
  rw [← h] at h1 h2 h3
  have lT : (TL.tl T).length = T.length := by show T.cps.toList.length = T.cps.size; simp
  cases q : Txt.split T (" " : Str) with
  | nil => rw [q] at h1; exact absurd rfl h1
  | cons w0 rest =>
    refine ⟨w0, rest, rfl, fun w hw => ?_, ?_⟩
    · obtain ⟨h4, h5⟩ := h2 (TL.tl w) (List.mem_map.mpr ⟨w, by rw [q]; exact hw, rfl⟩)
      have lw : (TL.tl w).length = w.length := by show w.cps.toList.length = w.cps.size; simp
      refine ⟨by rw [lw, lT] at h4; simpa using h4, fun c hc => ?_⟩
      rcases h5 c hc with h6 | h6
      · cases h6
      · exact h6
    · rw [List.length_map, q, lT, List.length_cons] at h3
      omega
noncomputable def e_read_span : MS :=
  (sSeq (sAsg (ePart (eVar 0) (eC (.str ".."))) (mTup (msCons (mName 1) (msCons (mName 2) (msCons (mName 3) msNil)))))
    (sSeq (sSet 4 (eTup (aCons (pla (fCall f_read_number (aCons (eVar 1) aNil))) (aCons (pla (fCall f_read_number (aCons (eVar 3) aNil))) aNil))))
    (sSeq (sExpr (pla (fCall f_must (aCons (pla (fCall0 f_is_span (aCons (eVar 4) aNil))) aNil))))
    (sRet (eVar 4)))))
noncomputable def f_read_span : FnS := fnOf 1 5 e_read_span
/-! a comprehension whose element may refuse: the kit's judgement of a comprehension with the block's exceptions let through -/
section
open PySem PySem.Spec PyProof.Rows L2
/-- behind the block; an exception of it with the frame over which it flies -/
def postX (M : Model) (A : Around) (E : Value → Shared → Prop) (use : Option (Value → Sem Unit)) (Q : Value → Shared → Prop) (acc : Value) (ce : Env) : Result → Shared → Prop
  | .ok f, t => compPost M A E use Q acc ce.locals (.ok f) t
  | .error x, t => ∃ m, t.heap.Ns ce.locals m ∧ ∀ g, Heap.SameBut ce.locals t.heap g → ∀ c2 : Env, c2.frame = ce.frame → wpAny M A (passOn "comprehension.variables-let-go" x c2 : Sem Value) (fun _ _ => False) E { t with heap := g }
section
variable {M : Model} {A : Around} {E : Value → Shared → Prop} {s : Shared} {env : Env}
theorem comp_go {e : Expr} {sc : Scope} {pos : Pos} {newAcc first : Sem Value} {c0 : Comprehension} {cs : List Comprehension} {cl : List (Str × Addr)} {use : Option (Value → Sem Unit)} {Q : Value → Shared → Prop}
    (hcs : clausesOf e = c0 :: cs) (hset : ∀ x, foldedSetIterable c0.iter env x = pure x) (hcl : closureFor sc env = pure cl) (hk : sc.kind = .function) (hv : ∀ y ∈ sc.names, y.2 = .local → sc.names.lookup y.1 = some .local)
    (h : wpAny M A first (fun x t1 => wpAny M A (pyIter x) (fun it t2 => wpAny M A newAcc (fun acc t3 => wpAny M A (newFunctionEnv sc env.globals cl [] env.qual none .none (some env)) (fun ce t4 =>
      codeAny M A (.compStart e 0 it acc { ce with scope := relabel sc env }) (postX M A E use Q acc ce) t4) E t3) E t2) E t1) E s) : wpAny M A (comprehension e sc env pos newAcc false first use) Q E s := by
  unfold comprehension
  rw [hcl, hcs]
  refine wpAny_bind (wpAny_mono h (fun x t1 j1 => wpAny_bind (wpAny_standAt (wpAny_bind (wpAny_of_eq (hset x) (wpAny_bind (wpAny_holding (wpAny_mono j1 (fun it t2 j2 => wpAny_standIf (wpAny_bind (wpAny_mono j2 (fun acc t3 j3 => wpAny_bind (wpAny_pure (wpAny_bind (wpAny_mono j3 (fun ce t4 j4 => ?_) fun _ _ z => z)))) fun _ _ z => z))) fun _ _ z => z))))))) fun _ _ z => z)
  dsimp only
  have loc : ∀ y ∈ (sc.names.filter fun y => (y.2 == .local || y.2 == .cell) && y.1 != (".0" : Str)).reverse, y.2 = .local → Env.kindOf { ce with scope := relabel sc env } y.1 = some .local := fun y hy hl => lookup_relabel_local (hv y (List.mem_filter.mp (List.mem_reverse.mp hy)).1 hl)
  have loc2 : ∀ y ∈ (sc.names.filter fun y => (y.2 == .local || y.2 == .cell) && y.1 != (".0" : Str)).reverse.drop 1 ++ (sc.names.filter fun y => (y.2 == .local || y.2 == .cell) && y.1 != (".0" : Str)).reverse.take 1, y.2 = .local → Env.kindOf { ce with scope := relabel sc env } y.1 = some .local := fun y hy hl => (List.mem_append.mp hy).elim (fun z => loc y (List.mem_of_mem_drop z) hl) fun z => loc y (List.mem_of_mem_take z) hl
  refine wpAny_holding (wpAny_bind (wpAny_attempt (wpAny_holding (wpAny_run (codeAny_mono j4 fun r t5 j5 => ?_)))))
  cases r with
  | error x =>
    obtain ⟨m, hn, j6⟩ := j5
    exact wpAny_bind (wpAny_holding (wpAny_comp_letGo (cenv := { ce with scope := relabel sc env }) hk _ t5 m loc hn fun g _ _ sb => wpAny_mono (j6 g sb _ rfl) (fun _ _ z => z.elim) fun _ _ z => z))
  | ok f =>
    cases use with
    | none =>
      obtain ⟨m, hn, j6⟩ := j5
      exact wpAny_bind (wpAny_holding (wpAny_comp_letGo (cenv := { ce with scope := relabel sc env }) hk _ t5 m loc hn fun g _ _ sb => wpAny_pure (j6 g sb)))
    | some v =>
      refine wpAny_bind (wpAny_rule (wpAny_bind (wpAny_holding (wpAny_mono j5 (fun _ t6 j6 => ?_) fun _ _ z => z))))
      obtain ⟨m, hn, j7⟩ := j6
      exact wpAny_bind (wpAny_comp_letGo (cenv := { ce with scope := relabel sc env }) hk _ t6 m loc2 hn fun g _ _ sb => wpAny_pure (j7 g sb))
end
theorem note_same {x : Value} {e1 e2 : Env} (h : e1.frame = e2.frame) : noteFrame x e1 = noteFrame x e2 := by
  unfold noteFrame PySem.frameOf
  rw [h]
theorem frames_but {B B2 g1 g2 : Heap} {C : Addr} (k : ∀ b, b ≠ C → g2.get? b = g1.get? b) (sub : ∀ b o, B2.get? b = some o → B.get? b = some o) : ∀ {l : List Env}, g1.FunFrames B l → C ∉ frs l → g2.FunFrames B2 l
  | [], _, _ => trivial
  | e :: l, ⟨hk, ⟨L, o, hf, hn, ho, hd⟩, hr⟩, nC => by
    have eL : frs (e :: l) = L :: frs l := by
      unfold frs
      rw [List.filterMap_cons, hf]
    rw [eL] at nC
    refine ⟨hk, ⟨L, o, hf, ?_, ?_, hd⟩, frames_but k sub hr fun z => nC (List.mem_cons_of_mem _ z)⟩
    · cases q : B2.get? L with
      | none => rfl
      | some u => rw [sub _ _ q] at hn; cases hn
    · rw [k L fun z => nC (by rw [z]; exact List.mem_cons_self)]
      exact ho
section
variable {X : Cx}
/-- a call's exception flies over the frames -/
theorem fly_of {pins : List (Addr × Obj)} {σ : L2.St} {H : Hp} {s t : Shared} {E : XK} {W : WX} {u : Value} (I : Inv X pins σ H s) (hW : ∀ cls d G, E cls d G → W cls d σ G) (c : L2.CX X.prog X.w X.stack H s E u t) :
    ∃ (a : Addr) (B : Heap) (sI : Shared) (p : List (Addr × Obj)) (τ : L2.St) (G : Hp) (cls : Value) (d : Option Addr), u = .ref a ∧ Inv X p τ G sI ∧ (∀ b o, sI.heap.get? b = some o → b ∉ frs X.stack → B.get? b = some o) ∧ sI.heap.UpToSlots t.heap ∧
      HandSPX.FlyingZ B X.stack a (Zc cls d) t.heap ∧ G a = none ∧ t.os = sI.os ∧ AllBare t.gens ∧ W cls d τ G := by
  obtain ⟨a, B, sI, p, τ, G, cls, d, e1, J, nb, up, sky, na, os, ag, w⟩ := L2.XE.of_call (W := W) I hW c
  obtain ⟨a0, B0, _, _, _, e0, fl, _⟩ := c
  subst e1
  cases e0
  obtain ⟨_, _, _, oe, vs, T, oT, ts, he, _, hd, h1, _, _, hT, hdT, h3⟩ := fl
  refine ⟨a, B, sI, p, τ, G, cls, d, rfl, J, nb, up, ?_, na, os, ag, w⟩
  rcases sky with ⟨_, _, _, oe', vs', he', _, hd', h1'⟩ | f | ⟨_, _, _, oe', vs', T', oT', ts', he', _, hd', h1', _, _, hT', hdT', h3'⟩
  · rw [he] at he'; cases he'; rw [hd] at hd'; cases hd'; rw [h1] at h1'; cases h1'
  · exact f
  · rw [he] at he'; cases he'; rw [hd] at hd'; cases hd'; rw [h1] at h1'; cases h1'; rw [hT] at hT'; cases hT'; rw [hdT] at hdT'; cases hdT'; rw [h3] at h3'
    exact absurd h3' (by simp [rawInt])
/-- an exception of the block leaves the comprehension -/
theorem block_out {pins p : List (Addr × Obj)} {σ τ : L2.St} {H3 G : Hp} {s3 sI t : Shared} {scope : Scope} {ce : Env} {fp : List Addr} {W : WX} {use : Option (Value → Sem Unit)} {Qf : Value → Shared → Prop} {acc : Value} {a : Addr} {B : Heap} {cls : Value} {d : Option Addr}
    (hst : X.stack = X.env :: X.outer) (hfm : X.env.frame = some X.env.locals) (tk : L2.Takes X W) (I3 : Inv X pins σ H3 s3) (hC : ce.locals = s3.heap.objs.size) (hcf : ce.frame = X.env.frame) (f3 : ∀ b ∈ fp, FpOk X pins H3 b)
    (J : Inv (X.blk s3 H3 scope ce fp) p τ G sI) (nb : ∀ b o, sI.heap.get? b = some o → b ∉ frs X.stack → B.get? b = some o) (up : sI.heap.UpToSlots t.heap) (fl : HandSPX.FlyingZ B X.stack a (Zc cls d) t.heap) (na : G a = none) (os : t.os = sI.os) (ag : AllBare t.gens) (w : W cls d σ G) :
    notedBy (model X.prog X.w) X.A ce (fun e t' => postX (model X.prog X.w) X.A X.xe use Qf acc ce (.error e) t') (.ref a) t := by
  have hfr : X.A.frames = some (X.env :: X.outer) := by rw [I3.ok.frames, hst]
  show wpAny (model X.prog X.w) X.A (noteFrame (.ref a) ce) _ _ _
  rw [note_same hcf]
  refine HandSPX.looks_onZ Zc.steady hfr hfm (hst ▸ fl) fun g1 hh up1 => ?_
  have J1 : Inv (X.blk s3 H3 scope ce fp) p τ G { t with heap := g1 } := J.landed nb hh.1 (up.trans up1) os ag
  obtain ⟨m, hn, _⟩ := J1.loc
  refine ⟨m, hn, fun g2 sb c2 hc2 => ?_⟩
  obtain ⟨C, eC⟩ : ∃ C, C = ce.locals := ⟨_, rfl⟩
  rw [← eC] at hC sb
  have GC : G C = none := by rw [eC]; exact J.free
  have CF : C ∉ frs X.stack := fun z => by
    obtain ⟨_, o, ho, _⟩ := I3.stack.mem z
    exact absurd (Heap.lt_size ho) (by rw [hC]; exact Nat.lt_irrefl _)
  obtain ⟨oC, hoC⟩ : ∃ o, sI.heap.get? C = some o := by
    obtain ⟨m0, ⟨o, _, _, ho, _⟩, _⟩ := J.loc
    exact ⟨o, by rw [eC]; exact ho⟩
  have BC := nb C oC hoC CF
  have k : ∀ b, b ≠ C → g2.get? b = g1.get? b := fun b hb => sb.2 b hb
  obtain ⟨k1, k2, k3, oe, vs, T, oT, ts, he, hz, hd, q1, qn, qe, qT, qd, q3⟩ := hh
  have aC : a ≠ C := fun z => by rw [z, BC] at k2; cases k2
  have TC : T ≠ C := fun z => by rw [z, BC] at qn; cases qn
  obtain ⟨B2, eB2⟩ : ∃ B2, B2 = PySem.W.hideAll B [C] := ⟨_, rfl⟩
  have B2s : ∀ b o, B2.get? b = some o → B.get? b = some o := fun b o z => by rw [eB2] at z; exact PySem.W.of_hideAll _ z
  have B2n : ∀ b o, B2.get? b = some o → b ≠ C := fun b o z y => by
    rw [eB2, PySem.W.hideAll_none _ (by rw [y]; exact List.mem_cons_self)] at z
    cases z
  have B2k : ∀ b o, B.get? b = some o → b ≠ C → B2.get? b = some o := fun b o z y => by
    rw [eB2]
    exact PySem.W.hideAll_get _ z fun q => y (List.mem_singleton.mp q)
  have B2z : ∀ b, B.get? b = none → B2.get? b = none := fun b z => by
    cases q : B2.get? b with
    | none => rfl
    | some u => rw [B2s _ _ q] at z; cases z
  have hh2 : HandSPX.HeldZ B2 (X.env :: X.outer) a (Zc cls d) X.env.locals g2 :=
    ⟨fun b o z => by rw [k b (B2n b o z)]; exact k1 b o (B2s b o z), B2z _ k2, frames_but k B2s k3 (hst ▸ CF), oe, vs, T, oT, ts, by rw [k a aC]; exact he, hz, hd, q1, B2z _ qn, qe, by rw [k T TC]; exact qT, qd, q3⟩
  have he2 : g2.get? a = some oe := by rw [k a aC]; exact he
  obtain ⟨S2, eS2⟩ : ∃ S2 : Shared, S2 = { sI with heap := PySem.W.hideAll sI.heap [C] } := ⟨_, rfl⟩
  have Sh : S2.heap = PySem.W.hideAll sI.heap [C] := by rw [eS2]
  have Ss : ∀ b o, S2.heap.get? b = some o → sI.heap.get? b = some o ∧ b ≠ C := fun b o z => by
    rw [Sh] at z
    refine ⟨PySem.W.of_hideAll _ z, fun y => ?_⟩
    rw [PySem.W.hideAll_none _ (by rw [y]; exact List.mem_cons_self)] at z
    cases z
  have Sk : ∀ b o, sI.heap.get? b = some o → b ≠ C → S2.heap.get? b = some o := fun b o z y => by
    rw [Sh]
    exact PySem.W.hideAll_get _ z fun q => y (List.mem_singleton.mp q)
  have old : ∀ b o, s3.heap.get? b = some o → b ≠ C := fun b o z y => absurd (Heap.lt_size z) (by rw [y, hC]; exact Nat.lt_irrefl _)
  have u := J.base
  have u2 : Un (frs X.stack) fp H3 G s3.heap S2.heap :=
    ⟨fun b o z n h1 h2 => Sk b o (u.keep b o z n h1 h2) (old b o z), fun b o z n h1 h2 => let ⟨sl, y⟩ := u.slot b o z n h1 h2; ⟨sl, Sk b _ y (old b o z)⟩, u.free, fun b o z h2 => let ⟨o', y⟩ := u.there b o z h2; ⟨o', Sk b o' y (old b o z)⟩, u.tups, u.frzs, u.tbls⟩
  have hok2 : HOk X.prog X.w G S2.heap := fun b o q => (J.hok b o q).stay (fun c v hc r => Sk c v r fun y => by
    rw [y, GC] at hc
    rcases hc with hc | hc
    · rw [← hc, GC] at q; cases q
    · cases hc) (fun _ r => r) fun _ _ r => r
  have J2 : Inv X pins σ G S2 := I3.call' (ch := fp) (by rw [eS2]; exact J.os) u2 hok2 (by rw [eS2]; exact J.bare) fun b hb => ⟨(f3 b hb).2.2.2.1, (f3 b hb).2.1, (f3 b hb).2.2.2.2.1, (f3 b hb).2.2.2.2.2⟩
  unfold PySem.passOn
  refine wpAny_bind (wpAny_field he2 hd q1 ?_)
  rw [if_neg (show ¬ ((Value.ref T == Value.none) = true) from by simp)]
  have fin : wpAny (model X.prog X.w) X.A (setFlight (.ref a) c2.frame) (fun _ s4 => wpAny (model X.prog X.w) X.A (throw (.ref a) : Sem Value) (fun _ _ => False) X.xe s4) X.xe { t with heap := g2 } := by
    rw [hc2, hcf, hfm]
    refine HandSPX.setFlight_onZ hh2 fun g4 hh4 up4 => wpAny_throw (tk _ _ ?_)
    refine ⟨a, B2, S2, pins, σ, G, cls, d, rfl, J2, fun b o z y => ?_, fun b o z y => ?_, .inr (.inr (by rw [hst]; exact hh4)), na, by rw [eS2]; exact os, ag, w⟩
    · obtain ⟨z1, z2⟩ := Ss b o z
      exact B2k b o (nb b o z1 y) z2
    · obtain ⟨z1, z2⟩ := Ss b o z
      obtain ⟨sl, y1⟩ := (up.trans up1) b o z1 y
      exact up4 b { o with slots := sl } (by show g2.get? b = _; rw [k b z2]; exact y1) y
  first
    | exact wpAny_bind (wpAny_pure (wpAny_bind fin))
    | exact wpAny_bind fin
/-- [elt for tg in iter if ..], what the element refuses refused at the slots of the def -/
def tLcX (wi : TI) (g : TG) (tt : TT) (te : WX → TE) (vs : List Nat) (W : WX) : TE := fun σ H Q => tLc wi g tt (te fun cls d _ G => W cls d σ G) vs σ H Q
theorem lcx_core {W : WX} {pins : List (Addr × Obj)} {s : Shared} {σ : L2.St} {H : Hp} {Q : VK} {elt tg iter : Expr} {ifs : List Expr} {scope : Scope} {own : List (Str × Nat)} {pos pos' : Pos} {wi : TI} {g : TG} {tt : TT} {te : WX → TE} {use : Option (Value → Sem Unit)} {Qf : Value → Shared → Prop}
    (hc : X.calm = true) (hN : X.N.Nodup) (hst : X.stack = X.env :: X.outer) (hfm : X.env.frame = some X.env.locals) (tk : L2.Takes X W) (I : Inv X pins σ H s) (hi : PI X tg iter wi) (ok : BlkOk X.N X.env.scope scope own)
    (hg : ∀ (s : Shared) (H : Hp) (C : Addr) (cl : List (Str × Addr)) (fp : List Addr), PG (X.blk s H scope (compEnvC scope cl C X.env) fp) tg g)
    (ht : ∀ (s : Shared) (H : Hp) (C : Addr) (cl : List (Str × Addr)) (fp : List Addr), PTs (X.blk s H scope (compEnvC scope cl C X.env) fp) ifs tt)
    (he : ∀ (s : Shared) (H : Hp) (C : Addr) (cl : List (Str × Addr)) (fp : List Addr) (xe : Value → Shared → Prop) (V : WX), (∀ τ, PassesAt (L2.CX X.prog X.w) ((X.blk s H scope (compEnvC scope cl C X.env) fp).wish xe) τ (WE V τ)) → PE ((X.blk s H scope (compEnvC scope cl C X.env) fp).wish xe) elt (te V))
    (hs : ∀ x, foldedSetIterable iter X.env x = pure x) (h : tLcX wi g tt te (own.map (·.2)) W σ H Q)
    (fin : ∀ D C t m G, Inv X pins σ G t → Q (.ref D) G → t.heap.Ns C m → FpOk X pins G C → compPost (model X.prog X.w) X.A X.xe use Qf (.ref D) C (.ok .next) t) :
    wpAny (model X.prog X.w) X.A (comprehension (.ListComp elt [⟨tg, iter, ifs, 0⟩] scope pos) scope X.env pos' (newList []) false (eval iter X.env) use) Qf X.xe s := by
  have free : ∀ y ∈ scope.names, y.2 = .free → ∃ c, X.env.cells.lookup y.1 = some c := fun y hy e => (ok.free y hy e).elim (fun z => I.ok.has _ (.inl z)) fun z => I.ok.has _ (.inr z)
  refine comp_go (use := use) rfl hs (closure_ok free) ok.kind (fun y hy e => by rw [ok.uniq y hy, e]) (thn (hi.run pins s σ H _ I h) fun xv t1 hx => thn hx fun itv t2 j2 => ?_)
  obtain ⟨it, fp, tn, J, H2, e, I2, T, st2, f2, q⟩ := j2
  subst e
  refine wpAny_newObj_type (newEnv_comp ?_) (by show 0 ≤ sizeLine; decide)
  generalize hD : t2.heap.objs.size = D
  have Dn : H2 D = none := I2.hok.fresh (Nat.le_of_eq hD)
  obtain ⟨Wm, ⟨m0, w0⟩, turn⟩ := q D Dn
  generalize ht3 : ({ t2 with heap := t2.heap.push { cls := .type "list", data := .seq ([] : List Value).toArray } } : Shared) = t3
  have I3 : Inv X pins σ (upd H2 D (.lst [])) t3 := by
    rw [← ht3]
    refine I2.laid (t' := t2.toks) (fun b o z => Heap.get?_push_of_some _ z) (Nat.le_of_eq hD) ⟨Nat.zero_le _, [], 0, .nil, ?_⟩
    rw [← hD]
    exact Heap.get?_push_size _ rfl
  have g3 : t3.heap = t2.heap.push { cls := .type "list", data := .seq ([] : List Value).toArray } := by rw [← ht3]
  have lt2 : ∀ b ∈ fp, b < t2.heap.objs.size := fun b hb => by
    obtain ⟨o, z, _⟩ := T.obj _ _ st2 b hb
    exact Heap.lt_size z
  have f3 : ∀ b ∈ fp, FpOk X pins (upd H2 D (.lst [])) b ∧ b < t3.heap.objs.size := fun b hb => by
    have lt := lt2 b hb
    refine ⟨⟨?_, (f2 b hb).2⟩, by rw [g3, Heap.size_push]; exact Nat.lt_succ_of_lt lt⟩
    rw [upd_ne (by rw [← hD]; exact Nat.ne_of_lt lt)]
    exact (f2 b hb).1
  have st3 : tn 0 t3.heap := T.keep _ _ _ st2 fun b _ o z => by rw [g3]; exact Heap.get?_push_of_some _ z
  have I4 := block_start I3 ok hN f3
  have pg := hg t3 (upd H2 D (.lst [])) t3.heap.objs.size (cellsFrom (t3.heap.objs.size + 1) scope.names (cloFrom X.env.cells scope.names [])) fp
  have pt := ht t3 (upd H2 D (.lst [])) t3.heap.objs.size (cellsFrom (t3.heap.objs.size + 1) scope.names (cloFrom X.env.cells scope.names [])) fp
  have pe := he t3 (upd H2 D (.lst [])) t3.heap.objs.size (cellsFrom (t3.heap.objs.size + 1) scope.names (cloFrom X.env.cells scope.names [])) fp
  show codeAny _ _ (.compStart (.ListComp elt [⟨tg, iter, ifs, 0⟩] scope pos) 0 (.ref it) (.ref D) (compEnvC scope (cellsFrom (t3.heap.objs.size + 1) scope.names (cloFrom X.env.cells scope.names [])) t3.heap.objs.size X.env)) (postX (model X.prog X.w) X.A X.xe use Qf (.ref D) (compEnvC scope (cellsFrom (t3.heap.objs.size + 1) scope.names (cloFrom X.env.cells scope.names [])) t3.heap.objs.size X.env)) { t3 with heap := pushCells (t3.heap.push { cls := .type "dict", data := .dict #[] }) scope.names }
  have nf : ∀ b ∈ fp, (upd H2 D (.lst [])) b = none := fun b hb => (f3 b hb).1.1
  generalize hce : compEnvC scope (cellsFrom (t3.heap.objs.size + 1) scope.names (cloFrom X.env.cells scope.names [])) t3.heap.objs.size X.env = ce at I4 pg pt pe ⊢
  have cL : ce.locals = t3.heap.objs.size := by rw [← hce]; rfl
  have cF : ce.frame = X.env.frame := by rw [← hce]; rfl
  generalize hH3 : upd H2 D (.lst []) = H3 at I3 I4 pg pt pe w0 nf f3
  generalize ht4 : ({ t3 with heap := pushCells (t3.heap.push { cls := .type "dict", data := .dict #[] }) scope.names } : Shared) = t4 at I4 ⊢
  have st4 : tn 0 t4.heap := T.keep _ _ _ st3 fun b _ o z => by rw [← ht4]; exact pushCells_keeps _ _ _ _ (Heap.get?_push_of_some _ z)
  have stat : ∀ {τ : L2.St} {G : Hp} {t : Shared}, Inv (X.blk t3 H3 scope ce fp) [] τ G t → (∀ b ∈ fp, G b = none) → ∀ b ∈ fp, FpOk (X.blk t3 H3 scope ce fp) [] G b := fun {τ G t} I' hn b hb =>
    ⟨hn b hb, (I'.ok.exf b hb).1, I'.ok.exfs b hb, .inl hb, fun x c z => (I'.ok.exf b hb).2 x c z, fun p hp => nomatch (show p ∈ ([] : List (Addr × Obj)) from hp)⟩
  have loop : codeAny (model X.prog X.w) X.A (.compLoop (.ListComp elt [⟨tg, iter, ifs, 0⟩] scope pos) 0 (.ref it) (.ref D) ce) (postX (model X.prog X.w) X.A X.xe use Qf (.ref D) ce) t4 := by
    refine compLoop_any (fun n t => ∃ i G, Inv (X.blk t3 H3 scope ce fp) [] (wipe σ (own.map (·.2))) G t ∧ tn i t.heap ∧ (∀ b ∈ fp, G b = none) ∧ Wm i n G) ?_ m0 ⟨0, H3, I4, st4, nf, w0⟩
    rintro n t5 ⟨i, H5, I5, st5, n5, w5⟩
    rcases turn i n H5 w5 with ⟨stop, qq⟩ | ⟨go, Nx, hNx, step⟩
    · refine thnF (T.done (X.blk t3 H3 scope ce fp) rfl rfl rfl hc i [] t5 _ H5 (fun _ _ => False) I5 (stat I5 n5) st5 stop) fun r t6 ⟨hr, I6⟩ => ?_
      subst hr
      have I7 : Inv X pins σ H5 t6 := I3.call' (ch := fp) I6.os I6.base I6.hok I6.bare fun b hb => ⟨(f3 b hb).1.2.2.2.1, (f3 b hb).1.2.1, (f3 b hb).1.2.2.2.2.1, (f3 b hb).1.2.2.2.2.2⟩
      have nC : H5 t3.heap.objs.size = none := cL ▸ (I6.free : H5 ce.locals = none)
      obtain ⟨m, hn, _⟩ := I6.loc
      show compPost (model X.prog X.w) X.A X.xe use Qf (.ref D) ce.locals (.ok .next) t6
      rw [cL]
      exact fin D t3.heap.objs.size t6 m H5 I7 qq (cL ▸ (hn : t6.heap.Ns ce.locals m)) (I3.fpOk (Nat.le_refl _) nC)
    · refine thnF (T.item (X.blk t3 H3 scope ce fp) rfl rfl rfl hc i [] t5 _ H5 (fun _ _ => False) I5 (stat I5 n5) st5 go) fun r t6 ⟨u, hr, j6⟩ => ?_
      subst hr
      refine thnF j6 fun _ t7 ⟨x, H7, I7, r7, y7, st7, n7⟩ => ?_
      have I7' := I7.pinned (stat I7 n7) (T.obj _ _ st7)
      refine thnF (pg.run _ t7 _ H7 x u _ I7' r7 (step x H7 y7)) fun _ t8 ⟨τ8, H8, I8, hw8, q8⟩ => ?_
      refine thnF (pt.run _ t8 τ8 H8 _ I8 q8) fun b t9 ⟨H9, I9, q9⟩ => ?_
      have next : ∀ {t : Shared} {G : Hp}, Inv (X.blk t3 H3 scope ce fp) ([] ++ pinsAt fp t7.heap) τ8 G t → Nx G → ∃ m, m < n ∧ ∃ i G, Inv (X.blk t3 H3 scope ce fp) [] (wipe σ (own.map (·.2))) G t ∧ tn i t.heap ∧ (∀ b ∈ fp, G b = none) ∧ Wm i m G := fun {t G} I' nx => by
        obtain ⟨m', hm, w'⟩ := hNx G nx
        have pin : ∀ b ∈ fp, ∀ o, t7.heap.get? b = some o → t.heap.get? b = some o ∧ G b = none := fun b hb o z =>
          let y := I'.pin (b, o) (List.mem_append_right _ (List.mem_append_right _ (mem_pinsAt hb z)))
          ⟨y.1, y.2.1⟩
        refine ⟨m', hm, i + 1, G, (I'.unpinned (pins := [])).weak (by rw [← hw8, wipe_length]) (fun j v z => ?_), T.keep _ _ _ st7 fun b hb o z => (pin b hb o z).1, fun b hb => ?_, w'⟩
        · rw [← hw8] at z
          exact (wipe_some z).1
        · obtain ⟨o, z, _⟩ := T.obj _ _ st7 b hb
          exact (pin b hb o z).2
      cases b with
      | false =>
        simp only [Bool.false_eq_true, if_false] at q9 ⊢
        exact next I9 q9
      | true =>
        simp only [if_true] at q9 ⊢
        refine wpAny_mono ((pe (notedBy (model X.prog X.w) X.A ce fun e t' => postX (model X.prog X.w) X.A X.xe use Qf (.ref D) ce (.error e) t') (fun cls d _ G => W cls d σ G) fun τ p G t e t' I' c => ?_).run _ t9 τ8 H9 _ (I9.wish _) q9) (fun z t10 ⟨yv, H10, I10, r10, acc, hD10, hz10, nx⟩ => ?_) fun _ _ z => z
        · obtain ⟨a, B, sI, p1, τ1, G1, cls, d, rfl, J1, nb, up, fl, na, os, ag, w1⟩ := fly_of (X := X.blk t3 H3 scope ce fp) (W := fun cls d _ G => W cls d σ G) I'.unwish (fun _ _ _ z => z) c
          exact block_out hst hfm tk I3 cL cF (fun b hb => (f3 b hb).1) J1 nb up fl na os ag w1
        · exact app_ok (X := X.blk t3 H3 scope ce fp) I10.unwish hD10 hz10 r10 fun t11 I11 => next I11 nx
  exact codeAny_compStart_list loop (T.self X.A 0 _ _ _ st4 loop)
theorem ps_setLcX {W : WX} {i : Nat} {y : Str} {py : Pos} {elt tg iter : Expr} {ifs : List Expr} {scope : Scope} {own : List (Str × Nat)} {pos spos : Pos} {wi : TI} {g : TG} {tt : TT} {te : WX → TE} (hc : X.calm = true) (hN : X.N.Nodup) (hy : X.N[i]? = some y) (hyl : X.env.scope.names.lookup y = some .local)
    (hsw : swapsWith (.ListComp elt [⟨tg, iter, ifs, 0⟩] scope pos) (some (.Name y py)) spos.line X.env = pure true) (hst : X.stack = X.env :: X.outer) (hfm : X.env.frame = some X.env.locals) (tk : L2.Takes X W) (hi : PI X tg iter wi) (ok : BlkOk X.N X.env.scope scope own)
    (hg : ∀ (s : Shared) (H : Hp) (C : Addr) (cl : List (Str × Addr)) (fp : List Addr), PG (X.blk s H scope (compEnvC scope cl C X.env) fp) tg g)
    (ht : ∀ (s : Shared) (H : Hp) (C : Addr) (cl : List (Str × Addr)) (fp : List Addr), PTs (X.blk s H scope (compEnvC scope cl C X.env) fp) ifs tt)
    (he : ∀ (s : Shared) (H : Hp) (C : Addr) (cl : List (Str × Addr)) (fp : List Addr) (xe : Value → Shared → Prop) (V : WX), (∀ τ, PassesAt (L2.CX X.prog X.w) ((X.blk s H scope (compEnvC scope cl C X.env) fp).wish xe) τ (WE V τ)) → PE ((X.blk s H scope (compEnvC scope cl C X.env) fp).wish xe) elt (te V))
    (hs : ∀ x, foldedSetIterable iter X.env x = pure x := by intro _; rfl) :
    PS X (.Assign [.Name y py] (.ListComp elt [⟨tg, iter, ifs, 0⟩] scope pos) spos) (tAsg (tLcX wi g tt te (own.map (·.2)) W) (gName i)) := by
  refine ⟨fun pins s σ H D I h => ?_⟩
  rw [exec_Assign_Name_used _ _ _ _ hsw]
  refine wpAny_bind (wpAny_standAt (wpAny_bind ?_))
  show wpAny _ X.A (do let _ ← comprehension (.ListComp elt [⟨tg, iter, ifs, 0⟩] scope pos) scope X.env (firstIterPos [⟨tg, iter, ifs, 0⟩] pos) (newList []) false (eval iter X.env) (some (assign (.Name y py) X.env))) _ _ s
  have h : tLcX wi g tt te (own.map (·.2)) W σ H (fun x H1 => gName i x σ H1 D.nx) := h
  refine wpAny_bind (thn (lcx_core (Qf := fun _ t => SP X pins D .next t) hc hN hst hfm tk I hi ok hg ht he hs h fun L C t m G I' q hn f => ?_) fun _ t j => wpAny_pure (wpAny_pure j))
  show wpAny _ _ (assign (.Name y py) X.env (.ref L)) _ _ _
  refine wpAny_assign_Name (store_ok2 (v := V.ref L) I' hN hy (.inl hyl) rfl (fun t2 I2 ⟨a, sb, ha⟩ => ?_) (.inr hyl))
  obtain ⟨f0, f1, f2, f3, f4, f5⟩ := f
  have ne : C ≠ a := ha.elim (fun z => by rw [z]; exact f1) fun z w => f4 y a z w.symm
  refine ⟨m, hn.sameBut sb ne, fun g3 sb3 => ?_⟩
  exact ⟨_, G, I2.turned (t' := t2.toks) (fun b o hb e => (sb3.2 b hb).trans e) f0 f1 f3 f4 f5, q⟩
end
theorem pc_ownP {X : Cx} {ps : List Str} {f : FnS} {x : Str} {p pos : Pos} {e : Expr} {es : List Expr} {t : TA} {j : Nat} {W : WX} (C : CalF X.prog X.w X.K X.mg X.base x j ps f) (pa : ∀ τ, PassesAt (L2.CX X.prog X.w) X τ (WE W τ)) (hr : Room j X.A) (hg : Gl X x) (ha : PA X (e :: es) t) (hdb : (x == ("__debug__" : Str)) = false := by decide)
    (he : starEach (e :: es) X.env = (false, eval e X.env) :: starEach es X.env := by rfl) (hpl : (backTo pos (starEach es X.env)).any (·.1) = false := by rfl) : PE X (.Call (.Name x p) (e :: es) [] pos) (tCallS (spF X.K f) (WE W) t) := by
  obtain ⟨fd, F, b, kp, m⟩ := C
  exact pe_callS F hr hg m kp b pa ha hdb he hpl
open Classical in
noncomputable def lcMX (g : MG) (t : MT) (e : ME) (c : Store → Prop) (δ : En) : List D → Store → MX (List D)
  | [], m => if c m then ret [] m else none
  | x :: xs, m => if c m then (g x δ).bind fun δ1 => (t δ1 m).sure fun b m => cond b ((e δ1 m).bind fun z m => (lcMX g t e c δ xs m).bind fun zs m => ret (z :: zs) m) (lcMX g t e c δ xs m)
    else none
noncomputable def fLcX (w : MI) (g : MG) (t : MT) (e : ME) (vs : List Nat) : MF := fun δ m => (w δ m).bind fun w m => if w.xs.length < 100000 then (lcMX g t e w.chk (wipeE δ vs) w.xs m).bind fun zs m => ret (.own zs) m else none
theorem lcMX_ok {g : MG} {t : MT} {e : ME} {c : Store → Prop} {δ : En} {mf : Store} : ∀ {xs : List D} {m : Store} {zs : List D}, lcMX g t e c δ xs m = some (.ok zs, mf) → lcM g t (fun δ m => (e δ m).sure ret) c δ xs m = some (.ok zs, mf)
  | [], m, zs, h => h
  | x :: xs, m, zs, h => by
    unfold lcMX at h
    unfold lcM
    split at h
    · rename_i hc
      rw [if_pos hc]
      cases hg : g x δ with
      | none => rw [hg] at h; cases h
      | some δ1 =>
        rw [hg] at h
        simp only [Option.bind_some] at h ⊢
        obtain ⟨b, m1, et, h⟩ := sure_some h
        rw [et, sure_ok]
        cases b with
        | false => exact lcMX_ok h
        | true =>
          dsimp only [cond] at h ⊢
          rcases bind_some h with ⟨z, m2, ee, h⟩ | ⟨y, _, z⟩
          · rw [ee, sure_ok]
            rcases bind_some h with ⟨zs', m3, ez, h⟩ | ⟨y, _, z⟩
            · cases h
              show (lcM g t (fun δ m => (e δ m).sure ret) c δ xs m2).sure _ = _
              rw [lcMX_ok ez]
              rfl
            · cases z
          · cases z
    · cases h
theorem so_lcX {K : PySem.W.Frag} {W : WX} {wi : TI} {g : TG} {tt : TT} {te : WX → TE} {vs : List Nat} {w : MI} {mg : MG} {t : MT} {e : ME} (hw : So K W (RI K) wi w) (hg : SGw K vs g mg) (ht : So K W RB tt t) (he : ∀ V, So K V (RE K) (te V) e) : So K W (RF K) (tLcX wi g tt te vs W) (fLcX w mg t e vs) := fun δ m res mf q r F H σ hr er => by
  rcases bind_some q with ⟨wk, m1, e1, e2⟩ | ⟨y, e1, rfl⟩
  · split at e2
    · rename_i hlen
      rcases bind_some e2 with ⟨zs, m2, e3, e4⟩ | ⟨x, e3, rfl⟩
      · cases e4
        have h4 : fLc w mg t (fun δ m => (e δ m).sure ret) vs δ m = some (.ok (.own zs), mf) := by
          unfold fLc
          rw [e1, bind_ok, if_pos hlen, lcMX_ok e3]
          rfl
        exact so_lc (te := te fun cls d _ G => W cls d σ G) hw hg ht (fun δ m res m' z r F H τ hr er => by
          obtain ⟨a, m5, ea, z⟩ := sure_some z
          cases z
          exact he (fun cls d _ G => W cls d σ G) δ m (.ok a) _ ea r F H τ hr er) δ m _ _ h4 r F H σ hr er
      · intro q Q
        refine hw δ m _ _ e1 r F H σ hr er _ fun J r1 F1 H1 hr1 x1 ok Dl hD => ?_
        refine ⟨fun i mm H' => mm = wk.xs.length - i ∧ i ≤ wk.xs.length ∧ ∃ m' r' F' ws, HR K r' F' H' m' ∧ Ext r F H m r' F' H' m' ∧ Pre r1 r' ∧ Same F1 F' ∧ H' Dl = some (.lst ws) ∧ F' Dl = none ∧ (∀ (k : Nat), live m' k → r'[k]? ≠ some Dl) ∧ ws.length ≤ i ∧ lcMX mg t e wk.chk (wipeE δ vs) (wk.xs.drop i) m' = some (.ex x, mf),
          ⟨wk.xs.length, by simp, Nat.zero_le _, m1, r1, F1, [], hr1.side hD, x1.trans hr1.len hr.len (Ext.side hr1 hD), Pre.refl _, Same.refl _, upd_same, hr1.sub.free hD, fun k l e => (hr1.ne_new hD l e) rfl, Nat.zero_le _, e3⟩, ?_⟩
        have hD0 : H Dl = none := trk_back x1 hD
        rintro i mm H' ⟨rfl, hin, m', r', F', ws, hr', x', pr', sm', hw', fD, nD, hws, ev⟩
        by_cases hlt : i < wk.xs.length
        · have ed : wk.xs[i]? = some wk.xs[i] := List.getElem?_eq_getElem hlt
          rw [List.drop_eq_getElem_cons hlt] at ev
          unfold lcMX at ev
          split at ev
          · rename_i hc
            obtain ⟨go, stop⟩ := ok r' F' H' m' pr' sm' hr' hc i
            obtain ⟨hgo, hy⟩ := go _ ed
            cases hg1 : mg wk.xs[i] (wipeE δ vs) with
            | none => rw [hg1] at ev; cases ev
            | some δ1 =>
              rw [hg1] at ev
              simp only [Option.bind_some] at ev
              obtain ⟨b, m3, et, ev2⟩ := sure_some ev
              refine .inr ⟨hgo, fun H2 => ∃ m' r' F' ws, HR K r' F' H2 m' ∧ Ext r F H m r' F' H2 m' ∧ Pre r1 r' ∧ Same F1 F' ∧ H2 Dl = some (.lst ws) ∧ F' Dl = none ∧ (∀ (k : Nat), live m' k → r'[k]? ≠ some Dl) ∧ ws.length ≤ i + 1 ∧ lcMX mg t e wk.chk (wipeE δ vs) (wk.xs.drop (i + 1)) m' = some (.ex x, mf),
                fun H2 p2 => ⟨wk.xs.length - (i + 1), by omega, rfl, hlt, p2⟩, fun x H'' y => ?_⟩
              obtain ⟨F2, hr2, x2, p2⟩ := hy x H'' y
              have er2 : ER K r' F2 (wipe σ vs) (wipeE δ vs) := ((er.ext x').ext x2).wipe vs
              refine hg _ _ _ hg1 r' F2 H'' m' (wipe σ vs) x hr2 er2 p2 _ fun σ3 er3 w3 => ⟨w3.trans wipe_wipe, ?_⟩
              refine ht δ1 m' _ _ et r' F2 H'' σ3 hr2 er3 _ fun b' r4 F4 H4 hr4 x4 rb => ?_
              cases rb
              have x24 := x2.trans hr2.len hr'.len x4
              obtain ⟨hw4, fD4, nD4⟩ := x24.side_keep hr'.len hw' fD nD
              have x04 := x'.trans hr'.len hr.len x24
              cases b with
              | true =>
                rw [if_pos rfl]
                dsimp only [cond] at ev2
                rcases bind_some ev2 with ⟨z, m5, ee, ev3⟩ | ⟨y, ee, hy⟩
                · rcases bind_some ev3 with ⟨zs', m6, ez, ev4⟩ | ⟨y, ez, hy⟩
                  · cases ev4
                  · cases hy
                    refine he (fun cls d _ G => W cls d σ G) δ1 m3 _ _ ee r4 F4 H4 σ3 hr4 (er3.ext x4) _ fun v r5 F5 H5 hr5 x5 p5 => ?_
                    obtain ⟨hw5, fD5, nD5⟩ := x5.side_keep hr4.len hw4 fD4 nD4
                    refine ⟨ws, hw5, Evl.sz_lt (by omega), m5, r5, F5, ws ++ [v], hr5.sideSet fD5 nD5 (fun b z => by rw [hw5] at z; cases z), (x04.trans hr4.len hr.len x5).sideSet hD0, (pr'.trans x24.pre).trans x5.pre, (sm'.trans x24.sub).trans x5.sub, upd_same, fD5, nD5, ?_, ez⟩
                    rw [List.length_append]; show ws.length + 1 ≤ i + 1; omega
                · cases hy
                  exact he (fun cls d _ G => W cls d σ G) δ1 m3 _ _ ee r4 F4 H4 σ3 hr4 (er3.ext x4) (fun r5 F5 H5 hr5 x5 => q r5 F5 H5 hr5 (x04.trans hr4.len hr.len x5)) _
              | false =>
                rw [if_neg Bool.false_ne_true]
                exact ⟨m3, r4, F4, ws, hr4, x04, pr'.trans x24.pre, sm'.trans x24.sub, hw4, fD4, nD4, by omega, ev2⟩
          · cases ev
        · have hi' : i = wk.xs.length := by omega
          subst hi'
          rw [List.drop_length] at ev
          unfold lcMX at ev
          split at ev <;> cases ev
    · cases e2
  · exact fun q Q => hw δ m _ _ e1 r F H σ hr er q _
end
/-! what a text reads as, to the sign: numbers, spans -/

def noV (l : List Nat) : Option Int := if isNo l = true then intText? (tx l) else none
theorem noV_no {l : List Nat} (h : isNo l = false) : noV l = none := by unfold noV; rw [h]; rfl
theorem noV_yes {l : List Nat} (h : isNo l = true) : ∃ i, noV l = some i ∧ -1000000000000 < i ∧ i < 1000000000000 ∧ l = numZ i := by
  obtain ⟨i, h1, h2, rfl⟩ := isNo_num h
  exact ⟨i, by unfold noV; rw [h]; exact int_read h1 h2, h1, h2, rfl⟩
theorem noV_some {l : List Nat} {i : Int} (h : noV l = some i) : -1000000000000 < i ∧ i < 1000000000000 ∧ l = numZ i ∧ isNo l = true := by
  cases q : isNo l with
  | false => rw [noV_no q] at h; cases h
  | true =>
    obtain ⟨j, e, h1, h2, h3⟩ := noV_yes q
    rw [e] at h; cases h
    exact ⟨h1, h2, h3, rfl⟩
theorem noV_nil : noV [] = none := noV_no (by decide +kernel)
theorem noV_dot {l : List Nat} (h : 46 ∈ l) : noV l = none := by
  cases q : noV l with
  | none => rfl
  | some i =>
    obtain ⟨_, _, e, _⟩ := noV_some q
    rw [e] at h
    exact absurd h (numZ_free (by decide) (.inl (by decide)))
theorem mustF (m : Store) : f_must [.bl false] m = some (.ex "NoText", m) := by
  unfold f_must e_must
  simp! only [Bool.false_eq_true, cut_same]
theorem read_number_eq {l : List Nat} (hl : l.length < 90000) (m : Store) : f_read_number [.str (tx l)] m = match noV l with
  | some i => ret (.pl (.int i)) m
  | none => some (.ex "NoText", m) := by
  unfold f_read_number e_read_number
  cases q : isNo l with
  | false =>
    rw [noV_no q]
    simp! only [is_number_eq hl m, q, mustF, cut_same]
  | true =>
    obtain ⟨i, e, h1, h2, h3⟩ := noV_yes q
    have zl := numZ_len h1 h2
    rw [← h3] at zl
    have zl2 : (tx l).length ≤ 640 := by rw [tx_len]; omega
    have ir : intText? (tx l) = some i := by rw [h3]; exact int_read h1 h2
    rw [e]
    simp! only [is_number_eq hl m, q, must_ok, pIntS, zl2, ir]
/-- cut at the first two points -/
def dots (l : List Nat) : Option (List Nat × List Nat) := TL.par [46, 46] [] l
theorem dd_tl : TL.tl (".." : Str) = [46, 46] := by decide +kernel
theorem par_mem : ∀ {l acc a b : List Nat}, TL.par [46, 46] acc l = some (a, b) → a.length + 2 + b.length = acc.length + l.length ∧ ∀ c ∈ a ++ b, c ∈ acc ++ l
  | [], acc, a, b, h => by cases h
  | c :: r, acc, a, b, h => by
    cases q : TL.pre [46, 46] (c :: r) with
    | true =>
      rw [TL.par_hit q] at h
      cases h
      have q' : (c :: r).take 2 = [46, 46] := by
        have : ((c :: r).take 2 == [46, 46]) = true := q
        exact eq_of_beq this
      have l2 := congrArg List.length q'
      rw [List.length_take] at l2
      simp only [List.length_cons, List.length_nil] at l2
      refine ⟨?_, fun x hx => ?_⟩
      · rw [List.length_drop]
        simp only [List.length_cons, List.length_nil]
        omega
      · rcases List.mem_append.mp hx with h1 | h1
        · exact List.mem_append_left _ h1
        · exact List.mem_append_right _ (List.mem_of_mem_drop h1)
    | false =>
      rw [TL.par_miss q] at h
      obtain ⟨h1, h2⟩ := par_mem h
      rw [List.length_append] at h1
      refine ⟨by simp only [List.length_cons, List.length_nil] at h1 ⊢; omega, fun x hx => ?_⟩
      have := h2 x hx
      simpa using this
theorem dots_len {l a b : List Nat} (h : dots l = some (a, b)) : a.length + 2 + b.length = l.length := by
  have := (par_mem h).1
  simpa using this
theorem spl_par : ∀ {l acc : List Nat}, TL.spl [46, 46] 0 acc l = match TL.par [46, 46] acc l with
    | some (a, b) => a :: TL.spl [46, 46] 0 [] b
    | none => [acc ++ l]
  | [], acc => by
    rw [TL.spl_nil]
    show _ = [acc ++ []]
    rw [List.append_nil]
  | c :: r, acc => by
    cases q : TL.pre [46, 46] (c :: r) with
    | true =>
      rw [TL.spl_hit q, TL.par_hit q, TL.spl_pass]
      rfl
    | false =>
      rw [TL.spl_miss q, TL.par_miss q, spl_par (l := r) (acc := acc ++ [c])]
      cases TL.par [46, 46] (acc ++ [c]) r with
      | none => simp
      | some p => rfl
theorem par_dot : ∀ {l acc a b : List Nat}, TL.par [46, 46] acc l = some (a, b) → 46 ∈ l
  | [], acc, a, b, h => by cases h
  | c :: r, acc, a, b, h => by
    cases q : TL.pre [46, 46] (c :: r) with
    | true =>
      have q' : (c :: r).take 2 = [46, 46] := by
        have : ((c :: r).take 2 == [46, 46]) = true := q
        exact eq_of_beq this
      have : 46 ∈ (c :: r).take 2 := by rw [q']; simp
      exact List.mem_of_mem_take this
    | false =>
      rw [TL.par_miss q] at h
      exact List.mem_cons_of_mem _ (par_dot h)
theorem part_dots (l : List Nat) : Txt.partition (tx l) (".." : Str) = match dots l with
    | some (a, b) => (tx a, (".." : Str), tx b)
    | none => (tx l, (tx [] : Str), tx []) := by
  have := TL.partition_par (tx l) (".." : Str) (by rw [dd_tl]; simp)
  rw [dd_tl] at this
  unfold dots
  rw [show TL.tl (tx l) = l from rfl] at this
  cases q : TL.par [46, 46] [] l with
  | none =>
    rw [q] at this
    exact this
  | some p =>
    obtain ⟨a, b⟩ := p
    rw [q] at this
    exact this
theorem split_dots (l : List Nat) : Txt.split (tx l) (".." : Str) = match dots l with
    | some (a, b) => tx a :: (TL.spl [46, 46] 0 [] b).map tx
    | none => [tx l] := by
  have h := TL.split_spl (tx l) (".." : Str) (by rw [dd_tl]; simp) (TL.kind_ok (by decide +kernel))
  rw [dd_tl, show TL.tl (tx l) = l from rfl, spl_par] at h
  refine TL.map_tl_inj (h.trans ?_)
  unfold dots
  cases q : TL.par [46, 46] [] l with
  | none => rfl
  | some p =>
    obtain ⟨a, b⟩ := p
    show a :: _ = a :: _
    congr 1
    rw [List.map_map]
    exact (List.map_id _).symm
/-- the span of a text -/
def spV (l : List Nat) : Option Sp2 := match dots l with
  | some (a, b) => match noV a, noV b with
    | some i, some j => if i < j then some (i, j) else none
    | _, _ => none
  | none => none
theorem spV_some {l : List Nat} {s : Sp2} (h : spV l = some s) : isSpan s = true ∧ l.length ≤ 28 := by
  unfold spV at h
  cases q : dots l with
  | none => rw [q] at h; cases h
  | some p =>
    obtain ⟨a, b⟩ := p
    rw [q] at h
    dsimp only at h
    cases q1 : noV a with
    | none => rw [q1] at h; cases h
    | some i =>
      cases q2 : noV b with
      | none => rw [q1, q2] at h; cases h
      | some j =>
        rw [q1, q2] at h
        dsimp only at h
        split at h
        · rename_i hij
          cases h
          obtain ⟨i1, i2, i3, _⟩ := noV_some q1
          obtain ⟨j1, j2, j3, _⟩ := noV_some q2
          have l1 := numZ_len i1 i2
          have l2 := numZ_len j1 j2
          rw [← i3] at l1
          rw [← j3] at l2
          have := dots_len q
          exact ⟨good_iff.mpr ⟨i1, hij, j2⟩, by omega⟩
        · cases h
theorem read_span_eq {l : List Nat} (hl : l.length < 90000) (m : Store) : f_read_span [.str (tx l)] m = match spV l with
    | some s => ret (.pl (eS s)) m
    | none => some (.ex "NoText", m) := by
  have sl2 : (tx l).length ≤ 90000 := by rw [tx_len]; omega
  have d2 : ((".." : Str).length == 0) = false := by decide +kernel
  have pd := part_dots l
  unfold f_read_span e_read_span
  cases q : dots l with
  | none =>
    have e : spV l = none := by unfold spV; rw [q]
    rw [q] at pd
    rw [e]
    have r1 := read_number_eq hl m
    have r2 := read_number_eq (l := []) (by simp) m
    rw [noV_nil] at r2
    cases q1 : noV l with
    | none =>
      rw [q1] at r1
      simp! only [ePart, eM1, d2, sl2, and_self, if_true, pd, r1, cut_same]
    | some i =>
      rw [q1] at r1
      simp! only [ePart, eM1, d2, sl2, and_self, if_true, pd, r1, r2, cut_same]
  | some p =>
    obtain ⟨a, b⟩ := p
    rw [q] at pd
    have dl := dots_len q
    have r1 := read_number_eq (l := a) (by omega) m
    have r2 := read_number_eq (l := b) (by omega) m
    have e : spV l = match noV a, noV b with
      | some i, some j => if i < j then some (i, j) else none
      | _, _ => none := by unfold spV; rw [q]
    rw [e]
    cases q1 : noV a with
    | none =>
      rw [q1] at r1
      simp! only [ePart, eM1, d2, sl2, and_self, if_true, pd, r1, cut_same]
    | some i =>
      rw [q1] at r1
      cases q2 : noV b with
      | none =>
        rw [q2] at r2
        simp! only [ePart, eM1, d2, sl2, and_self, if_true, pd, r1, r2, cut_same]
      | some j =>
        rw [q2] at r2
        obtain ⟨i1, i2, _, _⟩ := noV_some q1
        obtain ⟨j1, j2, _, _⟩ := noV_some q2
        have is := is_span_eq (s := (i, j)) (m := m)
        have e2 : D.tup [.int i, .int j] = eS (i, j) := rfl
        by_cases hij : i < j
        · have g : isSpan (i, j) = true := good_iff.mpr ⟨i1, hij, j2⟩
          rw [g] at is
          simp! only [ePart, eM1, d2, sl2, and_self, if_true, pd, r1, r2, e2, is, must_ok, hij]
        · have g : isSpan (i, j) = false := by
            cases z : isSpan (i, j) with
            | false => rfl
            | true => exact absurd (good_iff.mp z).2.1 hij
          rw [g] at is
          simp! only [ePart, eM1, d2, sl2, and_self, if_true, pd, r1, r2, e2, is, mustF, hij, if_false, cut_same]
/-! try: .. except X: raise Y(..) from None -/
section
open PySem PySem.Spec PyProof.Rows L2
section
variable {X : Cx} {ns : List Str} {W : WX} {x msg : Str} {k j : Nat} {p p2 pos pos2 cpos : Pos}
theorem pmk5_k (c : XCls X.K ns x) (m : X.mg x = some (.ref (ga X.K x))) (hg : Gl X x) (hdb : (x == ("__debug__" : Str)) = false := by decide) : L2H.PMk5 X (.Call (.Name x p) [.Constant (.str msg) k p2] [] pos) (fun _ H Q => Q (.ref (ga X.K x)) none H) := by
  intro pins s σ H Q I q
  refine wpAny_Call_Name_kw (ld_glob I hg m ?_ hdb)
  have one : PA X [.Constant (.str msg) k p2] (tCons (tC (.str msg)) tNil) := pa_cons pe_str pa_nil
  refine PySem.W.callWith_K (h₀ := X.base) I.ok.mod.kin c.kp (thn (one.run pos pins s σ H (fun vs G => vs = [V.str msg] ∧ H = G) I ⟨rfl, rfl⟩) fun us t z => ?_)
  obtain ⟨vs, G, J, r, ev, eH⟩ := z
  subst ev
  rw [← eH] at J
  refine ⟨J.kIn, ?_⟩
  cases r with
  | cons ru rn =>
    rename_i u us'
    cases rn
    show wpAny _ _ (call (.ref (ga X.K x)) [u]) _ _ _
    obtain ⟨bm, N, nm, qn, bs, hdct, sn, sub, ab, col, dd, k0, k1, k2, k3, k5, mN, hC, hN, hni, T⟩ := exc_obj J.kIn c.ex
    refine wpAny_call_exc_subT PySem.F.excBase_ValueError T hC hN hni (fun g e hm => ?_) (by show 1 ≤ sizeLine; rw [sizeLine_eq]; omega)
    exact L2H.mk_of5 J hm (raises_own c.sb c.ty) q (J.hok.gone hm.new)
theorem ps_raiseKH (c : XCls X.K ns x) (m : X.mg x = some (.ref (ga X.K x))) (hot : L2H.HotC X) (tk : L2.Takes X W) (hg : Gl X x) (hdb : (x == ("__debug__" : Str)) = false := by decide) :
    PS X (.Raise (some (.Call (.Name x p) [.Constant (.str msg) k p2] [] pos)) (some (.Constant .none j cpos)) pos2) (tRaise W (.ref (ga X.K x))) := L2H.ps_raiseHN hot tk (pmk5_k c m hg hdb)
theorem ps_raiseKN (c : XCls X.K ns x) (m : X.mg x = some (.ref (ga X.K x))) (hc : X.calm = true) (tk : L2N.Takes X W) (hg : Gl X x) (hdb : (x == ("__debug__" : Str)) = false := by decide) :
    PS X (.Raise (some (.Call (.Name x p) [.Constant (.str msg) k p2] [] pos)) none pos2) (tRaise W (.ref (ga X.K x))) := L2N.ps_raise hc tk (L2N.pmk_own PySem.F.excBase_ValueError c.ex m c.kp (raises_own c.sb c.ty) hg hdb)
end
/-- a def whose errors have no context -/
def CalN (P : Program) (w : World) (K : PySem.W.Frag) (mg : Str → Option Value) (base : Heap) (x : Str) (k : Nat) (ps : List Str) (f : FnS) : Prop :=
  ∃ fd, FnOk P w K mg base (L2N.CX P w) k (He.ga K x) fd ps (spF K f) ∧ Binds K fd ps [] ∧ PySem.W.keepIn K (.ref (He.ga K x)) = true ∧ mg x = some (.ref (He.ga K x))
theorem pc_ownN {X : Cx} {ps : List Str} {f : FnS} {x : Str} {p pos : Pos} {e : Expr} {es : List Expr} {t : TA} {j : Nat} {W : WX} (C : CalN X.prog X.w X.K X.mg X.base x j ps f) (tk : L2N.Takes X W) (hr : Room j X.A) (hg : Gl X x) (ha : PA X (e :: es) t) (hdb : (x == ("__debug__" : Str)) = false := by decide)
    (he : starEach (e :: es) X.env = (false, eval e X.env) :: starEach es X.env := by rfl) (hpl : (backTo pos (starEach es X.env)).any (·.1) = false := by rfl) : PE X (.Call (.Name x p) (e :: es) [] pos) (tCallS (spF X.K f) (WE W) t) := by
  obtain ⟨fd, F, b, kp, m⟩ := C
  exact pe_callS F hr hg m kp b (fun σ => L2N.passAt tk σ) ha hdb he hpl
def tTryR (K : PySem.W.Frag) (c : Value) (tb : WX → TS) (ts : TS) (Wout : WX) : TS := fun D σ H => tb (wOnly K c (fun _ _ _ => ts) Wout D) D σ H
def sTryR (c : Str) (b h : MS) : MS := fun δ m => match b δ m with
  | some (.ex x δ1 m1) => if x = c then h δ1 m1 else none
  | o => o
theorem ss_tryR {K : PySem.W.Frag} {c : Str} {t u : WX → TS} {b h : MS} (hc : PySem.W.exmOne K (.ref (ga K c)) (.ref (ga K c)) = some true) (hb : SS K t b) (hh : SS K u h) : SS K (fun W => tTryR K (.ref (ga K c)) t (u W) W) (sTryR c b h) := fun W δ m o q => by
  unfold sTryR at q
  cases hq : b δ m with
  | none => rw [hq] at q; cases q
  | some o1 =>
    rw [hq] at q
    cases o1 with
    | ex x δ1 m1 =>
      dsimp only at q
      split at q
      · rename_i hx
        subst hx
        exact fun r F H σ D hr er k => hb _ δ m _ hq r F H σ D hr er fun σ1 r1 F1 H1 hr1 er1 x1 => ⟨true, hc, fun _ a na => hh W δ1 m1 o q r1 F1 H1 σ1 D hr1 er1 (k.ext hr.len hr1.len x1), fun z => nomatch z⟩
      · cases q
    | nx δ1 m1 => cases q; exact fun r F H σ D hr er k => hb _ δ m _ hq r F H σ D hr er k
    | rt d m1 => cases q; exact fun r F H σ D hr er k => hb _ δ m _ hq r F H σ D hr er k
    | bk δ1 m1 => cases q; exact fun r F H σ D hr er k => hb _ δ m _ hq r F H σ D hr er k
    | ct δ1 m1 => cases q; exact fun r F H σ D hr er k => hb _ δ m _ hq r F H σ D hr er k
end
noncomputable def e_read_cover_2 : MS :=
  (sSeq (sIf (tst (eOp pEq (eVar 0) (eC (.str "")))) (sRet (cel (fLst aNil))) sNext)
    (sSeq (sSet 2 (cel (fLcX (wList (dat (fSplit (eVar 0) (eC (.str " "))))) (mName 1) mYes (pla (fCall f_read_span (aCons (eVar 1) aNil))) [1])))
    (sSeq (sTryR "NoCover" (sExpr (pla (fCall f_must_cover (aCons (eVar 2) aNil)))) (sRaise "NoText"))
    (sRet (eVar 2)))))
noncomputable def f_read_cover_2 : FnS := fnOf 1 3 e_read_cover_2
def allO {α : Type} : List (Option α) → Option (List α)
  | [] => some []
  | none :: _ => none
  | some a :: r => (allO r).map fun l => a :: l
theorem allO_mem {α β : Type} {f : α → Option β} : ∀ {l : List α} {r : List β}, allO (l.map f) = some r → r.length = l.length ∧ ∀ b ∈ r, ∃ a ∈ l, f a = some b
  | [], r, h => by cases h; exact ⟨rfl, fun b hb => nomatch hb⟩
  | a :: l, r, h => by
    rw [List.map_cons] at h
    cases q : f a with
    | none => rw [q] at h; cases h
    | some b =>
      rw [q] at h
      have h : (allO (l.map f)).map (fun l => b :: l) = some r := h
      cases q2 : allO (l.map f) with
      | none => rw [q2] at h; cases h
      | some r' =>
        rw [q2] at h; cases h
        obtain ⟨h1, h2⟩ := allO_mem q2
        refine ⟨by rw [List.length_cons, List.length_cons, h1], fun c hc => ?_⟩
        rcases List.mem_cons.mp hc with rfl | hc
        · exact ⟨a, List.mem_cons_self, q⟩
        · obtain ⟨z, hz, e⟩ := h2 c hc
          exact ⟨z, List.mem_cons_of_mem _ hz, e⟩
abbrev spW (w : Str) : Option Sp2 := spV w.cps.toList
/-- the cover of a text -/
def cvV (l : List Nat) : Option (List Sp2) := if l = [] then some [] else (allO ((Txt.split (tx l) (" " : Str)).map spW)).bind fun ss => if isCover ss = true then some ss else none
theorem lcX_span {c : Store → Prop} {m : Store} (hc : c m) {d : D} : ∀ {W : List Str}, (∀ w ∈ W, w.length ≤ 80000) →
    lcMX (mName 1) mYes (pla (fCall f_read_span (aCons (eVar 1) aNil))) c [some d, none, none] (W.map D.str) m = match allO (W.map spW) with
      | some ss => ret (ss.map eS) m
      | none => some (.ex "NoText", m)
  | [], _ => by
    rw [List.map_nil, lcMX, if_pos hc]
    rfl
  | w :: W, h => by
    have ih := lcX_span hc (d := d) (W := W) fun z hz => h z (List.mem_cons_of_mem _ hz)
    have hw := h w List.mem_cons_self
    have e : f_read_span [.str w] m = match spW w with
      | some s => ret (.pl (eS s)) m
      | none => some (.ex "NoText", m) := by
      have lw : w.cps.toList.length = w.length := by show _ = w.cps.size; simp
      have := read_span_eq (l := w.cps.toList) (by rw [lw]; omega) m
      rw [tx_of] at this
      exact this
    have el : pla (fCall f_read_span (aCons (eVar 1) aNil)) [some d, some (.str w), none] m = match spW w with
      | some s => ret (eS s) m
      | none => some (.ex "NoText", m) := by
      cases q : spW w with
      | some s => rw [q] at e; simp! only [e]
      | none => rw [q] at e; simp! only [e]
    rw [List.map_cons, List.map_cons]
    unfold lcMX
    rw [if_pos hc, show mName 1 (D.str w) [some d, none, none] = some [some d, some (.str w), none] from rfl]
    simp only [Option.bind_some]
    rw [show mYes [some d, some (.str w), none] m = some (.ok true, m) from rfl, sure_ok]
    dsimp only [cond]
    rw [el]
    cases q : spW w with
    | none => rfl
    | some s =>
      dsimp only
      rw [show ret (eS s) m = some (.ok (eS s), m) from rfl, bind_ok, ih]
      rw [show allO (some s :: W.map spW) = (allO (W.map spW)).map (fun l => s :: l) from rfl]
      cases allO (W.map spW) with
      | none => rfl
      | some ss => rfl
theorem read_cover_2_eq {l : List Nat} (hl : l.length ≤ 80000) (m : Store) : f_read_cover_2 [.str (tx l)] m = match cvV l with
    | some ss => ret (.own (ss.map eS)) m
    | none => some (.ex "NoText", m) := by
  have cl2 : (tx l).length ≤ 90000 := by rw [tx_len]; omega
  have d1 : ((" " : Str).length == 0) = false := by decide +kernel
  have e0 : ("" : Str) = tx [] := by decide +kernel
  by_cases h0 : l = []
  · have e : cvV l = some [] := by unfold cvV; rw [if_pos h0]
    have de : decide (tx l = ("" : Str)) = true := by rw [h0, e0]; exact decide_eq_true rfl
    rw [e]
    apply eq_of_wp
    unfold f_read_cover_2 e_read_cover_2
    refine wp_fnI rfl ?_
    refine ws_stop (d := .cell m.length) (m' := m ++ [.lst []]) ?_ ?_
    · simp! only [pEq, de]
    · simp_arith only []
      rw [fin_own0 rfl]
      exact ⟨rfl, rfl⟩
  · have de : decide (tx l = ("" : Str)) = false := by rw [e0]; exact decide_eq_false fun z => h0 (tx_inj z)
    obtain ⟨w0, rest, hs, hw, hr⟩ := words_facts (tx l)
    obtain ⟨W, hW⟩ : ∃ W, W = Txt.split (tx l) (" " : Str) := ⟨_, rfl⟩
    have n1 : W.length < 100000 := by rw [hW, hs, List.length_cons]; rw [tx_len] at hr; omega
    have hw' : ∀ w ∈ W, w.length ≤ 80000 := fun w h => by
      rw [hW, hs] at h
      have := (hw w h).1
      rw [tx_len] at this
      omega
    have e : cvV l = (allO (W.map spW)).bind fun ss => if isCover ss = true then some ss else none := by unfold cvV; rw [if_neg h0, hW]
    have lc := lcX_span (c := (Wk.mk (W.map D.str) []).chk) (m := m) chk_nil (d := .str (tx l)) hw'
    rw [e]
    cases q : allO (W.map spW) with
    | none =>
      rw [q] at lc
      apply eq_of_wp
      unfold f_read_cover_2 e_read_cover_2
      refine wp_fnI rfl ?_
      refine ws_step (δ' := [some (.str (tx l)), none, none]) (m' := m) ?_ ?_
      · simp! only [pEq, de]
      refine ws_last (o := .ex "NoText" [some (.str (tx l)), none, none] m) ?_ ?_
      · simp! only [fLcX, fSplit, eM1, d1, cl2, and_self, if_true, ← hW, srcOf_lst, List.length_map, n1, wipeE, lc]
      · simp_arith only []
        trivial
    | some ss =>
      rw [q] at lc
      obtain ⟨sl, sm⟩ := allO_mem q
      have all : ss.all isSpan = true := List.all_eq_true.mpr fun s hs => by
        obtain ⟨w, _, ew⟩ := sm s hs
        exact (spV_some ew).1
      have g0 : (m ++ [Cell.lst (ss.map eS)])[m.length]? = some (.lst (ss.map eS)) := app_get
      have mc := must_cover_eq (m := m ++ [Cell.lst (ss.map eS)]) (d := .cell m.length) (c := ss) (.cell g0)
      rw [if_pos all] at mc
      have st1 : wp (f_read_cover_2 [.str (tx l)] m) (fun r m' => r = (if isCover ss = true then .ok (.own (ss.map eS)) else .ex "NoText") ∧ m' = m) := by
        unfold f_read_cover_2 e_read_cover_2
        refine wp_fnI rfl ?_
        refine ws_step (δ' := [some (.str (tx l)), none, none]) (m' := m) ?_ ?_
        · simp! only [pEq, de]
        refine ws_step (δ' := [some (.str (tx l)), none, some (.cell m.length)]) (m' := m ++ [.lst (ss.map eS)]) ?_ ?_
        · simp! only [fLcX, fSplit, eM1, d1, cl2, and_self, if_true, ← hW, srcOf_lst, List.length_map, n1, wipeE, lc]
        cases q2 : isCover ss with
        | true =>
          rw [q2, if_pos rfl] at mc
          refine ws_step (δ' := [some (.str (tx l)), none, some (.cell m.length)]) (m' := m ++ [.lst (ss.map eS)]) ?_ ?_
          · simp! only [sTryR, mc]
          · simp_arith only []
            rw [fin_own0 (unds_eS _ _)]
            exact ⟨by trivial, by trivial⟩
        | false =>
          rw [q2, if_neg Bool.false_ne_true] at mc
          refine ws_last (o := .ex "NoText" [some (.str (tx l)), none, some (.cell m.length)] (m ++ [.lst (ss.map eS)])) ?_ ?_
          · simp! only [sTryR, mc, if_true]
          · simp_arith only [cut_app (m := m) (m0 := m) rfl (Tidy.refl m), Option.map_some, Bool.false_eq_true, if_false]
            exact ⟨by trivial, by trivial⟩
      rw [eq_of_wp st1]
      simp only [Option.bind_some]
      cases isCover ss <;> rfl
noncomputable def e_Shelf___init__ : MS :=
  (sSeq (sFldI "Shelf" "kept" eDNew (eVar 0))
    (sSeq (sFldI "Shelf" "behind" (cel (fLst aNil)) (eVar 0))
    (sFldI "Shelf" "ahead" (cel (fLst aNil)) (eVar 0))))
noncomputable def f_Shelf___init__ : FnS := fnA 1 1 e_Shelf___init__
theorem sh0 {x : D} : putFD "kept" x [] = ([("kept", x)] : List (Str × D)) := rfl
theorem sh1 {a x : D} : putFD "behind" x [("kept", a)] = ([("kept", a), ("behind", x)] : List (Str × D)) := rfl
theorem sh2 {a b x : D} : putFD "ahead" x [("kept", a), ("behind", b)] = ([("kept", a), ("behind", b), ("ahead", x)] : List (Str × D)) := rfl
theorem Shelf___init___eq {m : Store} : f_Shelf___init__ [.cell m.length] (m ++ [.ins "Shelf" []]) = ret (.pl .non) (m ++ [.ins "Shelf" (shF (m.length + 1) (m.length + 2) (m.length + 3)), .dK (encV []), .lst [], .lst []]) := by
  apply eq_of_wp
  unfold f_Shelf___init__ e_Shelf___init__
  refine wp_fnA rfl ?_
  have c0 : ∀ fs l, cellI (m ++ .ins "Shelf" fs :: l) "Shelf" (.cell m.length) = some (m.length, fs) := fun fs l => cellI_sh (by simp)
  have s0 : ∀ c c' (l : Store), (m ++ c :: l).set m.length c' = m ++ c' :: l := fun c c' l => by simp
  apply ws_step (δ' := [some (.cell m.length)]) (m' := m ++ [.ins "Shelf" [("kept", .cell (m.length + 1))], .dK []])
  · simp! only [sFldI, eDNew, List.append_assoc, List.cons_append, List.nil_append, c0, sh0, s0, List.length_append]
  apply ws_step (δ' := [some (.cell m.length)]) (m' := m ++ [.ins "Shelf" [("kept", .cell (m.length + 1)), ("behind", .cell (m.length + 2))], .dK [], .lst []])
  · simp! only [sFldI, List.append_assoc, List.cons_append, List.nil_append, c0, sh1, s0, List.length_append]
  refine ws_last (o := .nx [some (.cell m.length)] (m ++ [.ins "Shelf" (shF (m.length + 1) (m.length + 2) (m.length + 3)), .dK [], .lst [], .lst []])) ?_ ?_
  · simp! only [sFldI, List.append_assoc, List.cons_append, List.nil_append, c0, sh2, s0, List.length_append]
  simp_arith only [endA_nx]
  exact ⟨by trivial, by trivial⟩
theorem nm_len' {x : Str} (h : isNm x = true) : 1 ≤ x.length ∧ x.length ≤ 8 := by
  unfold isNm at h
  rw [Bool.and_eq_true, Bool.and_eq_true, decide_eq_true_eq, decide_eq_true_eq] at h
  exact h.1
noncomputable def e_read_shelf : MS :=
  (sSeq (sSet 1 (eMake "Shelf" f_Shelf___init__ aNil))
    (sSeq (sSet 2 (eC (.str "")))
    (sSeq (sFor (wList (dat (fSl (dat (fSplit (eVar 0) (eC (.str "\n")))) (oSome (eCB pInt1 (aCons (eOp pEq (eVar 0) (eC (.str ""))) aNil))) oNone))) (mName 3)
    (sSeq (sSet 4 (dat (fSplit (eVar 3) (eC (.str " ")))))
    (sSeq (sExpr (pla (fCall f_must (aCons (eAnd (eOp pEq (eCB pLen (aCons (eVar 4) aNil)) (eC (.int 3))) (eAnd (pla (fCall0 f_is_name (aCons (eOp pIxL (eVar 4) (eC (.int 0))) aNil))) (eOp pGtS (eOp pIxL (eVar 4) (eC (.int 0))) (eVar 2)))) aNil))))
    (sSeq (sSet 2 (eOp pIxL (eVar 4) (eC (.int 0))))
    (sSeq (sSet 5 (pla (fCall f_read_number (aCons (eOp pIxL (eVar 4) (eC (.int 2))) aNil))))
    (sSeq (sExpr (pla (fCall f_must (aCons (eChain pLe pLe (eC (.int 0)) (eVar 5) (eC (.int 1000000000))) aNil))))
    (sSeq (sDPutI (eTup (aCons (pla (fCall f_read_span (aCons (eOp pIxL (eVar 4) (eC (.int 1))) aNil))) (aCons (eVar 5) aNil))) (eFld "Shelf" "kept" (eVar 1)) (eVar 2))
    (sExpr (pla (fCall f_must (aCons (eOp pLe (eCB pLenD (aCons (eFld "Shelf" "kept" (eVar 1)) aNil)) (eC (.int 60))) aNil)))))))))))
    (sRet (eVar 1)))))
noncomputable def f_read_shelf : FnS := fnA 1 6 e_read_shelf
def ent8 (kv : Kv) (x : Str) : Str × Ent := (x, (spanV kv x, wtV kv x))
theorem lt_txt {y x : Str} (h : leS y x) (ne : y ≠ x) : decide (y.cps.toList < x.cps.toList) = true := by
  cases hd : decide (y.cps.toList < x.cps.toList) with
  | true => rfl
  | false =>
    rw [← PyProof.Rows.ltCps_eq] at hd
    exact absurd (leS_anti h hd) ne
theorem nil_txt {x : Str} (h : 1 ≤ x.length) : decide ((("" : Str)).cps.toList < x.cps.toList) = true := by
  have e : (("" : Str)).cps.toList = [] := by decide +kernel
  rw [e]
  have l : x.length = x.cps.toList.length := TL.len_tl x
  cases hx : x.cps.toList with
  | nil => rw [hx] at l; simp at l; omega
  | cons c r => exact decide_eq_true (List.nil_lt_cons _ _)
theorem split_nil : Txt.split (tx []) ("\n" : Str) = [tx []] := by
  have := TL.split_join (y := ("\n" : Str)) (s := 10) (S := []) (by rw [nl_tx]; rfl) (by decide +kernel) (parts := [tx []]) (by simp) (fun p hp => by cases List.mem_singleton.mp hp; exact fun h => nomatch h)
  have e : Txt.join ("\n" : Str) [tx []] = tx [] := by
    refine TL.ext_tl ?_
    rw [TL.join_eq, TL.tl_join]
    rfl
  rw [e] at this
  exact this
def shN (n : Nat) (kv : Kv) : Store := [.ins "Shelf" (shF (n + 1) (n + 2) (n + 3)), .dK (encV kv), .lst [], .lst []]
theorem shN_sh (m : Store) (kv : Kv) : SH (m ++ shN m.length kv) m.length (m.length + 1) (m.length + 2) (m.length + 3) kv [] [] :=
  ⟨⟨get_app0 _ _, get_app _ _ 1⟩, get_app _ _ 2, get_app _ _ 3, by simp⟩
/-! what a text reads as, to the sign: shelves -/
def ltS (x y : Str) : Bool := decide (x.cps.toList < y.cps.toList)
theorem ltS_trans {x y z : Str} (h1 : ltS x y = true) (h2 : ltS y z = true) : ltS x z = true := by
  unfold ltS at *
  exact decide_eq_true (List.lt_trans (of_decide_eq_true h1) (of_decide_eq_true h2))
theorem ltS_irr (x : Str) : ltS x x = false := by
  unfold ltS
  exact decide_eq_false (List.lt_irrefl _)
theorem ltS_ne {x y : Str} (h : ltS x y = true) : x ≠ y := fun e => by rw [e, ltS_irr] at h; cases h
theorem ltS_leS {x y : Str} (h : ltS x y = true) : leS x y := by
  unfold leS
  rw [PyProof.Rows.ltCps_eq]
  refine decide_eq_false fun z => ?_
  have := ltS_trans h (show ltS y x = true from decide_eq_true z)
  rw [ltS_irr] at this
  cases this
theorem leS_ltS {x y : Str} (h : leS x y) (ne : x ≠ y) : ltS x y = true := lt_txt h ne
abbrev noW (w : Str) : Option Int := noV w.cps.toList
/-- a row's name, span and weight -/
def rwV (row : Str) : Option (Str × Ent) := match Txt.split row (" " : Str) with
  | [a, b, c] => if isNm a = true then match spW b, noW c with
    | some s, some w => if 0 ≤ w ∧ w ≤ 1000000000 then some (a, (s, w)) else none
    | _, _ => none
    else none
  | _ => none
def lastN (kv : Kv) : Str := (kv.map (·.1)).getLast?.getD ""
theorem lastN_snoc (kv : Kv) (e : Str × Ent) : lastN (kv ++ [e]) = e.1 := by unfold lastN; simp
/-- row behind row -/
def goV : Kv → List Str → Option Kv
  | kv, [] => some kv
  | kv, r :: rs => match rwV r with
    | some e => if ltS (lastN kv) e.1 = true ∧ kv.length < 60 then goV (kv ++ [e]) rs else none
    | none => none
def rowsL (l : List Nat) : List Str := if l = [] then [] else Txt.split (tx l) ("\n" : Str)
def shV (l : List Nat) : Option Kv := goV [] (rowsL l)
def RisK (kv : Kv) : Prop := kv.length ≤ 60 ∧ ∀ y ∈ kv.map (·.1), y = lastN kv ∨ ltS y (lastN kv) = true
theorem RisK.nil : RisK [] := ⟨by simp, fun y h => nomatch h⟩
theorem RisK.new {kv : Kv} (h : RisK kv) {x : Str} (hx : ltS (lastN kv) x = true) : x ∉ kv.map (·.1) := fun hm => by
  rcases h.2 x hm with e | e
  · rw [← e, ltS_irr] at hx; cases hx
  · have := ltS_trans e hx
    rw [ltS_irr] at this; cases this
theorem RisK.snoc {kv : Kv} (h : RisK kv) {e : Str × Ent} (hx : ltS (lastN kv) e.1 = true) (hl : kv.length < 60) : RisK (kv ++ [e]) := by
  refine ⟨by rw [List.length_append]; show kv.length + 1 ≤ 60; omega, fun y hy => ?_⟩
  rw [lastN_snoc]
  rw [List.map_append] at hy
  rcases List.mem_append.mp hy with hy | hy
  · rcases h.2 y hy with e | e
    · exact .inr (e ▸ hx)
    · exact .inr (ltS_trans e hx)
  · exact .inl (List.mem_singleton.mp hy)
theorem nl_tl : TL.tl ("\n" : Str) = [10] := by decide +kernel
/-- the rows of a text -/
theorem rows_facts (T : Str) : ∃ w0 rest, Txt.split T ("\n" : Str) = w0 :: rest ∧ (∀ w ∈ w0 :: rest, w.length ≤ T.length ∧ ∀ c ∈ w.cps.toList, c ∈ T.cps.toList) ∧ rest.length ≤ T.length := by
  have h := TL.split_spl T ("\n" : Str) (by rw [nl_tl]; simp) (TL.kind_ok (by decide +kernel))
  rw [nl_tl] at h
  obtain ⟨h1, h2, h3⟩ := spl_facts 10 (TL.tl T) []
  rw [← h] at h1 h2 h3
  have lT : (TL.tl T).length = T.length := by show T.cps.toList.length = T.cps.size; simp
  cases q : Txt.split T ("\n" : Str) with
  | nil => rw [q] at h1; exact absurd rfl h1
  | cons w0 rest =>
    refine ⟨w0, rest, rfl, fun w hw => ?_, ?_⟩
    · obtain ⟨h4, h5⟩ := h2 (TL.tl w) (List.mem_map.mpr ⟨w, by rw [q]; exact hw, rfl⟩)
      have lw : (TL.tl w).length = w.length := by show w.cps.toList.length = w.cps.size; simp
      refine ⟨by rw [lw, lT] at h4; simpa using h4, fun c hc => ?_⟩
      rcases h5 c hc with h6 | h6
      · cases h6
      · exact h6
    · rw [List.length_map, q, lT, List.length_cons] at h3
      omega
theorem rowsL_facts {l : List Nat} : (∀ w ∈ rowsL l, w.length ≤ l.length) ∧ (rowsL l).length ≤ l.length + 1 := by
  by_cases h0 : l = []
  · have e : rowsL l = [] := by unfold rowsL; rw [if_pos h0]
    rw [e]
    exact ⟨fun w h => (nomatch h), by simp⟩
  · obtain ⟨w0, rest, e, h1, h2⟩ := rows_facts (tx l)
    have e : rowsL l = w0 :: rest := by unfold rowsL; rw [if_neg h0, e]
    rw [e]
    rw [tx_len] at h2
    refine ⟨fun w hw => ?_, by rw [List.length_cons]; omega⟩
    have := (h1 w hw).1
    rwa [tx_len] at this
theorem rwV_some {row : Str} {e : Str × Ent} (h : rwV row = some e) : ∃ b c, Txt.split row (" " : Str) = [e.1, b, c] ∧ isNm e.1 = true ∧ spW b = some e.2.1 ∧ noW c = some e.2.2 ∧ 0 ≤ e.2.2 ∧ e.2.2 ≤ 1000000000 := by
  unfold rwV at h
  split at h
  · rename_i a b c hs
    split at h
    · rename_i hn
      cases q1 : spW b with
      | none => rw [q1] at h; cases h
      | some s =>
        cases q2 : noW c with
        | none => rw [q1, q2] at h; cases h
        | some w =>
          rw [q1, q2] at h
          dsimp only at h
          split at h
          · rename_i hw
            cases h
            exact ⟨b, c, hs, hn, q1, q2, hw⟩
          · cases h
    · cases h
  · cases h
theorem read_noW {w : Str} (h : w.length ≤ 80000) (m : Store) : f_read_number [.str w] m = match noW w with
    | some i => ret (.pl (.int i)) m
    | none => some (.ex "NoText", m) := by
  have lw : w.cps.toList.length = w.length := by show _ = w.cps.size; simp
  have := read_number_eq (l := w.cps.toList) (by rw [lw]; omega) m
  rwa [tx_of] at this
theorem read_spW {w : Str} (h : w.length ≤ 80000) (m : Store) : f_read_span [.str w] m = match spW w with
    | some s => ret (.pl (eS s)) m
    | none => some (.ex "NoText", m) := by
  have lw : w.cps.toList.length = w.length := by show _ = w.cps.size; simp
  have := read_span_eq (l := w.cps.toList) (by rw [lw]; omega) m
  rwa [tx_of] at this

theorem read_shelf_eq {m : Store} {l : List Nat} (hl : l.length ≤ 80000) : match shV l with
    | some kv => f_read_shelf [.str (tx l)] m = ret (.pl (.cell m.length)) (m ++ shN m.length kv)
    | none => ∃ kv, f_read_shelf [.str (tx l)] m = some (.ex "NoText", m ++ shN m.length kv) := by
  have sl2 : (tx l).length ≤ 90000 := by rw [tx_len]; omega
  have d1 : (("\n" : Str).length == 0) = false := by decide +kernel
  have d2 : ((" " : Str).length == 0) = false := by decide +kernel
  have e0 : ("" : Str) = tx [] := by decide +kernel
  have ini := Shelf___init___eq (m := m)
  have h4 : m ++ [.ins "Shelf" (shF (m.length + 1) (m.length + 2) (m.length + 3)), .dK (encV []), .lst [], .lst []] = m ++ shN m.length [] := rfl
  obtain ⟨fR, fL⟩ := rowsL_facts (l := l)
  have key : wp (f_read_shelf [.str (tx l)] m) (fun r m' => (∃ kv, shV l = some kv ∧ r = .ok (.pl (.cell m.length)) ∧ m' = m ++ shN m.length kv) ∨ (shV l = none ∧ r = .ex "NoText" ∧ ∃ kv, m' = m ++ shN m.length kv)) := by
    unfold f_read_shelf e_read_shelf
    refine wp_fnA rfl ?_
    refine ws_step (δ' := [some (.str (tx l)), some (.cell m.length), none, none, none, none]) (m' := m ++ shN m.length []) ?_ ?_
    · rw [← h4]
      simp! only [eMake, ini]
    refine ws_step (δ' := [some (.str (tx l)), some (.cell m.length), some (.str ""), none, none, none]) (m' := m ++ shN m.length []) ?_ ?_
    · simp! only []
    rw [ws_seq]
    refine ws_mono (R := fun o => (∃ kv z2 z3 z4 z5, shV l = some kv ∧ o = .nx [some (.str (tx l)), some (.cell m.length), z2, z3, z4, z5] (m ++ shN m.length kv)) ∨ (shV l = none ∧ ∃ kv δ, o = .ex "NoText" δ (m ++ shN m.length kv))) ?_ ?_
    · refine ws_forS (wk := ⟨(rowsL l).map D.str, []⟩) (m' := m ++ shN m.length []) ?_ ?_
      · by_cases h0 : l = []
        · have de : decide (tx l = ("" : Str)) = true := by rw [h0, e0]; exact decide_eq_true rfl
          have sp : Txt.split (tx l) ("\n" : Str) = [tx []] := by rw [h0]; exact split_nil
          have ct : cutD [D.str (tx [])] (some (1 : Int)) none = [] := cut_from (xs := [D.str (tx [])]) (j := 1)
          have er : rowsL l = [] := by unfold rowsL; rw [if_pos h0]
          simp! only [fSplit, eM1, d1, sl2, and_self, if_true, sp, pEq, de, pInt1, ct, srcOf_lst, er]
        · have de : decide (tx l = ("" : Str)) = false := by rw [e0]; exact decide_eq_false fun z => h0 (tx_inj z)
          have er : Txt.split (tx l) ("\n" : Str) = rowsL l := by unfold rowsL; rw [if_neg h0]
          have ct : cutD ((rowsL l).map D.str) (some (0 : Int)) none = (rowsL l).map D.str := cut_from (xs := (rowsL l).map D.str) (j := 0)
          have pi : pInt1 [.bl false] (m ++ shN m.length []) = ret (.int 0) (m ++ shN m.length []) := rfl
          simp! only [fSplit, eM1, d1, sl2, and_self, if_true, er, pEq, de, pi, ct, srcOf_lst]
      refine ws_forT (en := D.str) (I := fun rs δ m' => ∃ (kv : Kv) (z3 z4 z5 : Option D), (∀ r ∈ rs, r.length ≤ 80000) ∧ goV kv rs = shV l ∧ RisK kv ∧ m' = m ++ shN m.length kv ∧ δ = [some (.str (tx l)), some (.cell m.length), some (.str (lastN kv)), z3, z4, z5]) (fun _ _ _ _ => chk_nil) ?_ ?_ ⟨[], none, none, none, fun r hr => by have := fR r hr; omega, rfl, RisK.nil, rfl, rfl⟩
      · rintro δ m' ⟨kv, z3, z4, z5, _, hg, _, rfl, rfl⟩
        exact .inl ⟨kv, _, _, _, _, hg.symm, rfl⟩
      rintro row rs δ m' ⟨kv, z3, z4, z5, hr, hg, ris, rfl, rfl⟩
      have hrow := hr row List.mem_cons_self
      obtain ⟨last, hla⟩ : ∃ last, last = lastN kv := ⟨_, rfl⟩
      obtain ⟨M, hM⟩ : ∃ M, M = m ++ shN m.length kv := ⟨_, rfl⟩
      have sh : SH M m.length (m.length + 1) (m.length + 2) (m.length + 3) kv [] [] := by rw [hM]; exact shN_sh m _
      obtain ⟨w0, rest, hs, hw, _⟩ := words_facts row
      obtain ⟨W, hW⟩ : ∃ W, W = Txt.split row (" " : Str) := ⟨_, rfl⟩
      have rl2 : row.length ≤ 90000 := by omega
      have hw' : ∀ w ∈ W, w.length ≤ 80000 := fun w h => by
        rw [hW, hs] at h
        have := (hw w h).1
        omega
      have fail : rwV row = none → shV l = none := fun e => by rw [← hg]; unfold goV; rw [e]
      rw [← hla, ← hM]
      refine ⟨[some (.str (tx l)), some (.cell m.length), some (.str last), some (.str row), z4, z5], rfl, ?_⟩
      refine ws_step (δ' := [some (.str (tx l)), some (.cell m.length), some (.str last), some (.str row), some (.lst (W.map D.str)), z5]) (m' := M) ?_ ?_
      · simp! only [fSplit, eM1, d2, rl2, and_self, if_true, ← hW]
      -- three words
      have three : (∃ a b c, W = [a, b, c]) ∨ ((W.length : Int) = 3) = False := by
        by_cases h3 : W.length = 3
        · match W, h3 with
          | [a, b, c], _ => exact .inl ⟨a, b, c, rfl⟩
        · exact .inr (eq_false (by omega))
      rcases three.symm with n3 | ⟨a, b, c, e3⟩
      · have rn : rwV row = none := by
          unfold rwV
          rw [← hW]
          split
          · exact (of_eq_false n3 rfl).elim
          · rfl
        refine ws_last (o := .ex "NoText" [some (.str (tx l)), some (.cell m.length), some (.str last), some (.str row), some (.lst (W.map D.str)), z5] M) ?_ (.inr ⟨fail rn, kv, _, by rw [hM]⟩)
        simp! only [List.length_map, n3, decide_false, mustF]
      subst e3
      have la := hw' a (by simp)
      have lb := hw' b (by simp)
      have lc := hw' c (by simp)
      have isn := is_name_eq (m := M) (show a.length ≤ 90000 by omega)
      have rb := read_spW lb M
      have rc := read_noW lc M
      have d33 : decide (((3 : Nat) : Int) = 3) = true := rfl
      have er : rwV row = if isNm a = true then match spW b, noW c with
          | some s, some w => if 0 ≤ w ∧ w ≤ 1000000000 then some (a, (s, w)) else none
          | _, _ => none
        else none := by unfold rwV; rw [← hW]
      cases q1 : isNm a with
      | false =>
        rw [q1] at er isn
        refine ws_last (o := .ex "NoText" [some (.str (tx l)), some (.cell m.length), some (.str last), some (.str row), some (.lst ([a, b, c].map D.str)), z5] M) ?_ (.inr ⟨fail er, kv, _, by rw [hM]⟩)
        simp! only [List.map_cons, List.map_nil, List.length_cons, List.length_nil, d33, isn, mustF]
      | true =>
        rw [q1] at er isn
        simp only [if_true] at er
        cases q2 : decide (last.cps.toList < a.cps.toList) with
        | false =>
          have fl : shV l = none := by
            rw [← hg]; unfold goV
            rw [er]
            cases spW b with
            | none => rfl
            | some s =>
              cases noW c with
              | none => rfl
              | some w =>
                dsimp only
                by_cases hw : 0 ≤ w ∧ w ≤ 1000000000
                · rw [if_pos hw]
                  dsimp only
                  rw [if_neg]
                  rintro ⟨z, _⟩
                  have z : decide ((lastN kv).cps.toList < a.cps.toList) = true := z
                  rw [← hla, q2] at z; cases z
                · rw [if_neg hw]
          refine ws_last (o := .ex "NoText" [some (.str (tx l)), some (.cell m.length), some (.str last), some (.str row), some (.lst ([a, b, c].map D.str)), z5] M) ?_ (.inr ⟨fl, kv, _, by rw [hM]⟩)
          simp! only [List.map_cons, List.map_nil, List.length_cons, List.length_nil, d33, isn, pGtS, q2, mustF]
        | true =>
          refine ws_step (δ' := [some (.str (tx l)), some (.cell m.length), some (.str last), some (.str row), some (.lst ([a, b, c].map D.str)), z5]) (m' := M) ?_ ?_
          · simp! only [List.map_cons, List.map_nil, List.length_cons, List.length_nil, d33, isn, pGtS, q2, must_ok]
          refine ws_step (δ' := [some (.str (tx l)), some (.cell m.length), some (.str a), some (.str row), some (.lst ([a, b, c].map D.str)), z5]) (m' := M) ?_ ?_
          · simp! only [List.map_cons, List.map_nil]
          cases q3 : noW c with
          | none =>
            rw [q3] at rc
            have rn : rwV row = none := by
              rw [er, q3]
              cases spW b <;> rfl
            refine ws_last (o := .ex "NoText" [some (.str (tx l)), some (.cell m.length), some (.str a), some (.str row), some (.lst ([a, b, c].map D.str)), z5] M) ?_ (.inr ⟨fail rn, kv, _, by rw [hM]⟩)
            simp! only [List.map_cons, List.map_nil, rc]
          | some w =>
            rw [q3] at rc
            refine ws_step (δ' := [some (.str (tx l)), some (.cell m.length), some (.str a), some (.str row), some (.lst ([a, b, c].map D.str)), some (.int w)]) (m' := M) ?_ ?_
            · simp! only [List.map_cons, List.map_nil, rc]
            by_cases hwr : ¬ (0 ≤ w ∧ w ≤ 1000000000)
            · have rn : rwV row = none := by
                rw [er, q3]
                cases spW b with
                | none => rfl
                | some s => dsimp only; rw [if_neg hwr]
              refine ws_last (o := .ex "NoText" [some (.str (tx l)), some (.cell m.length), some (.str a), some (.str row), some (.lst ([a, b, c].map D.str)), some (.int w)] M) ?_ (.inr ⟨fail rn, kv, _, by rw [hM]⟩)
              by_cases w0 : 0 ≤ w
              · have w2 : decide (w ≤ 1000000000) = false := decide_eq_false fun z => hwr ⟨w0, z⟩
                simp! only [decide_eq_true w0, w2, mustF]
              · simp! only [decide_eq_false w0, mustF]
            replace hwr := Classical.not_not.mp hwr
            have w1 := decide_eq_true hwr.1
            have w2 := decide_eq_true hwr.2
            refine ws_step (δ' := [some (.str (tx l)), some (.cell m.length), some (.str a), some (.str row), some (.lst ([a, b, c].map D.str)), some (.int w)]) (m' := M) ?_ ?_
            · simp! only [w1, w2, must_ok]
            cases q4 : spW b with
            | none =>
              rw [q4] at rb
              have rn : rwV row = none := by rw [er, q4]
              refine ws_last (o := .ex "NoText" [some (.str (tx l)), some (.cell m.length), some (.str a), some (.str row), some (.lst ([a, b, c].map D.str)), some (.int w)] M) ?_ (.inr ⟨fail rn, kv, _, by rw [hM]⟩)
              simp! only [List.map_cons, List.map_nil, sDPutI, rb]
            | some s =>
              rw [q4] at rb
              have ee : rwV row = some (a, (s, w)) := by
                rw [er, q4, q3]
                dsimp only
                rw [if_pos hwr]
              have lt : ltS (lastN kv) a = true := by unfold ltS; rw [← hla]; exact q2
              have ap : a ∉ kv.map (·.1) := ris.new lt
              have kl : (encV kv).length < 100000 := by rw [encV_len]; have := ris.1; omega
              have pz : putD (encV kv) (.inr a) (.tup [eS s, .int w]) = encV (kv ++ [(a, (s, w))]) := by
                rw [← putV_new ap, ← putV_enc]; rfl
              have sA : M.set (m.length + 1) (.dK (encV (kv ++ [(a, (s, w))]))) = m ++ shN m.length (kv ++ [(a, (s, w))]) := by
                rw [hM]; exact set_app m _ 1 _
              have cK := cellK_sh sh.sk.ha
              refine ws_step (δ' := [some (.str (tx l)), some (.cell m.length), some (.str a), some (.str row), some (.lst ([a, b, c].map D.str)), some (.int w)]) (m' := m ++ shN m.length (kv ++ [(a, (s, w))])) ?_ ?_
              · rw [← sA]
                simp! only [eFld, pLenS, pDictD, pLenD, pDIn, keyD, pSortD, eSlS, List.map_cons, List.map_nil, sDPutI, rb, sh.sk.ins, sk_kept, cK, kl, pz]
              have sh2 : SH (m ++ shN m.length (kv ++ [(a, (s, w))])) m.length (m.length + 1) (m.length + 2) (m.length + 3) (kv ++ [(a, (s, w))]) [] [] := shN_sh m _
              have gl : goV kv (row :: rs) = if kv.length < 60 then goV (kv ++ [(a, (s, w))]) rs else none := by
                conv => lhs; unfold goV
                rw [ee]
                dsimp only
                by_cases hk : kv.length < 60
                · rw [if_pos ⟨lt, hk⟩, if_pos hk]
                · rw [if_neg fun z => hk z.2, if_neg hk]
              have cnt : (((encV (kv ++ [(a, (s, w))])).length : Nat) : Int) = (kv.length : Int) + 1 := by rw [encV_len, List.length_append]; rfl
              by_cases hk : kv.length < 60
              · have l60 : decide ((((encV (kv ++ [(a, (s, w))])).length : Nat) : Int) ≤ 60) = true := decide_eq_true (by rw [cnt]; omega)
                rw [if_pos hk] at gl
                refine ws_last (o := .nx [some (.str (tx l)), some (.cell m.length), some (.str a), some (.str row), some (.lst ([a, b, c].map D.str)), some (.int w)] (m ++ shN m.length (kv ++ [(a, (s, w))]))) ?_ ⟨kv ++ [(a, (s, w))], _, _, _, fun r h => hr r (List.mem_cons_of_mem _ h), gl.symm.trans hg, ris.snoc lt hk, rfl, by rw [lastN_snoc]⟩
                simp! only [eFld, pLenS, pDictD, pLenD, pDIn, keyD, pSortD, eSlS, sh2.sk.ins, sk_kept, sh2.sk.dict, l60, must_ok]
              · have l60 : decide ((((encV (kv ++ [(a, (s, w))])).length : Nat) : Int) ≤ 60) = false := decide_eq_false (by rw [cnt]; omega)
                rw [if_neg hk] at gl
                refine ws_last (o := .ex "NoText" [some (.str (tx l)), some (.cell m.length), some (.str a), some (.str row), some (.lst ([a, b, c].map D.str)), some (.int w)] (m ++ shN m.length (kv ++ [(a, (s, w))]))) ?_ (.inr ⟨hg.symm.trans gl, _, _, rfl⟩)
                simp! only [eFld, pLenS, pDictD, pLenD, pDIn, keyD, pSortD, eSlS, sh2.sk.ins, sk_kept, sh2.sk.dict, l60, mustF]
    rintro o (⟨kv, z2, z3, z4, z5, hv, rfl⟩ | ⟨hv, kv, δ, rfl⟩)
    · refine ws_last (o := .rt (.cell m.length) (m ++ shN m.length kv)) (by simp! only []) ?_
      rw [endA_rt]
      simp only [wp_some]
      exact .inl ⟨kv, hv, by trivial, by trivial⟩
    · simp_arith only [endA]
      exact .inr ⟨hv, by trivial, kv, by trivial⟩
  obtain ⟨r, m', e, h⟩ := wp_get key
  rcases h with ⟨kv, hv, rfl, rfl⟩ | ⟨hv, rfl, kv, rfl⟩
  · rw [hv]; exact e
  · rw [hv]; exact ⟨kv, e⟩
noncomputable def e_law_number_read : MS :=
  (sSeq (sSet 1 (eVar 0))
    (sSeq (sIf (tst (eOp pEq (eSlS (eVar 0) oNone (oSome (eC (.int 1)))) (eC (.str "-")))) (sSet 1 (eSlS (eVar 0) (oSome (eC (.int 1))) oNone)) sNext)
    (sSeq (sSet 3 (dat (fLc (wStr (eVar 1)) (mName 2) (tst (eOp (pInSg false) (eVar 2) (eC (.str "0123456789")))) (eVar 2) [2])))
    (sSeq (sIf (mOr (tst (eOp pEq (eVar 1) (eC (.str "")))) (mOr (tst (eOp pLt (eCB pLen (aCons (eVar 3) aNil)) (eCB pLenS (aCons (eVar 1) aNil)))) (mOr (tst (eOp pGt (eCB pLenS (aCons (eVar 1) aNil)) (eC (.int 12)))) (mAnd (tst (eOp pEq (eOp pIxS (eVar 1) (eC (.int 0))) (eC (.str "0")))) (tst (eOp pNe (eVar 0) (eC (.str "0")))))))) (sRet (eC .non)) sNext)
    (sRet (eCB pIntS (aCons (eVar 0) aNil)))))))
noncomputable def f_law_number_read : FnS := fnOf 1 4 e_law_number_read
def noD : Option Int → D
  | some i => .int i
  | none => .non
theorem filt_all {p : Nat → Bool} {d : List Nat} : ((d.filter p).length = d.length) ↔ d.all p = true := by
  induction d with
  | nil => simp
  | cons c d ih =>
    have hle := List.length_filter_le p d
    cases hc : p c with
    | true =>
      rw [List.filter_cons_of_pos (by rw [hc]), List.length_cons, List.length_cons, List.all_cons, hc, Bool.true_and, ← ih]
      omega
    | false =>
      rw [List.filter_cons_of_neg (by rw [hc]; exact Bool.false_ne_true), List.length_cons, List.all_cons, hc, Bool.false_and]
      constructor
      · intro h; omega
      · intro h; cases h
theorem law_number_read_eq {l : List Nat} (hl : l.length ≤ 80000) (m : Store) : f_law_number_read [.str (tx l)] m = ret (.pl (noD (noV l))) m := by
  obtain ⟨d, hd⟩ : ∃ d, d = dropM l := ⟨_, rfl⟩
  have dl0 := dropM_len l
  rw [← hd] at dl0
  have zl2 : (tx l).length ≤ 100000 := by rw [tx_len]; omega
  have dl2 : (tx d).length ≤ 100000 := by rw [tx_len]; omega
  have dl4 : d.length < 100000 := by omega
  have e0 : ("" : Str) = tx [] := by decide +kernel
  have c1 : L2.cutS (tx l) none (some 1) = tx (l.take 1) := tx_to l 1
  have fl : (d.filter figB).length ≤ 100000 := by have := List.length_filter_le figB d; omega
  have lc : lcM (mName 2) (tst (eOp (pInSg false) (eVar 2) (eC (.str "0123456789")))) (eVar 2) (Wk.mk (d.map chS) []).chk [some (.str (tx l)), some (.str (tx d)), none, none] (d.map chS) m = ret ((d.filter figB).map chS) m :=
    lcM_pure chk_nil chS figB chS d fun c hc => ⟨[some (.str (tx l)), some (.str (tx d)), some (chS c), none], rfl, by
      have := fig_mem c
      simp! only [inSg_ch, Bool.false_eq_true, if_false, this], fun _ => by simp! only []⟩
  have key : wp (f_law_number_read [.str (tx l)] m) (fun r m' => r = .ok (.pl (noD (noV l))) ∧ m' = m) := by
    unfold f_law_number_read e_law_number_read
    refine wp_fnI rfl ?_
    refine ws_step (δ' := [some (.str (tx l)), some (.str (tx l)), none, none]) (m' := m) (by simp! only []) ?_
    refine ws_step (δ' := [some (.str (tx l)), some (.str (tx d)), none, none]) (m' := m) ?_ ?_
    · by_cases hm : l.take 1 = [45]
      · have ed : d = l.drop 1 := by rw [hd]; unfold dropM; rw [if_pos hm]
        have c2 : L2.cutS (tx l) (some 1) none = tx d := by rw [ed]; exact tx_from l 1
        have dm : decide (tx (l.take 1) = tx [45]) = true := by rw [tx_dec]; exact decide_eq_true hm
        simp! only [eFld, pLenS, pDictD, pLenD, pDIn, keyD, pSortD, eSlS, zl2, c1, minus_tx, dm, c2]
      · have ed : d = l := by rw [hd]; unfold dropM; rw [if_neg hm]
        have dm : decide (tx (l.take 1) = tx [45]) = false := by rw [tx_dec]; exact decide_eq_false hm
        simp! only [eFld, pLenS, pDictD, pLenD, pDIn, keyD, pSortD, eSlS, zl2, c1, minus_tx, dm, ed]
    refine ws_step (δ' := [some (.str (tx l)), some (.str (tx d)), none, some (.lst ((d.filter figB).map chS))]) (m' := m) ?_ ?_
    · simp! only [wStr, tx_list, List.length_map, dl4, wipeE, lc]
    -- refused
    have no : isNo l = false → ws (sSeq (sIf (mOr (tst (eOp pEq (eVar 1) (eC (.str "")))) (mOr (tst (eOp pLt (eCB pLen (aCons (eVar 3) aNil)) (eCB pLenS (aCons (eVar 1) aNil)))) (mOr (tst (eOp pGt (eCB pLenS (aCons (eVar 1) aNil)) (eC (.int 12)))) (mAnd (tst (eOp pEq (eOp pIxS (eVar 1) (eC (.int 0))) (eC (.str "0")))) (tst (eOp pNe (eVar 0) (eC (.str "0")))))))) (sRet (eC .non)) sNext) (sRet (eCB pIntS (aCons (eVar 0) aNil))) [some (.str (tx l)), some (.str (tx d)), none, some (.lst ((d.filter figB).map chS))] m) (fun o => wp (endF m (some o)) fun r m' => r = .ok (.pl (noD (noV l))) ∧ m' = m) := fun q => by
      rw [noV_no q]
      refine ws_stop (d := .non) (m' := m) ?_ (by simp_arith only []; exact ⟨by trivial, by trivial⟩)
      by_cases hn : d = []
      · have dn : decide (tx d = ("" : Str)) = true := by rw [e0, hn]; exact decide_eq_true rfl
        simp! only [dn]
      · have dn : decide (tx d = ("" : Str)) = false := by rw [e0, tx_dec]; exact decide_eq_false hn
        have d1 : 1 ≤ d.length := List.length_pos_iff.mpr hn
        unfold isNo at q
        rw [← hd, decide_eq_true d1, Bool.true_and] at q
        cases k3 : d.all figB with
        | false =>
          have ne : (d.filter figB).length ≠ d.length := fun z => by rw [filt_all.mp z] at k3; cases k3
          have le := List.length_filter_le figB d
          have lt : decide (((d.filter figB).length : Int) < ((tx d).length : Int)) = true := decide_eq_true (by rw [tx_len]; omega)
          simp! only [eFld, pLenS, pDictD, pLenD, pDIn, keyD, pSortD, eSlS, dn, List.length_map, dl2, lt]
        | true =>
          have eq := filt_all.mpr k3
          have lt : decide (((d.filter figB).length : Int) < ((tx d).length : Int)) = false := decide_eq_false (by rw [tx_len]; omega)
          by_cases h12 : d.length ≤ 12
          · rw [k3, decide_eq_true h12, Bool.true_and, Bool.true_and, Bool.or_eq_false_iff] at q
            have g12 : decide ((12 : Int) < ((tx d).length : Int)) = false := decide_eq_false (by rw [tx_len]; omega)
            have k4 : decide (d.take 1 = [48]) = true := by simpa using q.1
            have k5 := q.2
            have ix : pIxS (.str (tx d)) (.int 0) m = ret (.str (tx (d.take 1))) m := by
              unfold pIxS
              dsimp only
              rw [if_pos dl2, tx_list]
              cases hdd : d with
              | nil => exact absurd hdd hn
              | cons c l => rw [atI_0]; rfl
            simp! only [eFld, pLenS, pDictD, pLenD, pDIn, keyD, pSortD, eSlS, dn, List.length_map, dl2, lt, g12, ix, zero_tx, tx_dec, k4, k5]
          · have g12 : decide ((12 : Int) < ((tx d).length : Int)) = true := decide_eq_true (by rw [tx_len]; omega)
            simp! only [eFld, pLenS, pDictD, pLenD, pDIn, keyD, pSortD, eSlS, dn, List.length_map, dl2, lt, g12]
    cases q : isNo l with
    | false => exact no q
    | true =>
      obtain ⟨i, e, h1, h2, h3⟩ := noV_yes q
      rw [e]
      have zl := numZ_len h1 h2
      rw [← h3] at zl
      have zl3 : (tx l).length ≤ 640 := by rw [tx_len]; omega
      have ir : intText? (tx l) = some i := by rw [h3]; exact int_read h1 h2
      unfold isNo at q
      rw [← hd, Bool.and_eq_true, Bool.and_eq_true, Bool.and_eq_true, decide_eq_true_eq, decide_eq_true_eq] at q
      obtain ⟨d1, d12, k3, k45⟩ := q
      have hn : d ≠ [] := fun z => by rw [z] at d1; simp at d1
      have dn : decide (tx d = ("" : Str)) = false := by rw [e0, tx_dec]; exact decide_eq_false hn
      have eq := filt_all.mpr k3
      have lt : decide (((d.filter figB).length : Int) < ((tx d).length : Int)) = false := decide_eq_false (by rw [tx_len]; omega)
      have g12 : decide ((12 : Int) < ((tx d).length : Int)) = false := decide_eq_false (by rw [tx_len]; omega)
      have ix : pIxS (.str (tx d)) (.int 0) m = ret (.str (tx (d.take 1))) m := by
        unfold pIxS
        dsimp only
        rw [if_pos dl2, tx_list]
        cases hdd : d with
        | nil => exact absurd hdd hn
        | cons c l => rw [atI_0]; rfl
      refine ws_step (δ' := [some (.str (tx l)), some (.str (tx d)), none, some (.lst ((d.filter figB).map chS))]) (m' := m) ?_ ?_
      · cases k4 : decide (d.take 1 = [48]) with
        | false => simp! only [eFld, pLenS, pDictD, pLenD, pDIn, keyD, pSortD, eSlS, dn, List.length_map, dl2, lt, g12, ix, zero_tx, tx_dec, k4]
        | true =>
          rw [k4] at k45
          have k5 : decide (l = [48]) = true := by simpa using k45
          simp! only [eFld, pLenS, pDictD, pLenD, pDIn, keyD, pSortD, eSlS, dn, List.length_map, dl2, lt, g12, ix, zero_tx, tx_dec, k4, k5]
      · refine ws_last (o := .rt (.int i) m) ?_ (by simp_arith only []; exact ⟨by trivial, by trivial⟩)
        simp! only [pIntS, zl3, ir]
  exact eq_of_wp key
noncomputable def e_law_span_read : MS :=
  (sSeq (sSet 1 (dat (fSplit (eVar 0) (eC (.str "..")))))
    (sSeq (sIf (tst (eOp pNe (eCB pLen (aCons (eVar 1) aNil)) (eC (.int 2)))) (sRet (eC .non)) sNext)
    (sSeq (sAsg (dat (fLc (wList (eVar 1)) (mName 2) mYes (pla (fCall0 f_law_number_read (aCons (eVar 2) aNil))) [2])) (mLst (msCons (mName 3) (msCons (mName 4) msNil))))
    (sSeq (sIf (mOr (tst (eOp pIsN (eVar 3) (eC .non))) (mOr (tst (eOp pIsN (eVar 4) (eC .non))) (tst (eOp pGe (eVar 3) (eVar 4))))) (sRet (eC .non)) sNext)
    (sRet (eTup (aCons (eVar 3) (aCons (eVar 4) aNil))))))))
noncomputable def f_law_span_read : FnS := fnOf 1 5 e_law_span_read
def osD : Option Sp2 → D
  | some s => eS s
  | none => .non
theorem spl_len : ∀ (r acc : List Nat), (TL.spl [46, 46] 0 acc r).length ≤ r.length + 1 ∧ ∀ p ∈ TL.spl [46, 46] 0 acc r, p.length ≤ acc.length + r.length
  | [], acc => by
    rw [TL.spl_nil]
    exact ⟨by simp, fun p hp => by cases List.mem_singleton.mp hp; simp⟩
  | c :: r, acc => by
    cases q : TL.pre [46, 46] (c :: r) with
    | true =>
      rw [TL.spl_hit q, TL.spl_pass, show ([46, 46] : List Nat).length - 1 = 1 from rfl]
      obtain ⟨h1, h2⟩ := spl_len (r.drop 1) []
      have hl : (r.drop 1).length ≤ r.length := by rw [List.length_drop]; omega
      refine ⟨by rw [List.length_cons, List.length_cons]; omega, fun p hp => ?_⟩
      rcases List.mem_cons.mp hp with rfl | hp
      · omega
      · have := h2 p hp
        rw [List.length_cons]
        simp only [List.length_nil] at this
        omega
    | false =>
      rw [TL.spl_miss q]
      obtain ⟨h1, h2⟩ := spl_len r (acc ++ [c])
      refine ⟨by rw [List.length_cons]; omega, fun p hp => ?_⟩
      have := h2 p hp
      rw [List.length_append] at this
      simp only [List.length_cons, List.length_nil] at this ⊢
      omega
termination_by r => r.length
decreasing_by all_goals (simp only [List.length_drop, List.length_cons]; omega)
theorem law_span_read_eq {l : List Nat} (hl : l.length ≤ 80000) (m : Store) : f_law_span_read [.str (tx l)] m = ret (.pl (osD (spV l))) m := by
  have sl2 : (tx l).length ≤ 90000 := by rw [tx_len]; omega
  have d2 : ((".." : Str).length == 0) = false := by decide +kernel
  have sd := split_dots l
  obtain ⟨W, hW⟩ : ∃ W, W = Txt.split (tx l) (".." : Str) := ⟨_, rfl⟩
  have stop : spV l = none → W.length ≠ 2 → W.length < 100000 → f_law_span_read [.str (tx l)] m = ret (.pl (osD (spV l))) m := fun e n n1 => by
    have ne : decide (((W.length : Nat) : Int) = 2) = false := decide_eq_false (by omega)
    rw [e]
    unfold f_law_span_read e_law_span_read
    simp! only [fSplit, eM1, d2, sl2, and_self, ← hW, List.length_map, pNe, ne, osD]
  cases q : dots l with
  | none =>
    rw [q] at sd
    rw [← hW] at sd
    exact stop (by unfold spV; rw [q]) (by rw [sd]; simp) (by rw [sd]; simp)
  | some p =>
    obtain ⟨a, b⟩ := p
    rw [q] at sd
    rw [← hW] at sd
    dsimp only at sd
    have dl := dots_len q
    cases q2 : dots b with
    | some p2 =>
      obtain ⟨c, d⟩ := p2
      have e : spV l = none := by
        unfold spV
        rw [q]
        dsimp only
        rw [noV_dot (par_dot q2)]
        cases noV a <;> rfl
      have e3 : TL.spl [46, 46] 0 [] b = c :: TL.spl [46, 46] 0 [] d := by
        rw [spl_par]
        unfold dots at q2
        rw [q2]
      have l3 := (spl_len b []).1
      refine stop e ?_ ?_
      · rw [sd, e3, List.length_cons, List.map_cons, List.length_cons, List.length_map]
        have : TL.spl [46, 46] 0 [] d ≠ [] := by
          rw [spl_par]
          cases TL.par [46, 46] [] d with
          | none => simp
          | some z => simp
        have := List.length_pos_iff.mpr this
        omega
      · rw [sd, List.length_cons, List.length_map]; omega
    | none =>
      have e3 : TL.spl [46, 46] 0 [] b = [b] := by
        rw [spl_par]
        unfold dots at q2
        rw [q2]
        rfl
      rw [e3] at sd
      have r1 := law_number_read_eq (l := a) (by omega) m
      have r2 := law_number_read_eq (l := b) (by omega) m
      have ev : spV l = match noV a, noV b with
        | some i, some j => if i < j then some (i, j) else none
        | _, _ => none := by unfold spV; simp only [q] <;> (cases noV a <;> cases noV b <;> rfl)
      have d3 : decide (((2 : Nat) : Int) = 2) = true := rfl
      have lc : lcM (mName 2) mYes (pla (fCall0 f_law_number_read (aCons (eVar 2) aNil))) (Wk.mk ([a, b].map fun z => D.str (tx z)) []).chk [some (.str (tx l)), some (.lst [.str (tx a), .str (tx b)]), none, none, none] ([a, b].map fun z => D.str (tx z)) m = ret ([a, b].map fun z => noD (noV z)) m :=
        lcM_map chk_nil (fun z => D.str (tx z)) (fun z => noD (noV z)) [a, b] fun z hz => ⟨[some (.str (tx l)), some (.lst [.str (tx a), .str (tx b)]), some (.str (tx z)), none, none], rfl, by
          have hz : z = a ∨ z = b := by simpa using hz
          rcases hz with rfl | rfl
          · simp! only [r1]
          · simp! only [r2]⟩
      have lc : lcM (mName 2) mYes (pla (fCall0 f_law_number_read (aCons (eVar 2) aNil))) (Wk.mk [.str (tx a), .str (tx b)] []).chk [some (.str (tx l)), some (.lst [.str (tx a), .str (tx b)]), none, none, none] [.str (tx a), .str (tx b)] m = ret [noD (noV a), noD (noV b)] m := lc
      have sd2 : (Txt.split (tx l) (".." : Str)).map D.str = [.str (tx a), .str (tx b)] := by rw [← hW, sd]; rfl
      have n2 : (2 : Nat) < 100000 := by decide
      apply eq_of_wp
      unfold f_law_span_read e_law_span_read
      refine wp_fnI rfl ?_
      refine ws_step (δ' := [some (.str (tx l)), some (.lst [.str (tx a), .str (tx b)]), none, none, none]) (m' := m) ?_ ?_
      · simp! only [fSplit, eM1, d2, sl2, and_self, if_true, sd2]
      refine ws_step (δ' := [some (.str (tx l)), some (.lst [.str (tx a), .str (tx b)]), none, none, none]) (m' := m) ?_ ?_
      · simp! only [d3]
      refine ws_step (δ' := [some (.str (tx l)), some (.lst [.str (tx a), .str (tx b)]), none, some (noD (noV a)), some (noD (noV b))]) (m' := m) ?_ ?_
      · simp! only [srcOf_lst, n2, wipeE, lc, mLst]
      cases q3 : noV a with
      | none =>
        refine ws_stop (d := .non) (m' := m) ?_ ?_
        · simp! only [noD, D.isNon]
        · rw [ev, q3]; simp_arith only [osD]; exact ⟨by trivial, by trivial⟩
      | some i =>
        cases q4 : noV b with
        | none =>
          refine ws_stop (d := .non) (m' := m) ?_ ?_
          · simp! only [noD, D.isNon]
          · rw [ev, q3, q4]; simp_arith only [osD]; exact ⟨by trivial, by trivial⟩
        | some j =>
          by_cases hij : i < j
          · have ge : decide (j ≤ i) = false := decide_eq_false (by omega)
            refine ws_step (δ' := [some (.str (tx l)), some (.lst [.str (tx a), .str (tx b)]), none, some (.int i), some (.int j)]) (m' := m) ?_ ?_
            · simp! only [noD, D.isNon, ge]
            refine ws_last (o := .rt (eS (i, j)) m) ?_ ?_
            · simp! only [noD]; rfl
            · rw [ev, q3, q4]; simp_arith only [osD, hij, if_true]; exact ⟨by trivial, by trivial⟩
          · have ge : decide (j ≤ i) = true := decide_eq_true (by omega)
            refine ws_stop (d := .non) (m' := m) ?_ ?_
            · simp! only [noD, D.isNon, ge]
            · rw [ev, q3, q4]; simp_arith only [osD, hij, if_false]; exact ⟨by trivial, by trivial⟩
noncomputable def e_law_cover_read : MS :=
  (sSeq (sIf (tst (eOp pEq (eVar 0) (eC (.str "")))) (sRet (cel (fLst aNil))) sNext)
    (sSeq (sSet 2 (cel (fLc (wList (dat (fSplit (eVar 0) (eC (.str " "))))) (mName 1) mYes (pla (fCall0 f_law_span_read (aCons (eVar 1) aNil))) [1])))
    (sSeq (sIf (mOr (tst (eOp (pInD false) (eC .non) (eVar 2))) (tst (eOp pGt (eCB pLen (aCons (eVar 2) aNil)) (eC (.int 200))))) (sRet (eC .non)) sNext)
    (sSeq (sFor (wZip (aCons (eVar 2) (aCons (dat (fSl (eVar 2) (oSome (eC (.int 1))) oNone)) aNil))) (mTup (msCons (mName 3) (msCons (mName 4) msNil)))
    (sIf (tst (eOp pGe (eOp pIxT (eVar 3) (eC (.int 1))) (eOp pIxT (eVar 4) (eC (.int 0))))) (sRet (eC .non)) sNext))
    (sRet (eVar 2))))))
noncomputable def f_law_cover_read : FnS := fnOf 1 5 e_law_cover_read
theorem osD_any : ∀ {ss : List (Option Sp2)}, (ss.map osD).any (fun z => eqb z .non) = !(allO ss).isSome
  | [] => rfl
  | o :: ss => by
    rw [List.map_cons, List.any_cons, osD_any (ss := ss)]
    cases o with
    | none => rfl
    | some s =>
      rw [show allO (some s :: ss) = (allO ss).map (fun l => s :: l) from rfl, Option.isSome_map]
      rfl
theorem sh_osD {n : Nat} (o : Option Sp2) : Sh (n + 1) (osD o) := by
  cases o with
  | none => exact sh_non
  | some s => exact sh_eS
theorem allO_some : ∀ {α : Type} {os : List (Option α)} {l : List α}, allO os = some l → os = l.map some
  | _, [], l, h => by cases h; rfl
  | _, none :: _, l, h => by cases h
  | _, some a :: r, l, h => by
    rw [show allO (some a :: r) = (allO r).map (fun l => a :: l) from rfl] at h
    cases q : allO r with
    | none => rw [q] at h; cases h
    | some l' =>
      rw [q] at h; cases h
      rw [List.map_cons, ← allO_some q]
theorem law_spW {w : Str} (h : w.length ≤ 80000) (m : Store) : f_law_span_read [.str w] m = ret (.pl (osD (spW w))) m := by
  have lw : w.cps.toList.length = w.length := by show _ = w.cps.size; simp
  have := law_span_read_eq (l := w.cps.toList) (by rw [lw]; omega) m
  rwa [tx_of] at this
def cvF (o : Option (List Sp2)) : FT := match o with
  | some ss => .own (ss.map eS)
  | none => .pl .non
theorem law_cover_read_eq {l : List Nat} (hl : l.length ≤ 80000) (m : Store) : f_law_cover_read [.str (tx l)] m = ret (cvF (cvV l)) m := by
  have cl2 : (tx l).length ≤ 90000 := by rw [tx_len]; omega
  have d1 : ((" " : Str).length == 0) = false := by decide +kernel
  have e0 : ("" : Str) = tx [] := by decide +kernel
  by_cases h0 : l = []
  · have e : cvV l = some [] := by unfold cvV; rw [if_pos h0]
    have de : decide (tx l = ("" : Str)) = true := by rw [h0, e0]; exact decide_eq_true rfl
    rw [e]
    apply eq_of_wp
    unfold f_law_cover_read e_law_cover_read
    refine wp_fnI rfl ?_
    refine ws_stop (d := .cell m.length) (m' := m ++ [.lst []]) ?_ ?_
    · simp! only [pEq, de]
    · simp_arith only []
      rw [fin_own0 rfl]
      exact ⟨rfl, rfl⟩
  · have de : decide (tx l = ("" : Str)) = false := by rw [e0]; exact decide_eq_false fun z => h0 (tx_inj z)
    obtain ⟨w0, rest, hs, hw, hr⟩ := words_facts (tx l)
    obtain ⟨W, hW⟩ : ∃ W, W = Txt.split (tx l) (" " : Str) := ⟨_, rfl⟩
    have n1 : W.length < 100000 := by rw [hW, hs, List.length_cons]; rw [tx_len] at hr; omega
    have hw' : ∀ w ∈ W, w.length ≤ 80000 := fun w h => by
      rw [hW, hs] at h
      have := (hw w h).1
      rw [tx_len] at this
      omega
    have e : cvV l = (allO (W.map spW)).bind fun ss => if isCover ss = true then some ss else none := by unfold cvV; rw [if_neg h0, hW]
    have lc : lcM (mName 1) mYes (pla (fCall0 f_law_span_read (aCons (eVar 1) aNil))) (Wk.mk (W.map D.str) []).chk [some (.str (tx l)), none, none, none, none] (W.map D.str) m = ret (W.map fun w => osD (spW w)) m :=
      lcM_map chk_nil D.str (fun w => osD (spW w)) W fun w hw => ⟨[some (.str (tx l)), some (.str w), none, none, none], rfl, by simp! only [law_spW (hw' w hw) m]⟩
    obtain ⟨os, hos⟩ : ∃ os, os = W.map spW := ⟨_, rfl⟩
    have eo : (W.map fun w => osD (spW w)) = os.map osD := by rw [hos, List.map_map]; rfl
    have ol : os.length = W.length := by rw [hos, List.length_map]
    rw [eo] at lc
    rw [← hos] at e
    obtain ⟨M, hM⟩ : ∃ M, M = m ++ [Cell.lst (os.map osD)] := ⟨_, rfl⟩
    have g0 : M[m.length]? = some (.lst (os.map osD)) := by rw [hM]; exact app_get
    have rdm : Rd M (.cell m.length) (os.map osD) := .cell g0
    have shs : Sh 60 (.lst (os.map osD)) := Sh.map fun o => sh_osD o
    have inN : pInD false .non (.cell m.length) M = ret (.bl (!(allO os).isSome)) M := by
      unfold pInD
      rw [show vw M .non = some .non from rfl, rdm.v]
      simp only [Option.bind_some]
      rw [if_pos ⟨sh_non, shs⟩, osD_any]
      rfl
    have key : wp (f_law_cover_read [.str (tx l)] m) (fun r m' => r = .ok (cvF (cvV l)) ∧ m' = m) := by
      unfold f_law_cover_read e_law_cover_read
      refine wp_fnI rfl ?_
      refine ws_step (δ' := [some (.str (tx l)), none, none, none, none]) (m' := m) ?_ ?_
      · simp! only [pEq, de]
      refine ws_step (δ' := [some (.str (tx l)), none, some (.cell m.length), none, none]) (m' := M) ?_ ?_
      · rw [hM]
        simp! only [fSplit, eM1, d1, cl2, and_self, if_true, ← hW, srcOf_lst, List.length_map, n1, wipeE, lc]
      have end_ : finF m .non M = ret (.pl .non) m := by rw [hM]; exact fin_plain rfl (Tidy.refl _) rfl
      cases q : allO os with
      | none =>
        rw [q] at inN e
        refine ws_stop (d := .non) (m' := M) ?_ ?_
        · simp! only [inN, Option.isSome_none]
        · rw [e]
          simp_arith only [end_]
          exact ⟨by trivial, by trivial⟩
      | some ss =>
        rw [q] at inN e
        have eos := allO_some q
        have sl : ss.length = W.length := by rw [← ol, eos, List.length_map]
        have em : os.map osD = ss.map eS := by rw [eos, List.map_map]; rfl
        rw [em] at rdm hM
        simp only [Option.bind_some] at e
        by_cases h2 : 200 < ss.length
        · have g2 : decide ((200 : Int) < ((ss.length : Nat) : Int)) = true := decide_eq_true (by omega)
          have ic : isCover ss = false := by unfold isCover; rw [decide_eq_false (by omega)]; rfl
          refine ws_stop (d := .non) (m' := M) ?_ ?_
          · simp! only [inN, Option.isSome_some, rdm.s, List.length_map, g2]
          · rw [e, ic]
            simp_arith only [end_]
            exact ⟨by trivial, by trivial⟩
        · have g2 : decide ((200 : Int) < ((ss.length : Nat) : Int)) = false := decide_eq_false (by omega)
          have ic : isCover ss = risesB ss := by unfold isCover; rw [decide_eq_true (by omega)]; rfl
          rw [ic] at e
          refine ws_step (δ' := [some (.str (tx l)), none, some (.cell m.length), none, none]) (m' := M) ?_ ?_
          · simp! only [inN, Option.isSome_some, rdm.s, List.length_map, g2]
          rw [ws_seq]
          refine ws_mono (R := fun o => (∃ δ, risesB ss = true ∧ o = .nx δ M ∧ ∃ z1 z2, δ = [some (.str (tx l)), none, some (.cell m.length), z1, z2]) ∨ (risesB ss = false ∧ o = .rt .non M)) ?_ ?_
          · simp_arith only [rdm.s, rdm.q, cutD_1, ← List.map_drop, zipD_map, srcOf_lst, List.length_map]
            refine ws_forT (en := fun p : Sp2 × Sp2 => D.tup [eS p.1, eS p.2]) (I := fun r δ m' => m' = M ∧ (∃ z1 z2, δ = [some (.str (tx l)), none, some (.cell m.length), z1, z2]) ∧ ∃ c', r = c'.zip (c'.drop 1) ∧ risesB ss = risesB c') (fun _ _ _ ⟨e, _⟩ => e ▸ fun p hp => rdm.c p hp) ?_ ?_ ⟨rfl, ⟨_, _, rfl⟩, ss, rfl, rfl⟩
            · rintro δ m' ⟨rfl, ⟨z1, z2, rfl⟩, c', e, hr⟩
              have : risesB c' = true := by
                cases c' with
                | nil => rfl
                | cons a c' => cases c' with
                  | nil => rfl
                  | cons b c' => cases e
              exact .inl ⟨_, hr.trans this, rfl, _, _, rfl⟩
            · rintro x r δ m' ⟨rfl, ⟨z1, z2, rfl⟩, c', e, hr⟩
              cases c' with
              | nil => cases e
              | cons a c' =>
                cases c' with
                | nil => cases e
                | cons b c' =>
                  cases e
                  refine ⟨_, rfl, ?_⟩
                  by_cases hx : b.1 ≤ a.2
                  · have : risesB ss = false := by rw [hr]; show (decide (a.2 < b.1) && risesB (b :: c')) = false; rw [decide_eq_false (by omega)]; rfl
                    simp_arith only [eS, decide_eq_true hx]
                    exact .inr ⟨this, by trivial⟩
                  · have : risesB ss = risesB (b :: c') := by rw [hr]; show (decide (a.2 < b.1) && risesB (b :: c')) = _; rw [decide_eq_true (by omega)]; rfl
                    simp_arith only [eS, decide_eq_false hx]
                    exact ⟨by trivial, ⟨_, _, rfl⟩, b :: c', rfl, this⟩
          · rintro o (⟨δ, hr, rfl, z1, z2, rfl⟩ | ⟨hr, rfl⟩)
            · refine ws_last (o := .rt (.cell m.length) M) (by simp! only []) ?_
              rw [e, hr, hM]
              simp_arith only []
              rw [fin_own0 (unds_eS _ _)]
              exact ⟨rfl, rfl⟩
            · rw [e, hr]
              simp_arith only [end_]
              exact ⟨by trivial, by trivial⟩
    exact eq_of_wp key
noncomputable def e_law_row_read : MS :=
  (sSeq (sSet 1 (dat (fSplit (eVar 0) (eC (.str " ")))))
    (sSeq (sIf (tst (eOp pNe (eCB pLen (aCons (eVar 1) aNil)) (eC (.int 3)))) (sRet (eC .non)) sNext)
    (sSeq (sSet 2 (eC (.str "abcdefghijklmnopqrstuvwxyz")))
    (sSeq (sIf (mOr (mNot (tst (eChain pLe pLe (eC (.int 1)) (eCB pLenS (aCons (eOp pIxL (eVar 1) (eC (.int 0))) aNil)) (eC (.int 8))))) (tst (eOp pGt (eCB pLen (aCons (dat (fLc (wStr (eOp pIxL (eVar 1) (eC (.int 0)))) (mName 3) (tst (eOp (pInSg true) (eVar 3) (eVar 2))) (eVar 3) [3])) aNil)) (eC (.int 0))))) (sRet (eC .non)) sNext)
    (sSeq (sSet 4 (pla (fCall0 f_law_span_read (aCons (eOp pIxL (eVar 1) (eC (.int 1))) aNil))))
    (sSeq (sSet 5 (pla (fCall0 f_law_number_read (aCons (eOp pIxL (eVar 1) (eC (.int 2))) aNil))))
    (sSeq (sIf (mOr (tst (eOp pIsN (eVar 4) (eC .non))) (mOr (tst (eOp pIsN (eVar 5) (eC .non))) (mNot (tst (eChain pLe pLe (eC (.int 0)) (eVar 5) (eOp pPow (eC (.int 10)) (eC (.int 9)))))))) (sRet (eC .non)) sNext)
    (sRet (eTup (aCons (eOp pIxL (eVar 1) (eC (.int 0))) (aCons (eTup (aCons (eVar 4) (aCons (eVar 5) aNil))) aNil)))))))))))
noncomputable def f_law_row_read : FnS := fnOf 1 6 e_law_row_read
def rwD : Option (Str × Ent) → D
  | some e => .tup [.str e.1, .tup [eS e.2.1, .int e.2.2]]
  | none => .non
theorem law_noW {w : Str} (h : w.length ≤ 80000) (m : Store) : f_law_number_read [.str w] m = ret (.pl (noD (noW w))) m := by
  have lw : w.cps.toList.length = w.length := by show _ = w.cps.size; simp
  have := law_number_read_eq (l := w.cps.toList) (by rw [lw]; omega) m
  rwa [tx_of] at this
theorem filt_none {p : Nat → Bool} : ∀ {l : List Nat}, (l.filter fun c => !p c).length = 0 ↔ l.all p = true
  | [] => by simp
  | c :: l => by
    have ih := filt_none (p := p) (l := l)
    cases hc : p c with
    | true =>
      rw [List.filter_cons_of_neg (by rw [hc]; exact Bool.false_ne_true), List.all_cons, hc, Bool.true_and]
      exact ih
    | false =>
      rw [List.filter_cons_of_pos (by rw [hc]; rfl), List.length_cons, List.all_cons, hc, Bool.false_and]
      constructor
      · intro h; omega
      · intro h; cases h
theorem law_row_read_eq {row : Str} (hrow : row.length ≤ 80000) (m : Store) : f_law_row_read [.str row] m = ret (.pl (rwD (rwV row))) m := by
  have rl2 : row.length ≤ 90000 := by omega
  have d2 : ((" " : Str).length == 0) = false := by decide +kernel
  obtain ⟨w0, rest, hs, hw, hrl⟩ := words_facts row
  obtain ⟨W, hW⟩ : ∃ W, W = Txt.split row (" " : Str) := ⟨_, rfl⟩
  have hw' : ∀ w ∈ W, w.length ≤ 80000 := fun w h => by
    rw [hW, hs] at h
    have := (hw w h).1
    omega
  have n1 : W.length ≤ 100000 := by rw [hW, hs, List.length_cons]; omega
  have fin : rwV row = none → wp (endF m (some (.rt .non m))) fun r m' => r = .ok (.pl (rwD (rwV row))) ∧ m' = m := fun e => by
    rw [e]
    simp_arith only []
    exact ⟨by trivial, by trivial⟩
  apply eq_of_wp
  unfold f_law_row_read e_law_row_read
  refine wp_fnI rfl ?_
  refine ws_step (δ' := [some (.str row), some (.lst (W.map D.str)), none, none, none, none]) (m' := m) ?_ ?_
  · simp! only [fSplit, eM1, d2, rl2, and_self, if_true, ← hW]
  have three : (∃ a b c, W = [a, b, c]) ∨ W.length ≠ 3 := by
    by_cases h3 : W.length = 3
    · match W, h3 with
      | [a, b, c], _ => exact .inl ⟨a, b, c, rfl⟩
    · exact .inr h3
  rcases three.symm with n3 | ⟨a, b, c, e3⟩
  · have rn : rwV row = none := by
      unfold rwV
      rw [← hW]
      split
      · exact absurd rfl n3
      · rfl
    have d3 : decide (((W.length : Nat) : Int) = 3) = false := decide_eq_false (by omega)
    exact ws_stop (d := .non) (m' := m) (by simp! only [List.length_map, d3]) (fin rn)
  subst e3
  have la := hw' a (by simp)
  have lb := hw' b (by simp)
  have lc := hw' c (by simp)
  have d33 : decide (((3 : Nat) : Int) = 3) = true := rfl
  have er : rwV row = if isNm a = true then match spW b, noW c with
      | some s, some w => if 0 ≤ w ∧ w ≤ 1000000000 then some (a, (s, w)) else none
      | _, _ => none
    else none := by unfold rwV; rw [← hW] <;> (dsimp only <;> (cases spW b <;> cases noW c <;> rfl))
  refine ws_step (δ' := [some (.str row), some (.lst [.str a, .str b, .str c]), none, none, none, none]) (m' := m) ?_ ?_
  · simp! only [d33]
  refine ws_step (δ' := [some (.str row), some (.lst [.str a, .str b, .str c]), some (.str ltr), none, none, none]) (m' := m) ?_ ?_
  · simp! only []
  have la1 : a.length ≤ 100000 := by omega
  have lal : a.cps.toList.length = a.length := by show _ = a.cps.size; simp
  have la2 : a.cps.toList.length < 100000 := by omega
  have d1 : decide ((1 : Int) ≤ (a.length : Int)) = decide (1 ≤ a.length) := decide_eq_decide.mpr (by omega)
  have d8 : decide ((a.length : Int) ≤ 8) = decide (a.length ≤ 8) := decide_eq_decide.mpr (by omega)
  obtain ⟨p, hp⟩ : ∃ p : Nat → Bool, p = fun c => decide (c ∈ ltr.cps.toList) := ⟨_, rfl⟩
  have lcm : lcM (mName 3) (tst (eOp (pInSg true) (eVar 3) (eVar 2))) (eVar 3) (Wk.mk (a.cps.toList.map chS) []).chk [some (.str row), some (.lst [.str a, .str b, .str c]), some (.str ltr), none, none, none] (a.cps.toList.map chS) m = ret ((a.cps.toList.filter fun c => !p c).map chS) m :=
    lcM_pure chk_nil chS (fun c => !p c) chS a.cps.toList fun y hy => ⟨[some (.str row), some (.lst [.str a, .str b, .str c]), some (.str ltr), some (chS y), none, none], rfl, by
      simp! only [inSg_ch, hp], fun _ => by simp! only []⟩
  have isn : isNm a = ((decide (1 ≤ a.length) && decide (a.length ≤ 8)) && a.cps.toList.all p) := by rw [hp]; rfl
  have fll : (a.cps.toList.filter fun c => !p c).length ≤ 100000 := by have := List.length_filter_le (fun c => !p c) a.cps.toList; omega
  cases q1 : isNm a with
  | false =>
    rw [q1] at er isn
    refine ws_stop (d := .non) (m' := m) ?_ (fin er)
    cases k1 : decide (1 ≤ a.length) with
    | false => simp! only [eFld, pLenS, pDictD, pLenD, pDIn, keyD, pSortD, eSlS, la1, d1, k1]
    | true =>
      cases k2 : decide (a.length ≤ 8) with
      | false => simp! only [eFld, pLenS, pDictD, pLenD, pDIn, keyD, pSortD, eSlS, la1, d1, d8, k1, k2]
      | true =>
        rw [k1, k2] at isn
        have ne : (a.cps.toList.filter fun c => !p c).length ≠ 0 := fun z => by
          rw [filt_none.mp z] at isn
          cases isn
        have gt : decide ((0 : Int) < (((a.cps.toList.filter fun c => !p c).length : Nat) : Int)) = true := decide_eq_true (by omega)
        simp! only [eFld, pLenS, pDictD, pLenD, pDIn, keyD, pSortD, eSlS, la1, d1, d8, k1, k2, wStr, List.length_map, la2, wipeE, lcm, gt]
  | true =>
    rw [q1] at er isn
    rw [if_pos rfl] at er
    have isn := isn.symm
    rw [Bool.and_eq_true, Bool.and_eq_true] at isn
    obtain ⟨⟨k1, k2⟩, k3⟩ := isn
    have gt : decide ((0 : Int) < (((a.cps.toList.filter fun c => !p c).length : Nat) : Int)) = false := decide_eq_false (by rw [filt_none.mpr k3]; decide)
    refine ws_step (δ' := [some (.str row), some (.lst [.str a, .str b, .str c]), some (.str ltr), none, none, none]) (m' := m) ?_ ?_
    · simp! only [eFld, pLenS, pDictD, pLenD, pDIn, keyD, pSortD, eSlS, la1, d1, d8, k1, k2, wStr, List.length_map, la2, wipeE, lcm, gt]
    refine ws_step (δ' := [some (.str row), some (.lst [.str a, .str b, .str c]), some (.str ltr), none, some (osD (spW b)), none]) (m' := m) ?_ ?_
    · simp! only [law_spW lb m]
    refine ws_step (δ' := [some (.str row), some (.lst [.str a, .str b, .str c]), some (.str ltr), none, some (osD (spW b)), some (noD (noW c))]) (m' := m) ?_ ?_
    · simp! only [law_noW lc m]
    cases q4 : spW b with
    | none => exact ws_stop (d := .non) (m' := m) (by simp! only [osD, D.isNon]) (fin (by rw [er, q4]))
    | some s =>
      cases q3 : noW c with
      | none => exact ws_stop (d := .non) (m' := m) (by simp! only [osD, noD, eS, D.isNon]) (fin (by rw [er, q4, q3]))
      | some w =>
        rw [q4, q3] at er
        dsimp only at er
        by_cases hwr : ¬ (0 ≤ w ∧ w ≤ 1000000000)
        · rw [if_neg hwr] at er
          refine ws_stop (d := .non) (m' := m) ?_ (fin er)
          by_cases w0 : 0 ≤ w
          · have w2 : decide (w ≤ 1000000000) = false := decide_eq_false fun z => hwr ⟨w0, z⟩
            simp! only [osD, noD, eS, D.isNon, decide_eq_true w0, w2]
          · simp! only [osD, noD, eS, D.isNon, decide_eq_false w0]
        replace hwr := Classical.not_not.mp hwr
        rw [if_pos hwr] at er
        have w1 := decide_eq_true hwr.1
        have w2 := decide_eq_true hwr.2
        refine ws_step (δ' := [some (.str row), some (.lst [.str a, .str b, .str c]), some (.str ltr), none, some (eS s), some (.int w)]) (m' := m) ?_ ?_
        · simp! only [osD, noD, eS, D.isNon, w1, w2]
        refine ws_last (o := .rt (.tup [.str a, .tup [eS s, .int w]]) m) ?_ ?_
        · simp! only []
        · rw [er]
          simp_arith only [rwD]
          exact ⟨by trivial, by trivial⟩
noncomputable def e_law_shelf_read : MS :=
  (sSeq (sIf (tst (eOp pEq (eVar 0) (eC (.str "")))) (sRet eDNew) sNext)
    (sSeq (sSet 2 (dat (fLc (wList (dat (fSplit (eVar 0) (eC (.str "\n"))))) (mName 1) mYes (pla (fCall0 f_law_row_read (aCons (eVar 1) aNil))) [1])))
    (sSeq (sIf (mOr (tst (eOp (pInD false) (eC .non) (eVar 2))) (tst (eOp pGt (eCB pLen (aCons (eVar 2) aNil)) (eC (.int 60))))) (sRet (eC .non)) sNext)
    (sSeq (sSet 3 (dat (fLc (wList (eVar 2)) (mName 1) mYes (eOp pIxT (eVar 1) (eC (.int 0))) [1])))
    (sSeq (sIf (tst (eOp pNeD (eVar 3) (dat (fSortSetS (eVar 3))))) (sRet (eC .non)) sNext)
    (sSeq (sSet 4 eDNew)
    (sSeq (sFor (wList (eVar 2)) (mTup (msCons (mName 5) (msCons (mName 6) msNil)))
    (sDPutI (eVar 6) (eVar 4) (eVar 5)))
    (sRet (eVar 4)))))))))
noncomputable def f_law_shelf_read : FnS := fnA 1 7 e_law_shelf_read
theorem rwD_any : ∀ {rs : List (Option (Str × Ent))}, (rs.map rwD).any (fun z => eqb z .non) = !(allO rs).isSome
  | [] => rfl
  | o :: rs => by
    rw [List.map_cons, List.any_cons, rwD_any (rs := rs)]
    cases o with
    | none => rfl
    | some s =>
      rw [show allO (some s :: rs) = (allO rs).map (fun l => s :: l) from rfl, Option.isSome_map]
      rfl
theorem sh_rwD {n : Nat} {o : Option (Str × Ent)} (h : ∀ e, o = some e → isNm e.1 = true) : Sh (n + 3) (rwD o) := by
  cases o with
  | none => exact sh_non
  | some e => exact sh_two (sh_str (nm_str (h e rfl))) (sh_two sh_eS sh_int)
/-- names rising behind x -/
def risC : Str → List Str → Bool
  | _, [] => true
  | x, y :: r => ltS x y && risC y r
theorem goV_all : ∀ {rows : List Str} {kv : Kv}, kv.length ≤ 60 → goV kv rows = (allO (rows.map rwV)).bind fun es => if kv.length + es.length ≤ 60 ∧ risC (lastN kv) (es.map (·.1)) = true then some (kv ++ es) else none
  | [], kv, h => by
    rw [goV, List.map_nil, show allO ([] : List (Option (Str × Ent))) = some [] from rfl, Option.bind_some, if_pos ⟨by simpa using h, rfl⟩, List.append_nil]
  | r :: rs, kv, h => by
    unfold goV
    rw [List.map_cons]
    cases q : rwV r with
    | none => rfl
    | some e =>
      rw [show allO (some e :: rs.map rwV) = (allO (rs.map rwV)).map (fun l => e :: l) from rfl]
      dsimp only
      by_cases c : ltS (lastN kv) e.1 = true ∧ kv.length < 60
      · rw [if_pos c, goV_all (rows := rs) (kv := kv ++ [e]) (by rw [List.length_append]; show kv.length + 1 ≤ 60; omega)]
        cases allO (rs.map rwV) with
        | none => rfl
        | some es =>
          simp only [Option.map_some, Option.bind_some]
          rw [lastN_snoc, List.map_cons, List.append_assoc]
          have e1 : (kv ++ [e]).length + es.length = kv.length + (e :: es).length := by simp; omega
          have e2 : risC (lastN kv) (e.1 :: es.map (·.1)) = risC e.1 (es.map (·.1)) := by
            show (ltS (lastN kv) e.1 && _) = _
            rw [c.1, Bool.true_and]
          rw [e1, e2]
          rfl
      · rw [if_neg c]
        cases allO (rs.map rwV) with
        | none => rfl
        | some es =>
          simp only [Option.map_some, Option.bind_some]
          rw [if_neg]
          rintro ⟨z1, z2⟩
          rw [List.map_cons] at z2
          have z2 : (ltS (lastN kv) e.1 && risC e.1 (es.map (·.1))) = true := z2
          rw [Bool.and_eq_true] at z2
          rw [List.length_cons] at z1
          exact c ⟨z2.1, by omega⟩
theorem risC_pw : ∀ {xs : List Str} {x : Str}, risC x xs = true → (∀ y ∈ xs, ltS x y = true) ∧ xs.Pairwise fun a b => ltS a b = true
  | [], x, _ => ⟨fun y h => (nomatch h), .nil⟩
  | y :: r, x, h => by
    have h : (ltS x y && risC y r) = true := h
    rw [Bool.and_eq_true] at h
    obtain ⟨h1, h2⟩ := risC_pw h.2
    refine ⟨fun z hz => ?_, .cons h1 h2⟩
    rcases List.mem_cons.mp hz with rfl | hz
    · exact h.1
    · exact ltS_trans h.1 (h1 z hz)
theorem pw_risC : ∀ {xs : List Str} {x : Str}, (∀ y ∈ xs, ltS x y = true) → (xs.Pairwise fun a b => ltS a b = true) → risC x xs = true
  | [], _, _, _ => rfl
  | y :: r, x, h, p => by
    show (ltS x y && risC y r) = true
    rw [h y List.mem_cons_self, Bool.true_and]
    exact pw_risC (fun z hz => (List.pairwise_cons.mp p).1 z hz) (List.pairwise_cons.mp p).2
theorem ltS_nil {x : Str} (h : isNm x = true) : ltS "" x = true := nil_txt (nm_len' h).1
theorem ris_usort {xs : List Str} (hn : ∀ x ∈ xs, isNm x = true) : risC "" xs = true ↔ xs = usortS xs := by
  constructor
  · intro h
    obtain ⟨_, pw⟩ := risC_pw h
    exact usortS_uniq (PyProof.Rows.sortedS_of_pairwise _ (pw.imp fun z => ltS_leS z)) (pw.imp fun z => ltS_ne z) fun k => Iff.rfl
  · intro h
    refine pw_risC (fun y hy => ltS_nil (hn y hy)) ?_
    rw [h]
    have h1 : (usortS xs).Pairwise leS := ssort_le _
    have h2 : (usortS xs).Nodup := (ssort_perm _).nodup_iff.mpr (undupS_nodup xs)
    exact (h1.and h2).imp fun z => leS_ltS z.1 z.2

theorem law_shelf_read_eq {l : List Nat} (hl : l.length ≤ 80000) (m : Store) : f_law_shelf_read [.str (tx l)] m = match shV l with
    | some kv => ret (.pl (.cell m.length)) (m ++ [.dK (encV kv)])
    | none => ret (.pl .non) m := by
  have sl2 : (tx l).length ≤ 90000 := by rw [tx_len]; omega
  have d1 : (("\n" : Str).length == 0) = false := by decide +kernel
  have e0 : ("" : Str) = tx [] := by decide +kernel
  obtain ⟨fR, fL⟩ := rowsL_facts (l := l)
  have key : wp (f_law_shelf_read [.str (tx l)] m) (fun r m' => (∃ kv, shV l = some kv ∧ r = .ok (.pl (.cell m.length)) ∧ m' = m ++ [.dK (encV kv)]) ∨ (shV l = none ∧ r = .ok (.pl .non) ∧ m' = m)) := by
    by_cases h0 : l = []
    · have de : decide (tx l = ("" : Str)) = true := by rw [h0, e0]; exact decide_eq_true rfl
      have ev : shV l = some [] := by unfold shV rowsL; rw [if_pos h0]; rfl
      unfold f_law_shelf_read e_law_shelf_read
      refine wp_fnA rfl ?_
      refine ws_stop (d := .cell m.length) (m' := m ++ [.dK []]) ?_ ?_
      · simp! only [pEq, de, eDNew]
      · rw [endA_rt]
        simp only [wp_some]
        exact .inl ⟨[], ev, by trivial, by trivial⟩
    have de : decide (tx l = ("" : Str)) = false := by rw [e0]; exact decide_eq_false fun z => h0 (tx_inj z)
    have er : Txt.split (tx l) ("\n" : Str) = rowsL l := by unfold rowsL; rw [if_neg h0]
    have n1 : (rowsL l).length < 100000 := by omega
    obtain ⟨os, hos⟩ : ∃ os, os = (rowsL l).map rwV := ⟨_, rfl⟩
    have ol : os.length = (rowsL l).length := by rw [hos, List.length_map]
    have nmo : ∀ o ∈ os, ∀ e, o = some e → isNm e.1 = true := fun o ho e eo => by
      rw [hos] at ho
      obtain ⟨r, _, rfl⟩ := List.mem_map.mp ho
      obtain ⟨_, _, _, h, _⟩ := rwV_some eo
      exact h
    have lc : lcM (mName 1) mYes (pla (fCall0 f_law_row_read (aCons (eVar 1) aNil))) (Wk.mk ((rowsL l).map D.str) []).chk [some (.str (tx l)), none, none, none, none, none, none] ((rowsL l).map D.str) m = ret (os.map rwD) m := by
      have := lcM_map (g := mName 1) (e := pla (fCall0 f_law_row_read (aCons (eVar 1) aNil))) (c := (Wk.mk ((rowsL l).map D.str) []).chk) (δ := [some (.str (tx l)), none, none, none, none, none, none]) (m := m) chk_nil D.str (fun r => rwD (rwV r)) (rowsL l) fun r hr => ⟨[some (.str (tx l)), some (.str r), none, none, none, none, none], rfl, by
        have := fR r hr
        simp! only [law_row_read_eq (row := r) (by omega) m]⟩
      rw [this, hos, List.map_map]
      rfl
    have shs : Sh 60 (.lst (os.map rwD)) := fun d hd => by
      obtain ⟨o, ho, rfl⟩ := List.mem_map.mp hd
      exact sh_rwD (n := 56) fun e eo => nmo o ho e eo
    have inN : pInD false .non (.lst (os.map rwD)) m = ret (.bl (!(allO os).isSome)) m := by
      unfold pInD
      rw [show vw m .non = some .non from rfl, show vw m (.lst (os.map rwD)) = some (.lst (os.map rwD)) from rfl]
      simp only [Option.bind_some]
      rw [if_pos ⟨sh_non, shs⟩, rwD_any]
      rfl
    have ev := goV_all (rows := rowsL l) (kv := []) (by simp)
    rw [show goV [] (rowsL l) = shV l from rfl, ← hos] at ev
    obtain ⟨L, hL⟩ : ∃ L, L = D.lst (os.map rwD) := ⟨_, rfl⟩
    unfold f_law_shelf_read e_law_shelf_read
    refine wp_fnA rfl ?_
    refine ws_step (δ' := [some (.str (tx l)), none, none, none, none, none, none]) (m' := m) ?_ ?_
    · simp! only [pEq, de]
    refine ws_step (δ' := [some (.str (tx l)), none, some L, none, none, none, none]) (m' := m) ?_ ?_
    · rw [hL]
      simp! only [fSplit, eM1, d1, sl2, and_self, if_true, er, srcOf_lst, List.length_map, n1, wipeE, lc]
    have fin : shV l = none → wp (endA (some (.rt .non m))) fun r m' => (∃ kv, shV l = some kv ∧ r = .ok (.pl (.cell m.length)) ∧ m' = m ++ [.dK (encV kv)]) ∨ (shV l = none ∧ r = .ok (.pl .non) ∧ m' = m) := fun e => by
      rw [endA_rt]
      simp only [wp_some]
      exact .inr ⟨e, by trivial, by trivial⟩
    cases q : allO os with
    | none =>
      rw [q] at inN ev
      refine ws_stop (d := .non) (m' := m) ?_ (fin ev)
      rw [hL]
      simp! only [inN, Option.isSome_none]
    | some es =>
      rw [q] at inN ev
      have eos := allO_some q
      have el : es.length = (rowsL l).length := by rw [← ol, eos, List.length_map]
      have em : os.map rwD = es.map fun e => rwD (some e) := by rw [eos, List.map_map]; rfl
      have nme : ∀ e ∈ es, isNm e.1 = true := fun e he => nmo (some e) (by rw [eos]; exact List.mem_map_of_mem he) e rfl
      rw [em] at hL inN
      simp only [Option.bind_some, List.nil_append, List.length_nil, Nat.zero_add] at ev
      rw [show lastN [] = "" from rfl] at ev
      by_cases h2 : 60 < es.length
      · have g2 : decide ((60 : Int) < ((es.length : Nat) : Int)) = true := decide_eq_true (by omega)
        rw [if_neg (fun z => by omega)] at ev
        refine ws_stop (d := .non) (m' := m) ?_ (fin ev)
        rw [hL]
        simp! only [inN, Option.isSome_some, List.length_map, g2]
      have g2 : decide ((60 : Int) < ((es.length : Nat) : Int)) = false := decide_eq_false (by omega)
      refine ws_step (δ' := [some (.str (tx l)), none, some L, none, none, none, none]) (m' := m) ?_ ?_
      · rw [hL]
        simp! only [inN, Option.isSome_some, List.length_map, g2]
      obtain ⟨ns, hns⟩ : ∃ ns, ns = es.map (·.1) := ⟨_, rfl⟩
      have nl : ns.length = es.length := by rw [hns, List.length_map]
      have nk : ∀ x ∈ ns, isNm x = true := fun x hx => by
        rw [hns] at hx
        obtain ⟨e, he, rfl⟩ := List.mem_map.mp hx
        exact nme e he
      have e100 : es.length < 100000 := by omega
      have lc2 : lcM (mName 1) mYes (eOp pIxT (eVar 1) (eC (.int 0))) (Wk.mk (es.map fun e => rwD (some e)) []).chk [some (.str (tx l)), none, some L, none, none, none, none] (es.map fun e => rwD (some e)) m = ret (ns.map D.str) m := by
        rw [hns, List.map_map]
        exact lcM_map chk_nil (fun e => rwD (some e)) (fun e => D.str e.1) es fun e he => ⟨[some (.str (tx l)), some (rwD (some e)), some L, none, none, none, none], rfl, by simp! only [rwD]⟩
      rw [hL] at lc2
      refine ws_step (δ' := [some (.str (tx l)), none, some L, some (.lst (ns.map D.str)), none, none, none]) (m' := m) ?_ ?_
      · rw [hL]
        simp! only [srcOf_lst, List.length_map, e100, wipeE, lc2]
      have us : ns.length < 63 := by omega
      have nsh : ∀ {xs : List Str}, (∀ x ∈ xs, isNm x = true) → Sh 60 (.lst (xs.map D.str)) := fun h => sh_strs fun x hx => nm_str (h x hx)
      have uk : ∀ x ∈ usortS ns, isNm x = true := fun x hx => nk x (undupS_mem.mp ((ssort_perm (undupS ns)).mem_iff.mp hx))
      have ne1 : pNeD (.lst (ns.map D.str)) (.lst ((usortS ns).map D.str)) m = ret (.bl (!eqb (.lst (ns.map D.str)) (.lst ((usortS ns).map D.str)))) m := by
        unfold pNeD
        rw [show vw m (.lst (ns.map D.str)) = some (.lst (ns.map D.str)) from rfl, show vw m (.lst ((usortS ns).map D.str)) = some (.lst ((usortS ns).map D.str)) from rfl]
        simp only [Option.bind_some]
        rw [if_pos ⟨nsh nk, nsh uk⟩]
      have eqv : eqb (.lst (ns.map D.str)) (.lst ((usortS ns).map D.str)) = decide (ns = usortS ns) := eqb_lst (fun a b => by show (a == b) = decide (a = b); by_cases h : a = b <;> simp [h]) ns (usortS ns)
      rw [eqv] at ne1
      have tS : toStrs (ns.map D.str) = some ns := toStrs_map _
      have lim : es.length ≤ 60 := by omega
      rw [← hns] at ev
      by_cases h3 : ¬ ns = usortS ns
      · rw [decide_eq_false h3] at ne1
        rw [if_neg fun z => h3 ((ris_usort nk).mp z.2)] at ev
        refine ws_stop (d := .non) (m' := m) ?_ (fin ev)
        simp! only [fSortSetS, tS, us, if_true, ne1]
      replace h3 := Classical.not_not.mp h3
      rw [decide_eq_true h3] at ne1
      rw [if_pos ⟨lim, (ris_usort nk).mpr h3⟩] at ev
      refine ws_step (δ' := [some (.str (tx l)), none, some L, some (.lst (ns.map D.str)), none, none, none]) (m' := m) ?_ ?_
      · simp! only [fSortSetS, tS, us, if_true, ne1]
      refine ws_step (δ' := [some (.str (tx l)), none, some L, some (.lst (ns.map D.str)), some (.cell m.length), none, none]) (m' := m ++ [.dK (encV [])]) ?_ ?_
      · simp! only [eDNew]
        rfl
      have nd : (es.map (·.1)).Nodup := by rw [← hns, h3]; exact (ssort_perm _).nodup_iff.mpr (undupS_nodup ns)
      refine ws_mid (I := fun δ m' => m' = m ++ [.dK (encV es)] ∧ ∃ z1 z2, δ = [some (.str (tx l)), none, some L, some (.lst (ns.map D.str)), some (.cell m.length), z1, z2]) ?_ ?_
      · refine ws_forS (wk := ⟨es.map fun e => rwD (some e), []⟩) (m' := m ++ [.dK (encV [])]) ?_ ?_
        · rw [hL]
          simp! only [srcOf_lst]
        refine ws_mono (forT (en := fun e => rwD (some e)) (I := fun r δ m' => ∃ pre : Kv, es = pre ++ r ∧ m' = m ++ [.dK (encV pre)] ∧ ∃ z1 z2, δ = [some (.str (tx l)), none, some L, some (.lst (ns.map D.str)), some (.cell m.length), z1, z2]) (fun _ _ _ _ => chk_nil) ?_ (l := es) ⟨[], rfl, rfl, _, _, rfl⟩) ?_
        · rintro e r δ m' ⟨pre, hp, rfl, z1, z2, rfl⟩
          refine ⟨[some (.str (tx l)), none, some L, some (.lst (ns.map D.str)), some (.cell m.length), some (.str e.1), some (.tup [eS e.2.1, .int e.2.2])], rfl, ?_⟩
          have ap : e.1 ∉ pre.map (·.1) := fun hm => by
            rw [hp, List.map_append, List.map_cons] at nd
            exact (List.nodup_append.mp nd).2.2 e.1 hm e.1 List.mem_cons_self rfl
          have pl : pre.length + 1 ≤ 60 := by
            have := congrArg List.length hp
            rw [List.length_append, List.length_cons] at this
            omega
          have kl : (encV pre).length < 100000 := by rw [encV_len]; omega
          have pz : putD (encV pre) (.inr e.1) (.tup [eS e.2.1, .int e.2.2]) = encV (pre ++ [e]) := by
            rw [← putV_new ap, ← putV_enc]; rfl
          have cK : cellK (m ++ [.dK (encV pre)]) (.cell m.length) = some (m.length, encV pre) := cellK_sh app_get
          have sA : (m ++ [Cell.dK (encV pre)]).set m.length (Cell.dK (encV (pre ++ [e]))) = m ++ [Cell.dK (encV (pre ++ [e]))] := set_app0 m [Cell.dK (encV pre)] _
          refine ws_last (o := .nx [some (.str (tx l)), none, some L, some (.lst (ns.map D.str)), some (.cell m.length), some (.str e.1), some (.tup [eS e.2.1, .int e.2.2])] (m ++ [.dK (encV (pre ++ [e]))])) ?_ ⟨_, _, rfl, pre ++ [e], by rw [hp]; simp, rfl, _, _, rfl⟩
          rw [← sA]
          simp! only [eFld, pLenS, pDictD, pLenD, pDIn, keyD, pSortD, eSlS, sDPutI, cK, kl, pz]
        · rintro o ⟨δ, m', rfl, pre, hp, rfl, z1, z2, rfl⟩
          rw [List.append_nil] at hp
          exact ⟨_, _, rfl, by rw [hp], z1, z2, rfl⟩
      rintro δ m' ⟨rfl, z1, z2, rfl⟩
      refine ws_last (o := .rt (.cell m.length) (m ++ [.dK (encV es)])) (by simp! only []) ?_
      rw [endA_rt]
      simp only [wp_some]
      exact .inl ⟨es, ev, by trivial, by trivial⟩
  obtain ⟨r, m', e, h⟩ := wp_get key
  rcases h with ⟨kv, hv, rfl, rfl⟩ | ⟨hv, rfl, rfl⟩
  · rw [hv]; exact e
  · rw [hv]; exact e
theorem isXk_ve (x : Str) : isXk "ValueError" x = true := rfl
noncomputable def e_law_class : MS :=
  (sSeq (sIf (tst (eOp pIsN (eVar 0) (eC .non))) (sRet (eC (.str "done"))) sNext)
    (sSeq (sSet 1 (dat (fLst (aCons (eIsX kinds "NoSpan" (eVar 0)) (aCons (eIsX kinds "NoPlace" (eVar 0)) (aCons (eIsX kinds "NoCover" (eVar 0)) aNil))))))
    (sSeq (sSet 1 (dat (fOp pCat (eVar 1) (dat (fLst (aCons (eIsX kinds "NoWeight" (eVar 0)) (aCons (eIsX kinds "NoCount" (eVar 0)) (aCons (eIsX kinds "NoName" (eVar 0)) aNil))))))))
    (sSeq (sSet 1 (dat (fOp pCat (eVar 1) (dat (fLst (aCons (eIsX kinds "Twice" (eVar 0)) (aCons (eIsX kinds "Full" (eVar 0)) (aCons (eIsX kinds "Bare" (eVar 0)) aNil))))))))
    (sSeq (sSet 1 (dat (fOp pCat (eVar 1) (dat (fLst (aCons (eIsX kinds "NoDeed" (eVar 0)) (aCons (eIsX kinds "NoText" (eVar 0)) (aCons (eIsX kinds "NoLine" (eVar 0)) aNil))))))))
    (sSeq (sSet 2 (dat (fLst (aCons (eC (.str "span")) (aCons (eC (.str "place")) (aCons (eC (.str "cover")) (aCons (eC (.str "weight")) (aCons (eC (.str "count")) (aCons (eC (.str "name")) (aCons (eC (.str "twice")) (aCons (eC (.str "full")) (aCons (eC (.str "bare")) (aCons (eC (.str "deed")) (aCons (eC (.str "text")) (aCons (eC (.str "line")) aNil)))))))))))))))
    (sSeq (sSet 5 (dat (fLc (wZip (aCons (eVar 2) (aCons (eVar 1) aNil))) (mTup (msCons (mName 3) (msCons (mName 4) msNil))) (tst (eVar 4)) (eVar 3) [3, 4])))
    (sSeq (sIf (mOr (tst (eOp pNe (eCB pLen (aCons (eVar 5) aNil)) (eC (.int 1)))) (mNot (tst (eIsX kinds "ValueError" (eVar 0))))) (sRet (eC (.str "odd"))) sNext)
    (sRet (eOp pIxL (eVar 5) (eC (.int 0))))))))))))
noncomputable def f_law_class : FnS := fnOf 1 6 e_law_class
def kwords : List Str := ["span", "place", "cover", "weight", "count", "name", "twice", "full", "bare", "deed", "text", "line"]
def wordOf (x : Str) : Str := kwords.getD (kinds.idxOf x) "odd"
theorem zip_bl : ∀ (ws : List Str) (bs : List Bool), zipD (ws.map D.str) (bs.map D.bl) = (ws.zip bs).map fun p => D.tup [.str p.1, .bl p.2]
  | [], _ => by simp [zipD]
  | _ :: _, [] => by simp [zipD]
  | w :: ws, b :: bs => by
    rw [List.map_cons, List.map_cons, List.zip_cons_cons, List.map_cons]
    unfold zipD
    rw [zip_bl]
theorem law_class_exc {x : Str} (m : Store) (h : x ∈ kinds) : f_law_class [.exc x] m = ret (.pl (.str (wordOf x))) m := by
  obtain ⟨bs, hbs⟩ : ∃ bs : List Bool, bs = kinds.map fun c => isXk c x := ⟨_, rfl⟩
  have hone : ((kwords.zip bs).filter (·.2)).map (·.1) = [wordOf x] := by
    rw [hbs]
    simp [kinds] at h
    rcases h with rfl | rfl | rfl | rfl | rfl | rfl | rfl | rfl | rfl | rfl | rfl | rfl <;> decide +kernel
  have hl : (kwords.zip bs).length < 100000 := by rw [List.length_zip]; have : kwords.length = 12 := rfl; omega
  have hx : x = "ShelfError" ∨ x ∈ kinds := .inr h
  apply eq_of_wp
  unfold f_law_class e_law_class
  refine wp_fnI rfl ?_
  apply ws_step (δ' := [some (.exc x), none, none, none, none, none]) (m' := m)
  · simp! only [D.isNon]
  apply ws_step (δ' := [some (.exc x), some (.lst [.bl (isXk "NoSpan" x), .bl (isXk "NoPlace" x), .bl (isXk "NoCover" x)]), none, none, none, none]) (m' := m)
  · simp! only [eIsX, hx]
  apply ws_step (δ' := [some (.exc x), some (.lst [.bl (isXk "NoSpan" x), .bl (isXk "NoPlace" x), .bl (isXk "NoCover" x), .bl (isXk "NoWeight" x), .bl (isXk "NoCount" x), .bl (isXk "NoName" x)]), none, none, none, none]) (m' := m)
  · simp! only [eIsX, hx]
  apply ws_step (δ' := [some (.exc x), some (.lst [.bl (isXk "NoSpan" x), .bl (isXk "NoPlace" x), .bl (isXk "NoCover" x), .bl (isXk "NoWeight" x), .bl (isXk "NoCount" x), .bl (isXk "NoName" x), .bl (isXk "Twice" x), .bl (isXk "Full" x), .bl (isXk "Bare" x)]), none, none, none, none]) (m' := m)
  · simp! only [eIsX, hx]
  apply ws_step (δ' := [some (.exc x), some (.lst (bs.map D.bl)), none, none, none, none]) (m' := m)
  · rw [hbs]
    simp! only [eIsX, hx]
    rfl
  apply ws_step (δ' := [some (.exc x), some (.lst (bs.map D.bl)), some (.lst (kwords.map D.str)), none, none, none]) (m' := m)
  · simp! only []
    rfl
  apply ws_step (δ' := [some (.exc x), some (.lst (bs.map D.bl)), some (.lst (kwords.map D.str)), none, none, some (.lst [.str (wordOf x)])]) (m' := m)
  · have : (((kwords.zip bs).filter (·.2)).map fun p => D.str p.1) = [.str (wordOf x)] := by
      have := congrArg (List.map D.str) hone
      rw [List.map_map] at this
      exact this
    simp! only [srcOf_lst, zip_bl, List.length_map, hl, wipeE]
    rw [lcM_pure (en := fun p : Str × Bool => D.tup [.str p.1, .bl p.2]) (p := fun p => p.2) (f := fun p : Str × Bool => D.str p.1) (by exact chk_nil) (kwords.zip bs) fun p _ => ⟨[some (.exc x), some (.lst (bs.map D.bl)), some (.lst (kwords.map D.str)), some (.str p.1), some (.bl p.2), none], rfl, by simp! only [], fun _ => by simp! only []⟩, this]
    simp! only []
  apply ws_step (δ' := [some (.exc x), some (.lst (bs.map D.bl)), some (.lst (kwords.map D.str)), none, none, some (.lst [.str (wordOf x)])]) (m' := m)
  · simp! only [eIsX, hx, isXk_ve]
    rfl
  refine ws_last (o := .rt (.str (wordOf x)) m) ?_ ?_
  · simp! only []
  · simp_arith only [and_self]
noncomputable def e_law_asked_8 : MS :=
  (sSeq (sSet 2 (eC .non))
    (sSeq (sSet 3 (eC .non))
    (sSeq (sTry kinds 4 2 (sIf (tst (eOp pEq (eVar 1) (eC (.int 0)))) (sSet 3 (pla (fCall f_read_span (aCons (eVar 0) aNil)))) (sIf (tst (eOp pEq (eVar 1) (eC (.int 1)))) (sSet 3 (cel (fCall f_read_cover_2 (aCons (eVar 0) aNil)))) (sSet 3 (pla (fCall f_read_shelf (aCons (eVar 0) aNil)))))))
    (sSeq (sIf (tst (eOp pNotN (eVar 2) (eC .non))) (sRet (pla (fCall0 f_law_class (aCons (eVar 2) aNil)))) sNext)
    (sSeq (sIf (tst (eOp pLt (eVar 1) (eC (.int 2)))) (sRet (eVar 3)) sNext)
    (sSeq (sSet 5 eDNew)
    (sSeq (sFor (wList (dat (fMeth "Shelf" "names" f_Shelf_names (eVar 3) aNil))) (mName 6)
    (sDPutI (eTup (aCons (pla (fMethS "Shelf" "span" f_Shelf_span (eVar 3) (aCons (eVar 6) aNil))) (aCons (pla (fMethS "Shelf" "weight" f_Shelf_weight (eVar 3) (aCons (eVar 6) aNil))) aNil))) (eVar 5) (eVar 6)))
    (sRet (eVar 5)))))))))
noncomputable def f_law_asked_8 : FnS := fnA 2 7 e_law_asked_8
theorem shV_some {l : List Nat} {kv : Kv} (h : shV l = some kv) : kv.length ≤ 60 ∧ (kv.map (·.1)).Pairwise fun a b => ltS a b = true := by
  have e := goV_all (rows := rowsL l) (kv := []) (by simp)
  rw [show goV [] (rowsL l) = shV l from rfl, h] at e
  cases q : allO ((rowsL l).map rwV) with
  | none => rw [q] at e; cases e
  | some es =>
    rw [q] at e
    simp only [Option.bind_some, List.nil_append, List.length_nil, Nat.zero_add] at e
    split at e
    · rename_i hc
      cases e
      exact ⟨hc.1, (risC_pw hc.2).2⟩
    · cases e
theorem shV_nd {l : List Nat} {kv : Kv} (h : shV l = some kv) : (kv.map (·.1)).Nodup := (shV_some h).2.imp fun z => ltS_ne z
theorem shV_names {l : List Nat} {kv : Kv} (h : shV l = some kv) : namesV kv = kv.map (·.1) :=
  (ssort_uniq (List.Perm.refl _) (PyProof.Rows.sortedS_of_pairwise _ ((shV_some h).2.imp fun z => ltS_leS z))).symm
theorem ent8_nd {kv : Kv} (nd : (kv.map (·.1)).Nodup) : (kv.map (·.1)).map (ent8 kv) = kv := by
  rw [List.map_map]
  refine Eq.trans (List.map_congr_left (g := id) fun p hp => ?_) (List.map_id kv)
  have := look_mem (x := p.1) (e := p.2) nd hp
  unfold ent8 spanV wtV
  simp only [Function.comp, this]
  rfl
theorem text_cls (m : Store) : f_law_class [.exc "NoText"] m = ret (.pl (.str "text")) m := law_class_exc m (by decide +kernel)
theorem sk_app {m l : Store} {k a b c : Nat} {kv : Kv} (h : SK m k a b c kv) : SK (m ++ l) k a b c kv := by
  obtain ⟨h1, h2⟩ := h
  exact ⟨by rw [List.getElem?_append_left (List.getElem?_eq_some_iff.mp h1).1]; exact h1, by rw [List.getElem?_append_left (List.getElem?_eq_some_iff.mp h2).1]; exact h2⟩
def txD (o : Option Sp2) : D := match o with
  | some s => eS s
  | none => .str "text"
theorem asked_span {l : List Nat} (hl : l.length ≤ 80000) (m : Store) : f_law_asked_8 [.str (tx l), .int 0] m = ret (.pl (txD (spV l))) m := by
  have rs := read_span_eq (l := l) (by omega) m
  have hm : (("NoText" : Str) ∈ kinds) = True := eq_true (by decide +kernel)
  apply eq_of_wp
  unfold f_law_asked_8 e_law_asked_8
  refine wp_fnA rfl ?_
  refine ws_step (δ' := [some (.str (tx l)), some (.int 0), some .non, none, none, none, none]) (m' := m) (by simp! only []) ?_
  refine ws_step (δ' := [some (.str (tx l)), some (.int 0), some .non, some .non, none, none, none]) (m' := m) (by simp! only []) ?_
  cases q : spV l with
  | none =>
    rw [q] at rs
    refine ws_step (δ' := [some (.str (tx l)), some (.int 0), some (.exc "NoText"), some .non, none, none, none]) (m' := m) ?_ ?_
    · simp! only [sTry, decide_true, rs, hm]
    refine ws_stop (d := .str "text") (m' := m) ?_ ?_
    · simp! only [D.isNon, text_cls]
    · rw [endA_rt]
      simp only [wp_some]
      exact ⟨by trivial, by trivial⟩
  | some s =>
    rw [q] at rs
    refine ws_step (δ' := [some (.str (tx l)), some (.int 0), some .non, some (eS s), none, none, none]) (m' := m) ?_ ?_
    · simp! only [sTry, decide_true, rs]
    refine ws_step (δ' := [some (.str (tx l)), some (.int 0), some .non, some (eS s), none, none, none]) (m' := m) (by simp! only [D.isNon]) ?_
    refine ws_stop (d := eS s) (m' := m) ?_ ?_
    · have : decide ((0 : Int) < 2) = true := rfl
      simp! only [this]
    · rw [endA_rt]
      simp only [wp_some]
      exact ⟨by trivial, by trivial⟩
theorem asked_cover {l : List Nat} (hl : l.length ≤ 80000) (m : Store) : f_law_asked_8 [.str (tx l), .int 1] m = match cvV l with
    | some ss => ret (.pl (.cell m.length)) (m ++ [.lst (ss.map eS)])
    | none => ret (.pl (.str "text")) m := by
  have rs := read_cover_2_eq hl m
  have hm : (("NoText" : Str) ∈ kinds) = True := eq_true (by decide +kernel)
  have d10 : decide ((1 : Int) = 0) = false := rfl
  have key : wp (f_law_asked_8 [.str (tx l), .int 1] m) (fun r m' => (∃ ss, cvV l = some ss ∧ r = .ok (.pl (.cell m.length)) ∧ m' = m ++ [.lst (ss.map eS)]) ∨ (cvV l = none ∧ r = .ok (.pl (.str "text")) ∧ m' = m)) := by
    unfold f_law_asked_8 e_law_asked_8
    refine wp_fnA rfl ?_
    refine ws_step (δ' := [some (.str (tx l)), some (.int 1), some .non, none, none, none, none]) (m' := m) (by simp! only []) ?_
    refine ws_step (δ' := [some (.str (tx l)), some (.int 1), some .non, some .non, none, none, none]) (m' := m) (by simp! only []) ?_
    cases q : cvV l with
    | none =>
      rw [q] at rs
      refine ws_step (δ' := [some (.str (tx l)), some (.int 1), some (.exc "NoText"), some .non, none, none, none]) (m' := m) ?_ ?_
      · simp! only [sTry, decide_true, d10, rs, hm]
      refine ws_stop (d := .str "text") (m' := m) ?_ ?_
      · simp! only [D.isNon, text_cls]
      · rw [endA_rt]
        simp only [wp_some]
        exact .inr ⟨by trivial, by trivial, by trivial⟩
    | some ss =>
      rw [q] at rs
      refine ws_step (δ' := [some (.str (tx l)), some (.int 1), some .non, some (.cell m.length), none, none, none]) (m' := m ++ [.lst (ss.map eS)]) ?_ ?_
      · simp! only [sTry, decide_true, d10, rs]
      refine ws_step (δ' := [some (.str (tx l)), some (.int 1), some .non, some (.cell m.length), none, none, none]) (m' := m ++ [.lst (ss.map eS)]) (by simp! only [D.isNon]) ?_
      refine ws_stop (d := .cell m.length) (m' := m ++ [.lst (ss.map eS)]) ?_ ?_
      · have : decide ((1 : Int) < 2) = true := rfl
        simp! only [this]
      · rw [endA_rt]
        simp only [wp_some]
        exact .inl ⟨ss, by trivial, by trivial, by trivial⟩
  obtain ⟨r, m', e, h⟩ := wp_get key
  rcases h with ⟨ss, hv, rfl, rfl⟩ | ⟨hv, rfl, rfl⟩
  · rw [hv]; exact e
  · rw [hv]; exact e
theorem asked_shelf {l : List Nat} (hl : l.length ≤ 80000) (m : Store) : match shV l with
    | some kv => f_law_asked_8 [.str (tx l), .int 2] m = ret (.pl (.cell (m ++ shN m.length kv).length)) (m ++ shN m.length kv ++ [.dK (encV kv)])
    | none => ∃ z, f_law_asked_8 [.str (tx l), .int 2] m = ret (.pl (.str "text")) (m ++ z) := by
  have rs := read_shelf_eq (m := m) hl
  have hm : (("NoText" : Str) ∈ kinds) = True := eq_true (by decide +kernel)
  have d20 : decide ((2 : Int) = 0) = false := rfl
  have d21 : decide ((2 : Int) = 1) = false := rfl
  have key : wp (f_law_asked_8 [.str (tx l), .int 2] m) (fun r m' => (∃ kv, shV l = some kv ∧ r = .ok (.pl (.cell (m ++ shN m.length kv).length)) ∧ m' = m ++ shN m.length kv ++ [.dK (encV kv)]) ∨ (shV l = none ∧ r = .ok (.pl (.str "text")) ∧ ∃ z, m' = m ++ z)) := by
    unfold f_law_asked_8 e_law_asked_8
    refine wp_fnA rfl ?_
    refine ws_step (δ' := [some (.str (tx l)), some (.int 2), some .non, none, none, none, none]) (m' := m) (by simp! only []) ?_
    refine ws_step (δ' := [some (.str (tx l)), some (.int 2), some .non, some .non, none, none, none]) (m' := m) (by simp! only []) ?_
    cases q : shV l with
    | none =>
      rw [q] at rs
      obtain ⟨kv, rs⟩ := rs
      refine ws_step (δ' := [some (.str (tx l)), some (.int 2), some (.exc "NoText"), some .non, none, none, none]) (m' := m ++ shN m.length kv) ?_ ?_
      · simp! only [sTry, decide_true, d20, d21, rs, hm]
      refine ws_stop (d := .str "text") (m' := m ++ shN m.length kv) ?_ ?_
      · simp! only [D.isNon, text_cls]
      · rw [endA_rt]
        simp only [wp_some]
        exact .inr ⟨by trivial, by trivial, _, rfl⟩
    | some kv =>
      rw [q] at rs
      have rs : f_read_shelf [.str (tx l)] m = ret (.pl (.cell m.length)) (m ++ shN m.length kv) := rs
      obtain ⟨M, hM⟩ : ∃ M, M = m ++ shN m.length kv := ⟨_, rfl⟩
      have sh : SH M m.length (m.length + 1) (m.length + 2) (m.length + 3) kv [] [] := by rw [hM]; exact shN_sh m _
      rw [← hM] at rs
      have lim := (shV_some q).1
      have hl64 : kv.length < 64 := by omega
      have nms := Shelf_names_eq (sh.sk) hl64
      rw [shV_names q] at nms
      have nl : kv.length < 100000 := by omega
      have nd := shV_nd q
      refine ws_step (δ' := [some (.str (tx l)), some (.int 2), some .non, some (.cell m.length), none, none, none]) (m' := M) ?_ ?_
      · simp! only [sTry, decide_true, d20, d21, rs]
      refine ws_step (δ' := [some (.str (tx l)), some (.int 2), some .non, some (.cell m.length), none, none, none]) (m' := M) (by simp! only [D.isNon]) ?_
      refine ws_step (δ' := [some (.str (tx l)), some (.int 2), some .non, some (.cell m.length), none, none, none]) (m' := M) ?_ ?_
      · have : decide ((2 : Int) < 2) = false := rfl
        simp! only [this]
      refine ws_step (δ' := [some (.str (tx l)), some (.int 2), some .non, some (.cell m.length), none, some (.cell M.length), none]) (m' := M ++ [.dK (encV [])]) ?_ ?_
      · simp! only [eDNew]
        rfl
      have shA : ∀ p : Kv, SK (M ++ [.dK (encV p)]) m.length (m.length + 1) (m.length + 2) (m.length + 3) kv := fun p => sk_app sh.sk
      refine ws_mid (I := fun δ m' => m' = M ++ [.dK (encV kv)] ∧ ∃ z, δ = [some (.str (tx l)), some (.int 2), some .non, some (.cell m.length), none, some (.cell M.length), z]) ?_ ?_
      · refine ws_forS (wk := ⟨(kv.map (·.1)).map D.str, []⟩) (m' := M ++ [.dK (encV [])]) ?_ ?_
        · have nm2 := Shelf_names_eq (shA []) hl64
          rw [shV_names q] at nm2
          simp! only [fMeth, (shA []).ins, sk_names, nm2, srcOf_lst]
        refine ws_mono (forT (en := D.str) (I := fun r δ m' => ∃ pre : List Str, kv.map (·.1) = pre ++ r ∧ m' = M ++ [.dK (encV (pre.map (ent8 kv)))] ∧ ∃ z, δ = [some (.str (tx l)), some (.int 2), some .non, some (.cell m.length), none, some (.cell M.length), z]) (fun _ _ _ _ => chk_nil) ?_ (l := kv.map (·.1)) ⟨[], rfl, rfl, _, rfl⟩) ?_
        · rintro x r δ m' ⟨pre, hp, rfl, z, rfl⟩
          have xm : x ∈ kv.map (·.1) := by rw [hp]; simp
          refine ⟨[some (.str (tx l)), some (.int 2), some .non, some (.cell m.length), none, some (.cell M.length), some (.str x)], rfl, ?_⟩
          have s2 := shA (pre.map (ent8 kv))
          have sp := Shelf_span_ok s2 xm
          have sw := Shelf_weight_ok s2 xm
          have ap : x ∉ (pre.map (ent8 kv)).map (·.1) := fun hm => by
            rw [List.map_map] at hm
            obtain ⟨y, hy, e⟩ := List.mem_map.mp hm
            have e : y = x := e
            rw [hp] at nd
            exact (List.nodup_append.mp nd).2.2 y hy x List.mem_cons_self e
          have pl : pre.length + 1 ≤ 60 := by
            have := congrArg List.length hp
            rw [List.length_map, List.length_append, List.length_cons] at this
            omega
          have kl : (encV (pre.map (ent8 kv))).length < 100000 := by rw [encV_len, List.length_map]; omega
          have pz : putD (encV (pre.map (ent8 kv))) (.inr x) (.tup [eS (spanV kv x), .int (wtV kv x)]) = encV ((pre ++ [x]).map (ent8 kv)) := by
            rw [List.map_append]
            show _ = encV (pre.map (ent8 kv) ++ [(x, (spanV kv x, wtV kv x))])
            rw [← putV_new ap, ← putV_enc]; rfl
          have cK : cellK (M ++ [.dK (encV (pre.map (ent8 kv)))]) (.cell M.length) = some (M.length, encV (pre.map (ent8 kv))) := cellK_sh app_get
          have sA : (M ++ [Cell.dK (encV (pre.map (ent8 kv)))]).set M.length (Cell.dK (encV ((pre ++ [x]).map (ent8 kv)))) = M ++ [Cell.dK (encV ((pre ++ [x]).map (ent8 kv)))] := set_app0 M [Cell.dK (encV (pre.map (ent8 kv)))] _
          refine ws_last (o := .nx [some (.str (tx l)), some (.int 2), some .non, some (.cell m.length), none, some (.cell M.length), some (.str x)] (M ++ [.dK (encV ((pre ++ [x]).map (ent8 kv)))])) ?_ ⟨_, _, rfl, pre ++ [x], by rw [hp]; simp, rfl, _, rfl⟩
          rw [← sA]
          simp! only [eFld, pLenS, pDictD, pLenD, pDIn, keyD, pSortD, eSlS, sDPutI, fMethS, s2.ins, sk_span, sk_weight, sp, sw, cK, kl, pz]
        · rintro o ⟨δ, m', rfl, pre, hp, rfl, z, rfl⟩
          rw [List.append_nil] at hp
          refine ⟨_, _, rfl, ?_, z, rfl⟩
          rw [← hp, ent8_nd nd]
      rintro δ m' ⟨rfl, z, rfl⟩
      refine ws_last (o := .rt (.cell M.length) (M ++ [.dK (encV kv)])) (by simp! only []) ?_
      rw [endA_rt]
      simp only [wp_some]
      exact .inl ⟨kv, by trivial, by rw [hM], by rw [hM]⟩
  obtain ⟨r, m', e, h⟩ := wp_get key
  rcases h with ⟨ss, hv, rfl, rfl⟩ | ⟨hv, rfl, z, rfl⟩
  · rw [hv]; exact e
  · rw [hv]; exact ⟨z, e⟩
/-! d == e of two dicts whose values are data -/
section
open PySem PySem.Spec PyProof.Rows L2
inductive HitsV (K : PySem.W.Frag) (H : Hp) (ls : List (Key × V)) : List (Key × V) → Bool → Prop
  | nil : HitsV K H ls [] true
  | miss {k : Key} {v : V} {r : List (Key × V)} : valV ls k = none → HitsV K H ls ((k, v) :: r) false
  | hit {k : Key} {v y : V} {r : List (Key × V)} {d e : PyData} {b : Bool} : valV ls k = some y → Dp K H v d → Dp K H y e → d.canLay0 = true → e.canLay0 = true → d.depth ≤ 60 → HitsV K H ls r b → HitsV K H ls ((k, v) :: r) (PyData.eqv d e && b)
theorem hitsV_run {X : Cx} {pins : List (Addr × Obj)} {σ : L2.St} {H : Hp} {s : Shared} (I : Inv X pins σ H s) {A : Around} (hu : A.units + 60 < cLine) {ls : List (Key × V)} {vb : List (Key × Value)} (rb : KV ls vb) {ks : List (Key × V)} {va : List (Key × Value)} (ra : KV ks va) :
    ∀ {r : Bool}, HitsV X.K H ls ks r → PySem.W.KeqHits A s vb va r := by
  unfold KV at ra
  induction ra with
  | nil => intro r h; cases h; exact .nil
  | @cons p q ps qs h t ih =>
    intro r hh
    obtain ⟨k', v'⟩ := p
    obtain ⟨k, v⟩ := q
    obtain ⟨h1, h2⟩ := h
    have h1' : k' = k := h1
    subst h1'
    have rr := rb.val k'
    cases hh with
    | miss hn =>
      refine .miss ?_
      have := rr.isSome_eq
      rw [hn] at this
      cases q : valueAt vb k' with
      | none => rfl
      | some z => rw [q] at this; cases this
    | @hit _ _ y _ d e b hy hd he cd ce dd ht =>
      rw [hy] at rr
      obtain ⟨y', hy', ry⟩ := rr.some_of
      obtain ⟨as, r1⟩ := Dp.reads I d _ _ hd h2
      obtain ⟨bs, r2⟩ := Dp.reads I e _ _ he ry
      exact .hit hy' (SeqAt.eqAt_reads d e A s _ _ as bs r1 r2 cd ce (by have := Nat.min_le_left d.depth e.depth; omega)) (ih ht)
end
def hitsD (ls : List (Key × D)) : List (Key × D) → Bool
  | [] => true
  | (k, d) :: r => match valD ls k with
    | none => false
    | some e => eqb d e && hitsD ls r
theorem Sh.depth' {n : Nat} {d : D} (h : Sh n d) : d.toPy.depth ≤ n := (Sh.all n d h).2.2
theorem valD_mem {kvs : List (Key × D)} {k : Key} {d : D} (h : valD kvs k = some d) : ∃ z ∈ kvs, z.2 = d := by
  unfold valD at h
  cases q : kvs.find? fun kv => decide (kv.1 = k) with
  | none => rw [q] at h; cases h
  | some z => rw [q] at h; exact ⟨z, List.mem_of_find?_eq_some q, Option.some.inj h⟩
theorem hits_rep {K : PySem.W.Frag} {r : List Addr} {F H : Hp} (sm : Same F H) {ls : List (Key × V)} {ls' : List (Key × D)} (hl : RepK K r F ls ls') (sl : ∀ z ∈ ls', Sh 58 z.2) : ∀ {ks : List (Key × V)} {ks' : List (Key × D)}, RepK K r F ks ks' → (∀ z ∈ ks', Sh 58 z.2) → HitsV K H ls ks (hitsD ls' ks')
  | [], [], _, _ => .nil
  | (x, v) :: gs, (y, d) :: fs, h, s => by
    obtain ⟨e, p, q⟩ := h
    subst e
    have s1 := s _ List.mem_cons_self
    unfold hitsD
    rcases rep_val (k := x) hl with ⟨w, e, e1, e2, pw⟩ | ⟨e1, e2⟩
    · rw [e2]
      obtain ⟨z, hz, rfl⟩ := valD_mem e2
      have s2 := sl z hz
      exact .hit e1 (Rep.dp sm s1.pure p) (Rep.dp sm s2.pure pw) s1.canLay s2.canLay (by have : d.toPy.depth ≤ 58 := s1.depth'; omega) (hits_rep sm hl sl q fun z hz => s z (List.mem_cons_of_mem _ hz))
    · rw [e2]
      exact .miss e1
  | [], _ :: _, h, _ => h.elim
  | _ :: _, [], h, _ => h.elim
/-! == of what holds cells that hold cells -/
def dvl (f : D → Option D) : List D → Option (List D)
  | [] => some []
  | d :: ds => (f d).bind fun d' => (dvl f ds).map fun ds' => d' :: ds'
def dvn (m : Store) : Nat → D → Option D
  | 0, d => match d with
    | .cell _ => none
    | .tup _ => none
    | .lst _ => none
    | d => some d
  | n + 1, d => match d with
    | .cell k => match m[k]? with
      | some (.lst xs) => (dvl (dvn m n) xs).map D.lst
      | _ => none
    | .tup ds => (dvl (dvn m n) ds).map D.tup
    | .lst ds => (dvl (dvn m n) ds).map D.lst
    | d => some d
section
variable {K : PySem.W.Frag} {W : WX} {r : List Addr} {F H : Hp} {m : Store}
theorem dvl_dp {f : D → Option D} {k : Nat} (hf : ∀ {v : V} {d d' : D}, Rep K r F v d → f d = some d' → Sh k d' → Dp K H v d'.toPy) : ∀ {vs : List V} {ds ds' : List D}, RepAll K r F vs ds → dvl f ds = some ds' → (∀ x ∈ ds', Sh k x) → DpAll K H vs (D.toPys ds')
  | _, _, _, .nil, e, _ => by rw [dvl] at e; cases e; exact .nil
  | _, _, _, .cons (d := d) (ds := ds) p ps, e, s => by
    rw [dvl] at e
    cases q : f d with
    | none => rw [q] at e; cases e
    | some d' =>
      rw [q] at e
      simp only [Option.bind_some] at e
      cases q2 : dvl f ds with
      | none => rw [q2] at e; cases e
      | some ds' =>
        rw [q2] at e
        cases e
        exact .cons (hf p q (s _ List.mem_cons_self)) (dvl_dp hf ps q2 fun x hx => s x (List.mem_cons_of_mem _ hx))
theorem dvn_dp (hr : HR K r F H m) : ∀ (n : Nat) {v : V} {d d' : D} {k : Nat}, Rep K r F v d → dvn m n d = some d' → Sh k d' → Dp K H v d'.toPy := by
  intro n
  induction n with
  | zero =>
    intro v d d' k p e s
    cases p with
    | non => cases e; exact .non
    | bl b => cases e; exact .bl b
    | int i => cases e; exact .int i
    | str x => cases e; exact .str x
    | lst h t => cases e
    | tup h t => cases e
    | cell ea => cases e
    | scr h => cases e; exact Rep.dp (r := r) hr.sub rfl (.scr h)
    | exc h => cases e; exact absurd s.pure (by simp [D.pure])
  | succ n ih =>
    intro v d d' k p e s
    cases p with
    | non => cases e; exact .non
    | bl b => cases e; exact .bl b
    | int i => cases e; exact .int i
    | str x => cases e; exact .str x
    | lst h t =>
      rw [dvn] at e
      cases q : dvl (dvn m n) _ with
      | none => rw [q] at e; cases e
      | some ds =>
        rw [q] at e; cases e
        cases k with
        | zero => exact absurd s (by simp [Sh])
        | succ k => exact .lst (SqL.of (hr.sub _ _ h)) (dvl_dp (k := k) (fun p e s => ih p e s) t q s)
    | tup h t =>
      rw [dvn] at e
      cases q : dvl (dvn m n) _ with
      | none => rw [q] at e; cases e
      | some ds =>
        rw [q] at e; cases e
        cases k with
        | zero => exact absurd s (by simp [Sh])
        | succ k => exact .tup (SqT.of (hr.sub _ _ h)) (dvl_dp (k := k) (fun p e s => ih p e s) t q s)
    | cell ea =>
      rw [dvn] at e
      split at e
      · rename_i xs hk
        obtain ⟨_, vs, h1, h2⟩ := hr.cell _ _ _ ea hk rfl
        cases q : dvl (dvn m n) xs with
        | none => rw [q] at e; cases e
        | some ds =>
          rw [q] at e; cases e
          cases k with
          | zero => exact absurd s (by simp [Sh])
          | succ k => exact .lst (SqL.of h1) (dvl_dp (k := k) (fun p e s => ih p e s) h2 q s)
      · cases e
    | scr h => cases e; exact Rep.dp (r := r) hr.sub rfl (.scr h)
    | exc h => cases e; exact absurd s.pure (by simp [D.pure])
open Classical in
noncomputable def pNeU : D → D → Store → MX D := fun x y m => (dvn m 4 x).bind fun x => (dvn m 4 y).bind fun y => if Sh 60 x ∧ Sh 60 y then ret (.bl (!eqb x y)) m else none
theorem s2_pNeU : S2 K W (rNeD K) pNeU := fun x y m res m' e r F H σ vx vy hr px py => by
  unfold pNeU at e
  cases h1 : dvn m 4 x with
  | none => rw [h1] at e; cases e
  | some x' =>
    rw [h1] at e
    cases h2 : dvn m 4 y with
    | none => rw [h2] at e; cases e
    | some y' =>
      rw [h2] at e
      simp only [Option.bind_some] at e
      split at e
      · rename_i hs
        cases e
        exact fun Q q => ⟨_, _, dvn_dp hr 4 px h1 hs.1, dvn_dp hr 4 py h2 hs.2, hs.1.shaped (by omega), hs.2.shaped (by omega), q _ r F H hr (Ext.refl hr) (.bl _)⟩
      · cases e
theorem dvl_id {f : D → Option D} : ∀ {ds : List D}, (∀ d ∈ ds, f d = some d) → dvl f ds = some ds
  | [], _ => rfl
  | d :: ds, h => by
    rw [dvl, h d List.mem_cons_self, dvl_id fun x hx => h x (List.mem_cons_of_mem _ hx)]; rfl
end
/-! != of data, of dicts whose values are data -/
section
open PySem PySem.Spec PyProof.Rows L2
def rNeX (K : PySem.W.Frag) : R2 := fun x y H Q => rNeD K x y H Q ∨ ∃ a b ks ls r, x = .ref a ∧ y = .ref b ∧ H a = some (.dK ks) ∧ H b = some (.dK ls) ∧ HitsV K H ls ks r ∧ Q (.bl (!(ks.length == ls.length && r))) H
theorem op_neX {X : Cx} (hu : X.A.units + 64 < cLine) : OpR X (compareOp .NotEq) (rNeX X.K) := by
  intro pins s σ H x y v u Q I rx ry h
  rcases h with h | ⟨a, b, ks, ls, r, rfl, rfl, ea, eb, hits, q⟩
  · exact op_neD hu pins s σ H x y v u Q I rx ry h
  obtain rfl : v = Value.ref a := rx
  obtain rfl : u = Value.ref b := ry
  obtain ⟨_, ya, va, ra, da⟩ := (show ObjOk X.prog X.w H s.heap a (.dK ks) from I.hok a _ ea)
  obtain ⟨_, yb, vb, rb, db⟩ := (show ObjOk X.prog X.w H s.heap b (.dK ls) from I.hok b _ eb)
  have hl : (ks.length == ls.length) = (va.length == vb.length) := by rw [ra.length, rb.length]
  exact PySem.W.keq_ne (knd := mixKind X.prog X.w) (r := r) ya yb da db (by omega) (fun _ => hitsV_run I (by show X.A.units + 1 + 60 < cLine; omega) rb ra hits) (fin_bl I q (by rw [hl]))
open Classical in
noncomputable def pNeX : D → D → Store → MX D := fun x y m => match cellK m x, cellK m y with
  | some p, some q => if (∀ z ∈ p.2, Sh 58 z.2) ∧ (∀ z ∈ q.2, Sh 58 z.2) then ret (.bl (!(p.2.length == q.2.length && hitsD q.2 p.2))) m else none
  | _, _ => pNeU x y m
theorem s2_pNeX {K : PySem.W.Frag} {W : WX} : S2 K W (rNeX K) pNeX := fun x y m res m' e r F H σ vx vy hr px py => by
  have old : pNeU x y m = some (res, m') → JAt K W (RE K) r F H σ m (rNeX K vx vy) res m' := fun z => by
    have k := s2_pNeU (W := W) x y m res m' z r F H σ vx vy hr px py
    cases res with
    | ok d => exact fun Q q => .inl (k Q q)
    | ex c => exact fun q Q => .inl (k q Q)
  unfold pNeX at e
  cases h0 : cellK m x with
  | none => rw [h0] at e; exact old e
  | some p =>
    cases h1 : cellK m y with
    | none => rw [h0, h1] at e; exact old e
    | some q =>
      obtain ⟨j, ks⟩ := p
      obtain ⟨j2, ls⟩ := q
      rw [h0, h1] at e
      dsimp only at e
      split at e
      · rename_i hs
        cases e
        obtain ⟨a, gs, rfl, _, _, h3, h4⟩ := cellK_get h0 hr px
        obtain ⟨b, hs2, rfl, _, _, h5, h6⟩ := cellK_get h1 hr py
        refine fun Q q => .inr ⟨a, b, gs, hs2, _, rfl, rfl, h3, h5, hits_rep hr.sub h6 hs.2 h4 hs.1, ?_⟩
        rw [rep_len h4, rep_len h6]
        exact q _ r F H hr (Ext.refl hr) (.bl _)
      · cases e
end
noncomputable def e_law_right_14 : MS :=
  (sSeq (sFor (wList (dat (fLst (aCons (eTup (aCons (eC (.int 0)) (aCons (pla (fCall0 f_law_span_read (aCons (eVar 0) aNil))) aNil))) (aCons (eTup (aCons (eC (.int 1)) (aCons (dat (fCall0 f_law_cover_read (aCons (eVar 0) aNil))) aNil))) (aCons (eTup (aCons (eC (.int 2)) (aCons (dat (fCall0 f_law_shelf_read (aCons (eVar 0) aNil))) aNil))) aNil)))))) (mTup (msCons (mName 1) (msCons (mName 2) msNil)))
    (sSeq (sIf (tst (eOp pIsN (eVar 2) (eC .non))) (sSet 2 (eC (.str "text"))) sNext)
    (sIf (tst (eOp pNeX (dat (fCall f_law_asked_8 (aCons (eVar 0) (aCons (eVar 1) aNil)))) (eVar 2))) (sRet (eC (.bl false))) sNext)))
    (sRet (eC (.bl true))))
noncomputable def f_law_right_14 : FnS := fnOf 1 3 e_law_right_14
theorem dvn_flat {m : Store} {d : D} {n : Nat} (h : flatD d = true) : dvn m n d = some d := by
  cases n <;> cases d <;> first | rfl | cases h
theorem dvn_eS {m : Store} {n : Nat} (s : Sp2) : dvn m (n + 1) (eS s) = some (eS s) := by
  show (dvl (dvn m n) [.int s.1, .int s.2]).map D.tup = _
  rw [dvl_id fun d hd => dvn_flat (by
    have : d = .int s.1 ∨ d = .int s.2 := by simpa using hd
    rcases this with rfl | rfl <;> rfl)]
  rfl
theorem neX_same {m : Store} {x y z : D} (hx : cellK m x = none) (h1 : dvn m 4 x = some z) (h2 : dvn m 4 y = some z) (s : Sh 60 z) : pNeX x y m = ret (.bl false) m := by
  unfold pNeX
  rw [hx]
  show pNeU x y m = _
  unfold pNeU
  rw [h1, h2]
  simp only [Option.bind_some]
  rw [if_pos ⟨s, s⟩, eqb_self]
  rfl
theorem hits_self {kv : Kv} (nd : (kv.map (·.1)).Nodup) : ∀ {ka : Kv}, (∀ p ∈ ka, p ∈ kv) → hitsD (encV kv) (encV ka) = true
  | [], _ => rfl
  | (x, e) :: ka, h => by
    show (match valD (encV kv) (.inr x) with
      | none => false
      | some f => eqb (eE e) f && hitsD (encV kv) (encV ka)) = true
    rw [valV_enc, look_mem (x := x) (e := e) nd (h (x, e) List.mem_cons_self)]
    show (eqb (eE e) (eE e) && hitsD (encV kv) (encV ka)) = true
    rw [eqb_self, Bool.true_and]
    exact hits_self nd fun p hp => h p (List.mem_cons_of_mem _ hp)
theorem neX_dict {m : Store} {a b : Nat} {kv : Kv} (nd : (kv.map (·.1)).Nodup) (ha : m[a]? = some (.dK (encV kv))) (hb : m[b]? = some (.dK (encV kv))) : pNeX (.cell a) (.cell b) m = ret (.bl false) m := by
  have sh : ∀ k : Kv, ∀ z ∈ encV k, Sh 58 z.2 := fun k z hz => by
    obtain ⟨p, _, rfl⟩ := List.mem_map.mp hz
    exact sh_two (n := 57) sh_eS sh_int
  unfold pNeX
  rw [cellK_sh ha, cellK_sh hb]
  dsimp only
  rw [if_pos ⟨sh kv, sh kv⟩, hits_self nd fun p hp => hp]
  simp
def cvD : Option (List Sp2) → D
  | some ss => .lst (ss.map eS)
  | none => .non
def shD (k : Nat) : Option Kv → D
  | some _ => .cell k
  | none => .non
def shZ : Option Kv → Store
  | some kv => [.dK (encV kv)]
  | none => []
theorem sh_text {n : Nat} : Sh n (.str "text") := sh_str (by decide +kernel)
theorem law_right_14_ok {l : List Nat} (hl : l.length ≤ 80000) (m : Store) : f_law_right_14 [.str (tx l)] m = ret (.pl (.bl true)) m := by
  have r0 := law_span_read_eq hl m
  have r1 := law_cover_read_eq hl m
  have r2 : f_law_shelf_read [.str (tx l)] m = ret (.pl (shD m.length (shV l))) (m ++ shZ (shV l)) := by
    have := law_shelf_read_eq hl m
    cases q : shV l with
    | none => rw [q] at this; rw [show m ++ shZ none = m from List.append_nil m]; exact this
    | some kv => rw [q] at this; exact this
  have d1 : (cvF (cvV l)).dat = cvD (cvV l) := by cases cvV l <;> rfl
  obtain ⟨M, hM⟩ : ∃ M, M = m ++ shZ (shV l) := ⟨_, rfl⟩
  rw [← hM] at r2
  have ext : ∀ z : Store, ∃ y, M ++ z = m ++ y := fun z => ⟨shZ (shV l) ++ z, by rw [hM, List.append_assoc]⟩
  have key : wp (f_law_right_14 [.str (tx l)] m) (fun r m' => r = .ok (.pl (.bl true)) ∧ m' = m) := by
    unfold f_law_right_14 e_law_right_14
    refine wp_fnI rfl ?_
    refine ws_mid (I := fun δ m' => ∃ z, m' = M ++ z) ?_ ?_
    · refine ws_forS (wk := ⟨[.tup [.int 0, osD (spV l)], .tup [.int 1, cvD (cvV l)], .tup [.int 2, shD m.length (shV l)]], []⟩) (m' := M) ?_ ?_
      · simp! only [r0, r1, r2, srcOf_lst]
        rw [← d1]
        rfl
      -- the three ways
      have turn : ∀ (w : Int) (d : D) (δ : En) (z : Store), (w = 0 ∧ d = osD (spV l)) ∨ (w = 1 ∧ d = cvD (cvV l)) ∨ (w = 2 ∧ d = shD m.length (shV l)) →
          ∃ z', ws (sSeq (sIf (tst (eOp pIsN (eVar 2) (eC .non))) (sSet 2 (eC (.str "text"))) sNext) (sIf (tst (eOp pNeX (dat (fCall f_law_asked_8 (aCons (eVar 0) (aCons (eVar 1) aNil)))) (eVar 2))) (sRet (eC (.bl false))) sNext) [some (.str (tx l)), some (.int w), some d] (M ++ z)) (fun o => ∃ d', o = .nx [some (.str (tx l)), some (.int w), some d'] (M ++ z')) := by
        rintro w d δ z (⟨rfl, rfl⟩ | ⟨rfl, rfl⟩ | ⟨rfl, rfl⟩)
        · have a := asked_span hl (M ++ z)
          refine ⟨z, ?_⟩
          cases q : spV l with
          | none =>
            rw [q] at a
            refine ws_step (δ' := [some (.str (tx l)), some (.int 0), some (.str "text")]) (m' := M ++ z) (by simp! only [osD, D.isNon]) ?_
            refine ws_last (o := .nx [some (.str (tx l)), some (.int 0), some (.str "text")] (M ++ z)) ?_ ⟨_, rfl⟩
            have ne := neX_same (m := M ++ z) (x := .str "text") (y := .str "text") rfl (dvn_flat rfl) (dvn_flat rfl) sh_text
            simp! only [a, txD, ne]
          | some s =>
            rw [q] at a
            refine ws_step (δ' := [some (.str (tx l)), some (.int 0), some (eS s)]) (m' := M ++ z) (by simp! only [osD, eS, D.isNon]) ?_
            refine ws_last (o := .nx [some (.str (tx l)), some (.int 0), some (eS s)] (M ++ z)) ?_ ⟨_, rfl⟩
            have ne := neX_same (m := M ++ z) (x := eS s) (y := eS s) rfl (dvn_eS s) (dvn_eS s) sh_eS
            simp! only [a, txD, ne]
        · have a := asked_cover hl (M ++ z)
          cases q : cvV l with
          | none =>
            rw [q] at a
            refine ⟨z, ?_⟩
            refine ws_step (δ' := [some (.str (tx l)), some (.int 1), some (.str "text")]) (m' := M ++ z) (by simp! only [cvD, D.isNon]) ?_
            refine ws_last (o := .nx [some (.str (tx l)), some (.int 1), some (.str "text")] (M ++ z)) ?_ ⟨_, rfl⟩
            have ne := neX_same (m := M ++ z) (x := .str "text") (y := .str "text") rfl (dvn_flat rfl) (dvn_flat rfl) sh_text
            simp! only [a, ne]
          | some ss =>
            rw [q] at a
            have a : f_law_asked_8 [.str (tx l), .int 1] (M ++ z) = ret (.pl (.cell (M ++ z).length)) (M ++ z ++ [.lst (ss.map eS)]) := a
            refine ⟨z ++ [.lst (ss.map eS)], ?_⟩
            obtain ⟨N, hN⟩ : ∃ N, N = M ++ z := ⟨_, rfl⟩
            rw [← List.append_assoc, ← hN]
            rw [← hN] at a
            refine ws_step (δ' := [some (.str (tx l)), some (.int 1), some (.lst (ss.map eS))]) (m' := N) (by simp! only [cvD, D.isNon]) ?_
            refine ws_last (o := .nx [some (.str (tx l)), some (.int 1), some (.lst (ss.map eS))] (N ++ [.lst (ss.map eS)])) ?_ ⟨_, rfl⟩
            have g : (N ++ [Cell.lst (ss.map eS)])[N.length]? = some (.lst (ss.map eS)) := app_get
            have e3 : dvl (dvn (N ++ [Cell.lst (ss.map eS)]) 3) (ss.map eS) = some (ss.map eS) := dvl_id fun d hd => by
              obtain ⟨s, _, rfl⟩ := List.mem_map.mp hd
              exact dvn_eS s
            have ne := neX_same (m := N ++ [.lst (ss.map eS)]) (x := .cell N.length) (y := .lst (ss.map eS)) (z := .lst (ss.map eS)) (by unfold cellK; dsimp only; rw [g]) (by
              show (match (N ++ [Cell.lst (ss.map eS)])[N.length]? with
                | some (.lst xs) => (dvl (dvn (N ++ [Cell.lst (ss.map eS)]) 3) xs).map D.lst
                | _ => none) = _
              rw [g]
              dsimp only
              rw [e3]
              rfl) (by
              show (dvl (dvn (N ++ [Cell.lst (ss.map eS)]) 3) (ss.map eS)).map D.lst = _
              rw [e3]
              rfl) sh_spans
            simp! only [a, ne]
        · have a := asked_shelf hl (M ++ z)
          cases q : shV l with
          | none =>
            rw [q] at a
            obtain ⟨z1, a⟩ := a
            refine ⟨z ++ z1, ?_⟩
            rw [← List.append_assoc]
            refine ws_step (δ' := [some (.str (tx l)), some (.int 2), some (.str "text")]) (m' := M ++ z) (by simp! only [shD, D.isNon]) ?_
            refine ws_last (o := .nx [some (.str (tx l)), some (.int 2), some (.str "text")] (M ++ z ++ z1)) ?_ ⟨_, rfl⟩
            have ne := neX_same (m := M ++ z ++ z1) (x := .str "text") (y := .str "text") rfl (dvn_flat rfl) (dvn_flat rfl) sh_text
            simp! only [a, ne]
          | some kv =>
            rw [q] at a hM
            obtain ⟨N, hN⟩ : ∃ N, N = M ++ z ++ shN (M ++ z).length kv := ⟨_, rfl⟩
            have a : f_law_asked_8 [.str (tx l), .int 2] (M ++ z) = ret (.pl (.cell N.length)) (N ++ [.dK (encV kv)]) := by rw [hN]; exact a
            refine ⟨z ++ shN (M ++ z).length kv ++ [.dK (encV kv)], ?_⟩
            rw [← List.append_assoc, ← List.append_assoc, ← hN]
            refine ws_step (δ' := [some (.str (tx l)), some (.int 2), some (.cell m.length)]) (m' := M ++ z) (by simp! only [shD, D.isNon]) ?_
            refine ws_last (o := .nx [some (.str (tx l)), some (.int 2), some (.cell m.length)] (N ++ [.dK (encV kv)])) ?_ ⟨_, rfl⟩
            have g1 : (N ++ [Cell.dK (encV kv)])[N.length]? = some (.dK (encV kv)) := app_get
            have g2 : (N ++ [Cell.dK (encV kv)])[m.length]? = some (.dK (encV kv)) := by
              have e1 : N ++ [Cell.dK (encV kv)] = m ++ ([Cell.dK (encV kv)] ++ (z ++ (shN (M ++ z).length kv ++ [Cell.dK (encV kv)]))) := by
                rw [hN, hM]
                simp only [shZ, List.append_assoc]
              rw [e1]
              exact get_app0 _ _
            have ne := neX_dict (shV_nd q) g1 g2
            simp! only [a, ne]
      refine ws_forT (en := fun p : Int × D => D.tup [.int p.1, p.2]) (I := fun r δ m' => (∃ z, m' = M ++ z) ∧ (∃ z1 z2, δ = [some (.str (tx l)), z1, z2]) ∧ ∀ p ∈ r, (p.1 = 0 ∧ p.2 = osD (spV l)) ∨ (p.1 = 1 ∧ p.2 = cvD (cvV l)) ∨ (p.1 = 2 ∧ p.2 = shD m.length (shV l))) (fun _ _ _ _ => chk_nil) ?_ ?_ (l := [(0, osD (spV l)), (1, cvD (cvV l)), (2, shD m.length (shV l))]) ⟨⟨[], by rw [List.append_nil]⟩, ⟨_, _, rfl⟩, fun p hp => by
        have : p = (0, osD (spV l)) ∨ p = (1, cvD (cvV l)) ∨ p = (2, shD m.length (shV l)) := by simpa using hp
        rcases this with rfl | rfl | rfl
        · exact .inl ⟨rfl, rfl⟩
        · exact .inr (.inl ⟨rfl, rfl⟩)
        · exact .inr (.inr ⟨rfl, rfl⟩)⟩
      · rintro δ m' ⟨⟨z, rfl⟩, _, _⟩
        exact ⟨_, _, rfl, z, rfl⟩
      · rintro p r δ m' ⟨⟨z, rfl⟩, ⟨z1, z2, rfl⟩, hp⟩
        refine ⟨[some (.str (tx l)), some (.int p.1), some p.2], rfl, ?_⟩
        obtain ⟨z', h⟩ := turn p.1 p.2 [] z (hp p List.mem_cons_self)
        refine ws_mono h ?_
        rintro o ⟨d', rfl⟩
        exact ⟨⟨z', rfl⟩, ⟨_, _, rfl⟩, fun q hq => hp q (List.mem_cons_of_mem _ hq)⟩
    rintro δ m' ⟨z, rfl⟩
    obtain ⟨y, hy⟩ := ext z
    rw [hy]
    refine ws_last (o := .rt (.bl true) (m ++ y)) (by simp! only []) ?_
    simp_arith only []
    rw [fin_plain (m0 := m) (m := m) (l := y) rfl (Tidy.refl _) rfl]
    exact ⟨rfl, rfl⟩
  exact eq_of_wp key
def wW (ws : List Str) : Nat := (ws.map fun w => w.length + 1).sum
theorem wW_cons (w : Str) (ws : List Str) : wW (w :: ws) = w.length + 1 + wW ws := rfl
theorem wW_app (a b : List Str) : wW (a ++ b) = wW a + wW b := by unfold wW; rw [List.map_append, List.sum_append]
theorem wW_perm {a b : List Str} (h : a.Perm b) : wW a = wW b := (h.map _).sum_nat
theorem wW_len (ws : List Str) : ws.length ≤ wW ws := by
  induction ws with
  | nil => exact Nat.le_refl _
  | cons w ws ih => rw [wW_cons, List.length_cons]; omega
theorem wW_join (ws : List Str) : wW ws = (ws.map (·.length)).sum + ws.length := by
  induction ws with
  | nil => rfl
  | cons w ws ih => rw [wW_cons, ih, List.map_cons, List.sum_cons, List.length_cons]; omega
theorem spl_sum (s : Nat) : ∀ l acc : List Nat, ((TL.spl [s] 0 acc l).map fun p => p.length + 1).sum = acc.length + l.length + 1
  | [], acc => by rw [TL.spl_nil]; simp
  | c :: r, acc => by
    cases h : TL.pre [s] (c :: r) with
    | true =>
      rw [TL.spl_hit h, List.map_cons, List.sum_cons]
      have := spl_sum s r []
      simp only [List.length_nil] at this
      rw [show ([s].length - 1) = 0 from rfl, this, List.length_cons]
      omega
    | false =>
      rw [TL.spl_miss h, spl_sum s r (acc ++ [c]), List.length_append, List.length_cons, List.length_cons, List.length_nil]
      omega
theorem wW_split (T : Str) : wW (Txt.split T (" " : Str)) = T.length + 1 := by
  have h := TL.split_spl T (" " : Str) (by rw [sp1_tl]; simp) (TL.kind_ok (by decide +kernel))
  rw [sp1_tl] at h
  have s := spl_sum 32 (TL.tl T) []
  rw [← h, List.map_map] at s
  have lT : (TL.tl T).length = T.length := by show T.cps.toList.length = T.cps.size; simp
  have e : wW (Txt.split T (" " : Str)) = ((Txt.split T (" " : Str)).map ((fun p => p.length + 1) ∘ TL.tl)).sum := by
    unfold wW
    congr 1
  rw [e, s, lT]; simp
theorem joinL_sum : ∀ ls : List (List Nat), (TL.joinL [32] ls).length ≤ (ls.map fun l => l.length + 1).sum
  | [] => Nat.zero_le _
  | [a] => by show a.length ≤ _; simp
  | a :: b :: r => by
    show (a ++ ([32] ++ TL.joinL [32] (b :: r))).length ≤ _
    have := joinL_sum (b :: r)
    rw [List.length_append, List.length_append, List.map_cons, List.sum_cons]
    simp only [List.length_cons, List.length_nil]
    omega
theorem join_wW (ws : List Str) : (Txt.join (" " : Str) ws).length ≤ wW ws := by
  have e : TL.tl (Txt.join (" " : Str) ws) = TL.joinL [32] (ws.map TL.tl) := by
    rw [TL.join_eq, TL.tl_join, sp1_tl]
  have l : (TL.tl (Txt.join (" " : Str) ws)).length = (Txt.join (" " : Str) ws).length := by
    show (Txt.join (" " : Str) ws).cps.toList.length = (Txt.join (" " : Str) ws).cps.size; simp
  have j := joinL_sum (ws.map TL.tl)
  rw [← e, l, List.map_map] at j
  refine Nat.le_trans j (Nat.le_of_eq ?_)
  unfold wW
  congr 1
theorem join_bd {ws : List Str} {n : Nat} (h : wW ws ≤ n) (hn : n ≤ 16777216) : ((ws.map (·.length)).sum + ws.length * (" " : Str).length ≤ 16777216) = True := by
  have l : (" " : Str).length = 1 := by decide +kernel
  rw [l, Nat.mul_one, ← wW_join]
  exact eq_true (by omega)
/-! xs[:0:-1] -/
open PySem PySem.Spec PyProof.Rows L2 PySem.W
theorem addS_len {a b : Str} (h : a.length + b.length ≤ 100000) (m : Store) : pAddS (.str a) (.str b) m = ret (.str (a ++ b)) m := by
  unfold pAddS
  dsimp only
  rw [if_pos h]
theorem app_len (a b : Str) : (a ++ b).length = a.length + b.length := by
  show (a.cps ++ b.cps).size = _
  rw [Array.size_append]; rfl
theorem cutS_to {T : Str} {j : Nat} : ∃ a : Str, L2.cutS T none (some (j : Int)) = a ∧ a.length = min j T.length := ⟨_, rfl, by
  rw [← tx_of T, tx_to, tx_len, List.length_take, tx_len]⟩
theorem cutS_from {T : Str} {j : Nat} : ∃ a : Str, L2.cutS T (some (j : Int)) none = a ∧ a.length = T.length - j := ⟨_, rfl, by
  rw [← tx_of T, tx_from, tx_len, List.length_drop, tx_len]⟩
noncomputable def e_law_spoilt_2 : MS :=
  (sSeq (sSet 2 (pla (fCall0 f_law_draw (aCons (eVar 0) (aCons (eC (.int 8)) aNil)))))
    (sSeq (sSet 3 (pla (fCall0 f_law_draw (aCons (eVar 0) (aCons (eOp pAdd (eCB pLenS (aCons (eVar 1) aNil)) (eC (.int 1))) aNil)))))
    (sSeq (sSet 4 (dat (fSplit (eVar 1) (eC (.str " ")))))
    (sSeq (sSet 5 (pla (fCall0 f_law_draw (aCons (eVar 0) (aCons (eCB pLen (aCons (eVar 4) aNil)) aNil)))))
    (sSeq (sSet 6 (eOp pAddS (eC (.str "0123456789-. abz")) (eC (.str "\n"))))
    (sSeq (sIf (tst (eOp pEq (pla (fCall0 f_law_draw (aCons (eVar 0) (aCons (eC (.int 3)) aNil)))) (eC (.int 0)))) (sSet 6 (eC (.str " !#$&'()*+,-./0123456789:;<=>?@ABCXYZ[]^_`abcxyz{|}~"))) sNext)
    (sSeq (sSet 7 (eOp pIxS (eVar 6) (pla (fCall0 f_law_draw (aCons (eVar 0) (aCons (eCB pLenS (aCons (eVar 6) aNil)) aNil))))))
    (sSeq (sSet 8 (dat (fLst (aCons (eC (.str "-0")) (aCons (eC (.str "00")) (aCons (eC (.str "01")) (aCons (eC (.str "+1")) (aCons (eC (.str "1..2")) (aCons (eC (.str "2..1")) (aCons (eC (.str "3..3")) (aCons (eC (.str "..")) (aCons (eC (.str "1..2..3")) (aCons (eC (.str "1...2")) (aCons (eC (.str "-1..-0")) (aCons (eC (.str "1000000000")) aNil)))))))))))))))
    (sSeq (sSet 8 (dat (fOp pCat (eVar 8) (dat (fLst (aCons (eC (.str "1000000001")) (aCons (eC (.str "999999999999")) aNil)))))))
    (sSeq (sSet 8 (dat (fOp pCat (eVar 8) (dat (fLst (aCons (eC (.str "1000000000000")) (aCons (eC (.str "0..1000000000000")) (aCons (eC (.str "-1000000000000..0")) (aCons (eC (.str "A")) (aCons (eC (.str "aaaaaaaaa")) (aCons (eC (.str "")) (aCons (eC (.str "1.2")) aNil))))))))))))
    (sSeq (sIf (tst (eOp pEq (eVar 2) (eC (.int 0)))) (sRet (eOp pAddS (eSlS (eVar 1) oNone (oSome (eVar 3))) (eSlS (eVar 1) (oSome (eOp pAdd (eVar 3) (eC (.int 1)))) oNone))) sNext)
    (sSeq (sIf (tst (eOp pLt (eVar 2) (eC (.int 3)))) (sRet (eOp pAddS (eOp pAddS (eSlS (eVar 1) oNone (oSome (eVar 3))) (eVar 7)) (eSlS (eVar 1) (oSome (eVar 3)) oNone))) sNext)
    (sSeq (sIf (tst (eOp pEq (eVar 2) (eC (.int 3)))) (sRet (eOp pAddS (eOp pAddS (eSlS (eVar 1) oNone (oSome (eVar 3))) (eVar 7)) (eSlS (eVar 1) (oSome (eOp pAdd (eVar 3) (eC (.int 1)))) oNone))) sNext)
    (sSeq (sIf (tst (eOp pEq (eVar 2) (eC (.int 4)))) (sRet (eJoin (eC (.str " ")) (dat (fOp pCat (dat (fOp pCat (dat (fSl (eVar 4) oNone (oSome (eVar 5)))) (dat (fLst (aCons (eOp pIxL (eVar 8) (pla (fCall0 f_law_draw (aCons (eVar 0) (aCons (eCB pLen (aCons (eVar 8) aNil)) aNil))))) aNil))))) (dat (fSl (eVar 4) (oSome (eOp pAdd (eVar 5) (eC (.int 1)))) oNone)))))) sNext)
    (sSeq (sIf (tst (eOp pEq (eVar 2) (eC (.int 5)))) (sRet (eJoin (eC (.str " ")) (dat (fOp pCat (dat (fOp pCat (dat (fSl (eVar 4) oNone (oSome (eVar 5)))) (dat (fLst (aCons (eOp pIxL (eVar 4) (eVar 5)) aNil))))) (dat (fSl (eVar 4) (oSome (eVar 5)) oNone)))))) sNext)
    (sSeq (sIf (tst (eOp pEq (eVar 2) (eC (.int 6)))) (sRet (eJoin (eC (.str "\n")) (dat (fRev (dat (fSplit (eVar 1) (eC (.str "\n")))))))) sNext)
    (sRet (eOp pAddS (eOp pAddS (eVar 1) (eOp pIxL (dat (fLst (aCons (eC (.str "\n")) (aCons (eC (.str " ")) aNil)))) (eOp pMod (eVar 3) (eC (.int 2))))) (eVar 1)))))))))))))))))))
noncomputable def f_law_spoilt_2 : FnS := fnOf 2 9 e_law_spoilt_2
theorem wW_rows (T : Str) : wW (Txt.split T ("\n" : Str)) = T.length + 1 := by
  have h := TL.split_spl T ("\n" : Str) (by rw [nl_tl]; simp) (TL.kind_ok (by decide +kernel))
  rw [nl_tl] at h
  have s := spl_sum 10 (TL.tl T) []
  rw [← h, List.map_map] at s
  have lT : (TL.tl T).length = T.length := by show T.cps.toList.length = T.cps.size; simp
  have e : wW (Txt.split T ("\n" : Str)) = ((Txt.split T ("\n" : Str)).map ((fun p => p.length + 1) ∘ TL.tl)).sum := by
    unfold wW
    congr 1
  rw [e, s, lT]; simp
theorem joinN_sum : ∀ ls : List (List Nat), (TL.joinL [10] ls).length ≤ (ls.map fun l => l.length + 1).sum
  | [] => Nat.zero_le _
  | [a] => by show a.length ≤ _; simp
  | a :: b :: r => by
    show (a ++ ([10] ++ TL.joinL [10] (b :: r))).length ≤ _
    have := joinN_sum (b :: r)
    rw [List.length_append, List.length_append, List.map_cons, List.sum_cons]
    simp only [List.length_cons, List.length_nil]
    omega
theorem joinN_wW (ws : List Str) : (Txt.join ("\n" : Str) ws).length ≤ wW ws := by
  have e : TL.tl (Txt.join ("\n" : Str) ws) = TL.joinL [10] (ws.map TL.tl) := by
    rw [TL.join_eq, TL.tl_join, nl_tl]
  have l : (TL.tl (Txt.join ("\n" : Str) ws)).length = (Txt.join ("\n" : Str) ws).length := by
    show (Txt.join ("\n" : Str) ws).cps.toList.length = (Txt.join ("\n" : Str) ws).cps.size; simp
  have j := joinN_sum (ws.map TL.tl)
  rw [← e, l, List.map_map] at j
  refine Nat.le_trans j (Nat.le_of_eq ?_)
  unfold wW
  congr 1
theorem joinN_bd {ws : List Str} {n : Nat} (h : wW ws ≤ n) (hn : n ≤ 16777216) : ((ws.map (·.length)).sum + ws.length * ("\n" : Str).length ≤ 16777216) = True := by
  have l : ("\n" : Str).length = 1 := by decide +kernel
  rw [l, Nat.mul_one, ← wW_join]
  exact eq_true (by omega)
abbrev sodd1 : List Str := ["-0", "00", "01", "+1", "1..2", "2..1", "3..3", "..", "1..2..3", "1...2", "-1..-0", "1000000000"]
abbrev sodd2 : List Str := ["1000000001", "999999999999"]
abbrev sodd3 : List Str := ["1000000000000", "0..1000000000000", "-1000000000000..0", "A", "aaaaaaaaa", "", "1.2"]
def sodd : List Str := sodd1 ++ sodd2 ++ sodd3
theorem sodd_len : sodd.length = 21 := by decide +kernel
theorem sodd_20 : ∀ w ∈ sodd, w.length ≤ 20 := by decide +kernel
abbrev sgA : Str := "0123456789-. abz"
abbrev sgB : Str := " !#$&'()*+,-./0123456789:;<=>?@ABCXYZ[]^_`abcxyz{|}~"
theorem law_spoilt_2_ok {m : Store} {k b : Nat} {p : Purse} {T : Str} (hk : m[k]? = some (ePu p)) (hp : Pok (b + 10) p) (hT : T.length ≤ 30000) :
    ∃ (T' : Str) (p' : Purse), f_law_spoilt_2 [.cell k, .str T] m = ret (.pl (.str T')) (m.set k (ePu p')) ∧ T'.length ≤ 2 * T.length + 40 ∧ Pok b p' := by
  have hk0 : k < m.length := (List.getElem?_eq_some_iff.mp hk).1
  have gk : ∀ q : Purse, (m.set k (ePu q))[k]? = some (ePu q) := fun q => List.getElem?_set_self hk0
  obtain ⟨w0, rest, hs, _, _⟩ := words_facts T
  obtain ⟨W, hW⟩ : ∃ W, W = Txt.split T (" " : Str) := ⟨_, rfl⟩
  have wW0 : wW W = T.length + 1 := by rw [hW]; exact wW_split T
  have wl := wW_len W
  have w1 : 1 ≤ W.length := by rw [hW, hs]; simp
  have sp0 : ((" " : Str).length == 0) = false := by decide +kernel
  have nl0 : (("\n" : Str).length == 0) = false := by decide +kernel
  have nl1 : ("\n" : Str).length = 1 := by decide +kernel
  have hT9 : T.length ≤ 90000 := by omega
  have hT1 : T.length ≤ 100000 := by omega
  obtain ⟨wy, p1, e1, y0, y1, hp1⟩ := law_draw_ok (b := b + 9) (n := 8) hk hp (by omega) (by omega)
  obtain ⟨sp, p2, e2, s0, s1, hp2⟩ := law_draw_ok (b := b + 8) (n := (T.length : Int) + 1) (gk p1) hp1 (by omega) (by omega)
  obtain ⟨i, p3, e3, i0, i1, hp3⟩ := law_draw_ok (b := b + 7) (n := (W.length : Int)) (gk p2) hp2 (by omega) (by omega)
  obtain ⟨t3, p4, e4, t0, t1, hp4⟩ := law_draw_ok (b := b + 6) (n := 3) (gk p3) hp3 (by omega) (by omega)
  rw [List.set_set] at e2 e3 e4
  obtain ⟨ni, rfl⟩ : ∃ ni : Nat, i = ni := ⟨i.toNat, by omega⟩
  obtain ⟨ns, rfl⟩ : ∃ ns : Nat, sp = ns := ⟨sp.toNat, by omega⟩
  have hni : ni < W.length := by omega
  have hns : ns ≤ T.length := by omega
  have cA : cutD (W.map D.str) none (some (ni : Int)) = (W.take ni).map D.str := by rw [cut_to, List.map_take]
  have cB : cutD (W.map D.str) (some ((ni : Int) + 1)) none = (W.drop (ni + 1)).map D.str := by
    rw [show ((ni : Int) + 1) = ((ni + 1 : Nat) : Int) by omega, cut_from, List.map_drop]
  have cC : cutD (W.map D.str) (some (ni : Int)) none = (W.drop ni).map D.str := by rw [cut_from, List.map_drop]
  have hat : L2.atI (W.map D.str) (ni : Int) = some (.str W[ni]) := by
    rw [atI_of (by omega) (by rw [List.length_map]; omega), List.getElem?_map, Int.toNat_natCast, List.getElem?_eq_getElem hni]
    rfl
  have dA : wW (W.take ni) + wW (W.drop ni) = T.length + 1 := by rw [← wW0, ← wW_app, List.take_append_drop]
  have dB : wW (W.drop ni) = W[ni].length + 1 + wW (W.drop (ni + 1)) := by rw [← wW_cons, ← List.drop_eq_getElem_cons hni]
  have lA := wW_len (W.take ni)
  have lB := wW_len (W.drop (ni + 1))
  have lC := wW_len (W.drop ni)
  obtain ⟨X, hX⟩ : ∃ X : D, X = .lst (sodd.map D.str) := ⟨_, rfl⟩
  have key : wp (f_law_spoilt_2 [.cell k, .str T] m) (fun r m' => ∃ (T' : Str) (p' : Purse), r = .ok (.pl (.str T')) ∧ m' = m.set k (ePu p') ∧ T'.length ≤ 2 * T.length + 40 ∧ Pok b p') := by
    unfold f_law_spoilt_2 e_law_spoilt_2
    refine wp_fnI rfl ?_
    refine ws_step (δ' := [some (.cell k), some (.str T), some (.int wy), none, none, none, none, none, none]) (m' := m.set k (ePu p1)) ?_ ?_
    · simp! only [e1]
    refine ws_step (δ' := [some (.cell k), some (.str T), some (.int wy), some (.int ns), none, none, none, none, none]) (m' := m.set k (ePu p2)) ?_ ?_
    · simp! only [eFld, pLenS, pDictD, pLenD, pDIn, keyD, pSortD, eSlS, hT1, e2]
    refine ws_step (δ' := [some (.cell k), some (.str T), some (.int wy), some (.int ns), some (.lst (W.map D.str)), none, none, none, none]) (m' := m.set k (ePu p2)) ?_ ?_
    · simp! only [fSplit, eM1, sp0, hT9, and_self, hW]
    refine ws_step (δ' := [some (.cell k), some (.str T), some (.int wy), some (.int ns), some (.lst (W.map D.str)), some (.int ni), none, none, none]) (m' := m.set k (ePu p3)) ?_ ?_
    · simp! only [List.length_map, e3]
    refine ws_step (δ' := [some (.cell k), some (.str T), some (.int wy), some (.int ns), some (.lst (W.map D.str)), some (.int ni), some (.str (sgA ++ "\n")), none, none]) (m' := m.set k (ePu p3)) ?_ ?_
    · have ad := addS_len (a := sgA) (b := "\n") (by decide +kernel) (m.set k (ePu p3))
      simp! only [ad]
    have sgn : ∃ S : Str, 1 ≤ S.length ∧ S.length ≤ 100 ∧ ∀ (b' : MS) (R : OT → Prop), ws (b' [some (.cell k), some (.str T), some (.int wy), some (.int ns), some (.lst (W.map D.str)), some (.int ni), some (.str S), none, none] (m.set k (ePu p4))) R → ws (sSeq (sIf (tst (eOp pEq (pla (fCall0 f_law_draw (aCons (eVar 0) (aCons (eC (.int 3)) aNil)))) (eC (.int 0)))) (sSet 6 (eC (.str sgB))) sNext) b' [some (.cell k), some (.str T), some (.int wy), some (.int ns), some (.lst (W.map D.str)), some (.int ni), some (.str (sgA ++ "\n")), none, none] (m.set k (ePu p3))) R := by
      by_cases hz : t3 = 0
      · refine ⟨sgB, by decide +kernel, by decide +kernel, fun b' R h => ws_step ?_ h⟩
        simp! only [e4, decide_eq_true hz]
      · refine ⟨sgA ++ "\n", by decide +kernel, by decide +kernel, fun b' R h => ws_step ?_ h⟩
        simp! only [e4, decide_eq_false hz]
    obtain ⟨S, S1, S2, sgn⟩ := sgn
    refine sgn _ _ ?_
    obtain ⟨sj, p5, e5, j0, j1, hp5⟩ := law_draw_ok (b := b + 5) (n := (S.length : Int)) (gk p4) hp4 (by omega) (by omega)
    rw [List.set_set] at e5
    obtain ⟨c, hc⟩ : ∃ c, L2.atI S.cps.toList sj = some c := by
      have l18 : S.cps.toList.length = S.length := by show _ = S.cps.size; simp
      exact ⟨_, atI_getD (xs := S.cps.toList) (i := sj) 0 j0 (by rw [l18]; exact j1)⟩
    have cl : (⟨#[c]⟩ : Str).length = 1 := rfl
    have S3 : S.length ≤ 100000 := by omega
    refine ws_step (δ' := [some (.cell k), some (.str T), some (.int wy), some (.int ns), some (.lst (W.map D.str)), some (.int ni), some (.str S), some (chS c), none]) (m' := m.set k (ePu p5)) ?_ ?_
    · simp! only [eFld, pLenS, pDictD, pLenD, pDIn, keyD, pSortD, eSlS, S3, e5, pIxS, hc]
    refine ws_step (δ' := [some (.cell k), some (.str T), some (.int wy), some (.int ns), some (.lst (W.map D.str)), some (.int ni), some (.str S), some (chS c), some (.lst (sodd1.map D.str))]) (m' := m.set k (ePu p5)) ?_ ?_
    · simp! only []
    refine ws_step (δ' := [some (.cell k), some (.str T), some (.int wy), some (.int ns), some (.lst (W.map D.str)), some (.int ni), some (.str S), some (chS c), some (.lst ((sodd1 ++ sodd2).map D.str))]) (m' := m.set k (ePu p5)) ?_ ?_
    · simp! only []
    refine ws_step (δ' := [some (.cell k), some (.str T), some (.int wy), some (.int ns), some (.lst (W.map D.str)), some (.int ni), some (.str S), some (chS c), some X]) (m' := m.set k (ePu p5)) ?_ ?_
    · rw [hX]; simp! only []; rfl
    obtain ⟨a, ha, la⟩ := cutS_to (T := T) (j := ns)
    obtain ⟨z, hz, lz⟩ := cutS_from (T := T) (j := ns)
    obtain ⟨z1, hz1, lz1⟩ := cutS_from (T := T) (j := ns + 1)
    rw [show (((ns + 1 : Nat)) : Int) = (ns : Int) + 1 by omega] at hz1
    have hw : wy = 0 ∨ (0 < wy ∧ wy < 3) ∨ wy = 3 ∨ wy = 4 ∨ wy = 5 ∨ wy = 6 ∨ wy = 7 := by omega
    have hq5 : Pok b p5 := hp5.mono (by omega)
    have fin : ∀ {T' : Str} {q : Purse}, T'.length ≤ 2 * T.length + 40 → Pok b q → wp (endF m (some (.rt (.str T') (m.set k (ePu q))))) (fun r m' => ∃ (T' : Str) (p' : Purse), r = .ok (.pl (.str T')) ∧ m' = m.set k (ePu p') ∧ T'.length ≤ 2 * T.length + 40 ∧ Pok b p') := fun {T' q} h1 h2 => by
      have ln : (m.set k (ePu q)).length = m.length := by simp
      simp_arith only [fin_same ln]
      exact ⟨_, _, rfl, rfl, h1, h2⟩
    rcases hw with rfl | hw | rfl | rfl | rfl | rfl | rfl
    · refine ws_stop (d := .str (a ++ z1)) (m' := m.set k (ePu p5)) ?_ (fin (by rw [app_len]; omega) hq5)
      have ad1 := fun m => addS_len (a := a) (b := z1) (by omega) m
      simp! only [eFld, pLenS, pDictD, pLenD, pDIn, keyD, pSortD, eSlS, hT1, ha, hz1, ad1, decide_true]
    · have f0 : decide (wy = 0) = false := decide_eq_false (by omega)
      have f3 : decide (wy < 3) = true := decide_eq_true hw.2
      refine ws_step (by simp! only [f0]; rfl) ?_
      refine ws_stop (d := .str (a ++ ⟨#[c]⟩ ++ z)) (m' := m.set k (ePu p5)) ?_ (fin (by rw [app_len, app_len, cl]; omega) hq5)
      have ad1 := fun m => addS_len (a := a) (b := ⟨#[c]⟩) (by rw [cl]; omega) m
      have ad2 := fun m => addS_len (a := a ++ ⟨#[c]⟩) (b := z) (by rw [app_len, cl]; omega) m
      simp! only [eFld, pLenS, pDictD, pLenD, pDIn, keyD, pSortD, eSlS, hT1, ha, hz, chS, ad1, ad2, f3]
    · refine ws_step (by simp! only [decide_false, Int.reduceEq]; rfl) ?_
      refine ws_step (by simp! only [decide_false, Int.reduceLT]; rfl) ?_
      refine ws_stop (d := .str (a ++ ⟨#[c]⟩ ++ z1)) (m' := m.set k (ePu p5)) ?_ (fin (by rw [app_len, app_len, cl]; omega) hq5)
      have ad1 := fun m => addS_len (a := a) (b := ⟨#[c]⟩) (by rw [cl]; omega) m
      have ad2 := fun m => addS_len (a := a ++ ⟨#[c]⟩) (b := z1) (by rw [app_len, cl]; omega) m
      simp! only [eFld, pLenS, pDictD, pLenD, pDIn, keyD, pSortD, eSlS, hT1, ha, hz1, chS, ad1, ad2, decide_true]
    · obtain ⟨io, p6, e6, o0, o1, hp6⟩ := law_draw_ok (b := b + 4) (n := 21) (gk p5) hp5 (by omega) (by omega)
      rw [List.set_set] at e6
      have hio : io.toNat < sodd.length := by rw [sodd_len]; omega
      have hao : L2.atI (sodd.map D.str) io = some (.str sodd[io.toNat]) := by
        rw [atI_of o0 (by rw [List.length_map, sodd_len]; exact o1), List.getElem?_map, List.getElem?_eq_getElem hio]
        rfl
      have l4 := sodd_20 _ (List.getElem_mem hio)
      have xs : ∀ m, rdS m X = some (sodd.map D.str) := fun m => by rw [hX]; rfl
      have xq : ∀ m, rdQ m X = some (sodd.map D.str) := fun m => by rw [hX]; rfl
      have xlen : (sodd.map D.str).length = 21 := by rw [List.length_map, sodd_len]
      have c21 : ((21 : Nat) : Int) = 21 := rfl
      refine ws_step (by simp! only [decide_false, Int.reduceEq]; rfl) ?_
      refine ws_step (by simp! only [decide_false, Int.reduceLT]; rfl) ?_
      refine ws_step (by simp! only [decide_false, Int.reduceEq]; rfl) ?_
      have wB : wW (W.take ni ++ [sodd[io.toNat]] ++ W.drop (ni + 1)) ≤ T.length + 40 := by
        rw [wW_app, wW_app, show wW [sodd[io.toNat]] = sodd[io.toNat].length + 1 + 0 from rfl]; omega
      have jb := join_bd wB (by omega)
      have jl := join_wW (W.take ni ++ [sodd[io.toNat]] ++ W.drop (ni + 1))
      refine ws_stop (d := .str (Txt.join (" " : Str) (W.take ni ++ [sodd[io.toNat]] ++ W.drop (ni + 1)))) (m' := m.set k (ePu p6)) ?_ (fin (by omega) (hp6.mono (by omega)))
      have ln1 : (W.take ni).length ≤ 99999 := by omega
      have ln2 : (W.take ni).length + 1 ≤ 100000 := by omega
      have ln3 : (W.take ni).length + 1 + (W.drop (ni + 1)).length ≤ 100000 := by omega
      have em : (W.take ni).map D.str ++ [D.str sodd[io.toNat]] ++ (W.drop (ni + 1)).map D.str = (W.take ni ++ [sodd[io.toNat]] ++ W.drop (ni + 1)).map D.str := by simp only [List.map_append, List.map_cons, List.map_nil]
      simp! only [cA, cB, xs, xq, xlen, c21, e6, hao, List.length_map, List.length_append, ln1, ln2, ln3, decide_true, eJoin]
      rw [em]
      simp! only [toStrs_map, jb]
    · refine ws_step (by simp! only [decide_false, Int.reduceEq]; rfl) ?_
      refine ws_step (by simp! only [decide_false, Int.reduceLT]; rfl) ?_
      refine ws_step (by simp! only [decide_false, Int.reduceEq]; rfl) ?_
      refine ws_step (by simp! only [decide_false, Int.reduceEq]; rfl) ?_
      have wB : wW (W.take ni ++ [W[ni]] ++ W.drop ni) ≤ 2 * T.length + 40 := by
        rw [wW_app, wW_app, show wW [W[ni]] = W[ni].length + 1 + 0 from rfl]; omega
      have jb := join_bd wB (by omega)
      have jl := join_wW (W.take ni ++ [W[ni]] ++ W.drop ni)
      refine ws_stop (d := .str (Txt.join (" " : Str) (W.take ni ++ [W[ni]] ++ W.drop ni))) (m' := m.set k (ePu p5)) ?_ (fin (by omega) hq5)
      have ln1 : (W.take ni).length ≤ 99999 := by omega
      have ln2 : (W.take ni).length + 1 ≤ 100000 := by omega
      have ln3 : (W.take ni).length + 1 + (W.drop ni).length ≤ 100000 := by omega
      have em : (W.take ni).map D.str ++ [D.str W[ni]] ++ (W.drop ni).map D.str = (W.take ni ++ [W[ni]] ++ W.drop ni).map D.str := by simp only [List.map_append, List.map_cons, List.map_nil]
      simp! only [cA, cC, hat, List.length_map, List.length_append, ln1, ln2, ln3, decide_true, eJoin]
      rw [em]
      simp! only [toStrs_map, jb]
    · refine ws_step (by simp! only [decide_false, Int.reduceEq]; rfl) ?_
      refine ws_step (by simp! only [decide_false, Int.reduceLT]; rfl) ?_
      refine ws_step (by simp! only [decide_false, Int.reduceEq]; rfl) ?_
      refine ws_step (by simp! only [decide_false, Int.reduceEq]; rfl) ?_
      refine ws_step (by simp! only [decide_false, Int.reduceEq]; rfl) ?_
      obtain ⟨V, hV⟩ : ∃ V, V = Txt.split T ("\n" : Str) := ⟨_, rfl⟩
      have wV : wW V.reverse ≤ T.length + 40 := by rw [wW_perm (List.reverse_perm V), hV, wW_rows]; omega
      have jb := joinN_bd wV (by omega)
      have jl := joinN_wW V.reverse
      refine ws_stop (d := .str (Txt.join ("\n" : Str) V.reverse)) (m' := m.set k (ePu p5)) ?_ (fin (by omega) hq5)
      simp! only [fSplit, eM1, nl0, hT9, and_self, ← hV, decide_true, eJoin, ← List.map_reverse, toStrs_map, jb]
    · refine ws_step (by simp! only [decide_false, Int.reduceEq]; rfl) ?_
      refine ws_step (by simp! only [decide_false, Int.reduceLT]; rfl) ?_
      refine ws_step (by simp! only [decide_false, Int.reduceEq]; rfl) ?_
      refine ws_step (by simp! only [decide_false, Int.reduceEq]; rfl) ?_
      refine ws_step (by simp! only [decide_false, Int.reduceEq]; rfl) ?_
      refine ws_step (by simp! only [decide_false, Int.reduceEq]; rfl) ?_
      obtain ⟨y, hy, ly⟩ : ∃ y : Str, L2.atI [D.str "\n", D.str " "] (((ns : Nat) : Int) % 2) = some (.str y) ∧ y.length = 1 := by
        have : ((ns : Nat) : Int) % 2 = 0 ∨ ((ns : Nat) : Int) % 2 = 1 := by omega
        rcases this with e | e
        · rw [e]; exact ⟨"\n", rfl, nl1⟩
        · rw [e]; exact ⟨" ", rfl, by decide +kernel⟩
      refine ws_last (o := .rt (.str (T ++ y ++ T)) (m.set k (ePu p5))) ?_ (fin (by rw [app_len, app_len, ly]; omega) hq5)
      have ad1 := fun m => addS_len (a := T) (b := y) (by rw [ly]; omega) m
      have ad2 := fun m => addS_len (a := T ++ y) (b := T) (by rw [app_len, ly]; omega) m
      have pm : ∀ m, pMod (.int (ns : Int)) (.int 2) m = ret (.int ((ns : Int) % 2)) m := fun m => pMod_pos (by omega)
      simp! only [pm, hy, ad1, ad2]
  obtain ⟨r, m', e, T', p', rfl, rfl, hl, hq⟩ := wp_get key
  exact ⟨T', p', e, hl, hq⟩
noncomputable def e_law_k79 : MS :=
  (sSeq (sSet 1 (dat (fCall0 f_law_names (aCons (cel (fCall0 f_law_purse (aCons (eVar 0) (aCons (eC (.int 0)) aNil)))) (aCons (eC (.int 5)) aNil)))))
    (sSeq (sFor (wRng2 (aCons (eC (.int 1)) (aCons (eC (.int 13)) aNil))) (mName 2)
    (sSeq (sSet 3 (cel (fCall0 f_law_purse (aCons (eVar 0) (aCons (eVar 2) aNil)))))
    (sSeq (sSet 4 eDNew)
    (sSeq (sFor (wList (dat (fSl (eVar 1) oNone (oSome (pla (fCall0 f_law_draw (aCons (eVar 3) (aCons (eC (.int 6)) aNil)))))))) (mName 5)
    (sDPutI (eTup (aCons (pla (fCall0 f_law_span (aCons (eVar 3) (aCons (cel (fLst aNil)) (aCons (eOp pIxL (dat (fLst (aCons (eC (.int 9)) (aCons (eOp pSub (eOp pPow (eC (.int 10)) (eC (.int 12))) (eC (.int 1))) aNil)))) (pla (fCall0 f_law_draw (aCons (eVar 3) (aCons (eC (.int 2)) aNil))))) aNil))))) (aCons (pla (fCall0 f_law_draw (aCons (eVar 3) (aCons (eOp pAdd (eOp pPow (eC (.int 10)) (eC (.int 9))) (eC (.int 1))) aNil)))) aNil))) (eVar 4) (eVar 5)))
    (sSeq (sSet 6 (dat (fCall0 f_law_cover_4 (aCons (eVar 3) (aCons (pla (fCall0 f_law_draw (aCons (eVar 3) (aCons (eC (.int 6)) aNil)))) aNil)))))
    (sSeq (sSet 8 (cel (fLst (aCons (pla (fCall0 f_law_shelf_text (aCons (eVar 4) aNil))) (aCons (eJoin (eC (.str " ")) (dat (fLc (wList (eVar 6)) (mName 7) mYes (pla (fCall0 f_law_span_text (aCons (eVar 7) aNil))) [7]))) aNil)))))
    (sSeq (sExpr (eBM pAppend (eVar 8) (aCons (pla (fCall0 f_law_span_text (aCons (pla (fCall0 f_law_span (aCons (eVar 3) (aCons (cel (fLst aNil)) (aCons (eOp pSub (eOp pPow (eC (.int 10)) (eC (.int 12))) (eC (.int 1))) aNil))))) aNil))) aNil)))
    (sSeq (sSet 9 (eOp pIxL (eVar 8) (pla (fCall0 f_law_draw (aCons (eVar 3) (aCons (eC (.int 3)) aNil))))))
    (sSeq (sIf (mNot (tst (pla (fCall0 f_law_right_14 (aCons (eVar 9) aNil))))) (sRet (eC (.bl false))) sNext)
    (sFor (wRng1 (aCons (eOp pAdd (eC (.int 1)) (pla (fCall0 f_law_draw (aCons (eVar 3) (aCons (eC (.int 2)) aNil))))) aNil)) (mName 10)
    (sSeq (sSet 9 (pla (fCall0 f_law_spoilt_2 (aCons (eVar 3) (aCons (eVar 9) aNil)))))
    (sIf (mNot (tst (pla (fCall0 f_law_right_14 (aCons (eVar 9) aNil))))) (sRet (eC (.bl false))) sNext))))))))))))
    (sSeq (sSet 11 (eC (.str "abcdefghijklmnopqrstuvwxyz")))
    (sSeq (sSet 13 (dat (fLc (wRng1 (aCons (eC (.int 61)) aNil)) (mName 12) mYes (eOp pAddS (eOp pAddS (eOp pIxS (eVar 11) (eOp pDiv (eVar 12) (eC (.int 26)))) (eOp pIxS (eVar 11) (eOp pMod (eVar 12) (eC (.int 26))))) (eC (.str " 0..1 7"))) [12])))
    (sSeq (sSet 14 (dat (fLc (wRng1 (aCons (eC (.int 201)) aNil)) (mName 12) mYes (eOp pAddS (eOp pAddS (eCB pStrI (aCons (eOp pMul (eC (.int 3)) (eVar 12)) aNil)) (eC (.str ".."))) (eCB pStrI (aCons (eOp pAdd (eOp pMul (eC (.int 3)) (eVar 12)) (eC (.int 1))) aNil))) [12])))
    (sSeq (sFor (wList (dat (fLst (aCons (eC (.str "")) (aCons (eJoin (eC (.str "\n")) (eVar 13)) (aCons (eJoin (eC (.str "\n")) (dat (fSl (eVar 13) oNone (oSome (eC (.int 60)))))) (aCons (eJoin (eC (.str " ")) (eVar 14)) (aCons (eJoin (eC (.str " ")) (dat (fSl (eVar 14) oNone (oSome (eC (.int 200)))))) aNil)))))))) (mName 9)
    (sIf (mNot (tst (pla (fCall0 f_law_right_14 (aCons (eVar 9) aNil))))) (sRet (eC (.bl false))) sNext))
    (sRet (eC (.bl true)))))))))
noncomputable def f_law_k79 : FnS := fnOf 1 15 e_law_k79
theorem txT (T : Str) : ∃ l : List Nat, T = tx l ∧ l.length = T.length := ⟨T.cps.toList, (tx_of T).symm, by show _ = T.cps.size; simp⟩
theorem right_ok {T : Str} (h : T.length ≤ 80000) (m : Store) : f_law_right_14 [.str T] m = ret (.pl (.bl true)) m := by
  obtain ⟨l, e, hl⟩ := txT T
  rw [e]
  exact law_right_14_ok (by omega) m
def rowS (i : Nat) : Str := tx [97 + i / 26, 97 + i % 26] ++ " 0..1 7"
def spnS (i : Nat) : Str := tx (numZ (3 * (i : Int)) ++ [46, 46] ++ numZ (3 * (i : Int) + 1))
theorem row_len (i : Nat) : (rowS i).length = 9 := by
  unfold rowS
  rw [app_len, tx_len]
  rfl
theorem wW_bd {ws : List Str} {n : Nat} (h : ∀ w ∈ ws, w.length ≤ n) : wW ws ≤ ws.length * (n + 1) := by
  induction ws with
  | nil => exact Nat.zero_le _
  | cons w ws ih =>
    have h1 := h w List.mem_cons_self
    have h2 := ih fun z hz => h z (List.mem_cons_of_mem _ hz)
    rw [wW_cons, List.length_cons, Nat.add_mul, Nat.one_mul]
    omega
theorem spn_len {i : Nat} (h : i ≤ 200) : (spnS i).length ≤ 28 := by
  unfold spnS
  have a := numZ_len (i := 3 * (i : Int)) (by omega) (by omega)
  have b := numZ_len (i := 3 * (i : Int) + 1) (by omega) (by omega)
  rw [tx_len, List.length_append, List.length_append]
  show _ + 2 + _ ≤ _
  omega
theorem law_true (ns : List Int) (hl : ns.length ≤ 63) : ∃ m', f_law_k79 [.scr ns] [] = some (.ok (.pl (.bl true)), m') := by
  have key : wp (f_law_k79 [.scr ns] []) (fun r m' => r = .ok (.pl (.bl true))) := by
    unfold f_law_k79 e_law_k79
    refine wp_fnI rfl ?_
    obtain ⟨p, e, hp⟩ := law_purse_ok ns 0 (by omega) []
    replace e : f_law_purse [.scr ns, .int 0] [] = ret (.own [.int p.a, .int p.b, .int p.c]) [] := e
    obtain ⟨xs, p1, e1, lx, nd, hn, _⟩ := law_names_ok (m := [ePu p]) (k := 0) (b := 0) (n := 5) rfl (by omega) (hp.mono (by omega))
    replace e1 : f_law_names [.cell 0, .int 5] [ePu p] = ret (.own (xs.map D.str)) [ePu p1] := e1
    refine ws_step (δ' := [some (.scr ns), some (.lst (xs.map D.str)), none, none, none, none, none, none, none, none, none, none, none, none, none]) (m' := [ePu p1]) ?_ ?_
    · have e1' : f_law_names [.cell 0, .int 5] [.lst [.int p.a, .int p.b, .int p.c]] = ret (.own (xs.map D.str)) [ePu p1] := e1
      simp! only [e, e1']
    -- the twelve
    refine ws_mid (I := fun δ _ => ∃ z2 z3 z4 z5 z6 z7 z8 z9 z10, δ = [some (.scr ns), some (.lst (xs.map D.str)), z2, z3, z4, z5, z6, z7, z8, z9, z10, none, none, none, none]) ?_ ?_
    · refine ws_forS (wk := ⟨(List.range' 1 12).map fun i : Nat => D.int (i : Int), []⟩) (m' := [ePu p1]) ?_ ?_
      · have r1 : Rg62 1 := rg62 (by omega) (by omega)
        have r13 : Rg62 13 := rg62 (by omega) (by omega)
        have rr : rng 1 12 = (List.range' 1 12).map fun i : Nat => D.int (i : Int) := rng_a (a := 1)
        simp! only [wRng2, r1, r13, and_self, rr]
      refine ws_mono (forT (en := fun i : Nat => D.int (i : Int)) (I := fun r δ _ => (∀ i ∈ r, i ≤ 1000) ∧ ∃ z2 z3 z4 z5 z6 z7 z8 z9 z10, δ = [some (.scr ns), some (.lst (xs.map D.str)), z2, z3, z4, z5, z6, z7, z8, z9, z10, none, none, none, none]) (fun _ _ _ _ => chk_nil) ?_ (l := List.range' 1 12) ⟨fun i hi => by have := List.mem_range'_1.mp hi; omega, _, _, _, _, _, _, _, _, _, rfl⟩) ?_
      · rintro i r δ m ⟨hi, z2, z3, z4, z5, z6, z7, z8, z9, z10, rfl⟩
        refine ⟨[some (.scr ns), some (.lst (xs.map D.str)), some (.int (i : Int)), z3, z4, z5, z6, z7, z8, z9, z10, none, none, none, none], rfl, ?_⟩
        have hi0 := hi i List.mem_cons_self
        have hi' : ∀ j ∈ r, j ≤ 1000 := fun j hj => hi j (List.mem_cons_of_mem _ hj)
        obtain ⟨q0, f0, hq0⟩ := law_purse_ok ns i hi0 m
        obtain ⟨k, hk⟩ : ∃ k, k = m.length := ⟨_, rfl⟩
        refine ws_step (δ' := [some (.scr ns), some (.lst (xs.map D.str)), some (.int (i : Int)), some (.cell k), z4, z5, z6, z7, z8, z9, z10, none, none, none, none]) (m' := m ++ [ePu q0]) ?_ ?_
        · rw [hk]
          simp! only [f0]
          rfl
        have kA : ∀ z : Store, (m ++ z)[k]? = z[0]? := fun z => by rw [hk]; exact get_app0 m z
        have kS : ∀ (z : Store) (c : Cell), (m ++ z).set k c = m ++ z.set 0 c := fun z c => by rw [hk]; exact set_app0 m z c
        have dA : ∀ z : Store, (m ++ z)[k + 1]? = z[1]? := fun z => by rw [hk]; exact get_app m z 1
        have dS : ∀ (z : Store) (c : Cell), (m ++ z).set (k + 1) c = m ++ z.set 1 c := fun z c => by rw [hk]; exact set_app m z 1 c
        refine ws_step (δ' := [some (.scr ns), some (.lst (xs.map D.str)), some (.int (i : Int)), some (.cell k), some (.cell (k + 1)), z5, z6, z7, z8, z9, z10, none, none, none, none]) (m' := m ++ [ePu q0, .dK (encV [])]) ?_ ?_
        · have l1 : (m ++ [ePu q0]).length = k + 1 := by rw [List.length_append, hk]; rfl
          have a1 : (m ++ [ePu q0]) ++ [.dK []] = m ++ [ePu q0, .dK (encV [])] := by rw [List.append_assoc]; rfl
          simp! only [eDNew, l1, a1]
        obtain ⟨c5, q1, f1, a0, a1, hq1⟩ := law_draw_ok (m := m ++ [ePu q0, .dK (encV [])]) (k := k) (b := 10000) (n := 6) (kA _) (hq0.mono (by omega)) (by omega) (by omega)
        rw [kS] at f1
        replace f1 : f_law_draw [.cell k, .int 6] (m ++ [ePu q0, .dK (encV [])]) = ret (.pl (.int c5)) (m ++ [ePu q1, .dK (encV [])]) := f1
        obtain ⟨c, rfl⟩ : ∃ c : Nat, c5 = c := ⟨c5.toNat, by omega⟩
        refine ws_mid (I := fun δ m' => ∃ (q : Purse) (kv : Kv) (z : Store) (w5 : Option D), Wf kv ∧ Pok 5000 q ∧ m' = m ++ (ePu q :: .dK (encV kv) :: z) ∧ δ = [some (.scr ns), some (.lst (xs.map D.str)), some (.int (i : Int)), some (.cell k), some (.cell (k + 1)), w5, z6, z7, z8, z9, z10, none, none, none, none]) ?_ ?_
        · refine ws_forS (wk := ⟨(xs.take c).map D.str, []⟩) (m' := m ++ [ePu q1, .dK (encV [])]) ?_ ?_
          · have cA : cutD (xs.map D.str) none (some (c : Int)) = (xs.take c).map D.str := by rw [cut_to, List.map_take]
            simp! only [f1, cA, srcOf_lst]
          refine ws_mono (forT (en := D.str) (I := fun r δ m' => ∃ (q : Purse) (kv : Kv) (z : Store) (w5 : Option D), Wf kv ∧ kv.length + r.length ≤ 5 ∧ (kv.map (·.1) ++ r).Nodup ∧ (∀ x ∈ r, isNm x = true) ∧ Pok (5000 + 8 * r.length) q ∧ m' = m ++ (ePu q :: .dK (encV kv) :: z) ∧ δ = [some (.scr ns), some (.lst (xs.map D.str)), some (.int (i : Int)), some (.cell k), some (.cell (k + 1)), w5, z6, z7, z8, z9, z10, none, none, none, none]) (fun _ _ _ _ => chk_nil) ?_ (l := xs.take c) ⟨q1, [], [], _, Wf.nil, by have := List.length_take_le c xs; simp only [List.length_nil]; omega, by simpa using nd.sublist (List.take_sublist c xs), fun x hx => hn x (List.mem_of_mem_take hx), hq1.mono (by have := List.length_take_le c xs; have := List.length_take_le' c xs; omega), rfl, rfl⟩) ?_
          · rintro x r δ m' ⟨q, kv, z, w5, wf, hlen, hnd, hnm, hq, rfl, rfl⟩
            refine ⟨[some (.scr ns), some (.lst (xs.map D.str)), some (.int (i : Int)), some (.cell k), some (.cell (k + 1)), some (.str x), z6, z7, z8, z9, z10, none, none, none, none], rfl, ?_⟩
            simp only [List.length_cons] at hlen hq
            -- the store with a cell for the ends
            obtain ⟨l, hll⟩ : ∃ l, l = (m ++ (ePu q :: .dK (encV kv) :: z)).length := ⟨_, rfl⟩
            have lk : l = k + (z.length + 2) := by rw [hll, List.length_append, hk]; rfl
            obtain ⟨g, q2, f2, g0, g1, hq2⟩ := law_draw_ok (m := m ++ (ePu q :: .dK (encV kv) :: (z ++ [.lst []]))) (k := k) (b := 5000 + 8 * r.length + 7) (n := 2) (kA _) (hq.mono (by omega)) (by omega) (by omega)
            rw [kS] at f2
            replace f2 : f_law_draw [.cell k, .int 2] (m ++ (ePu q :: .dK (encV kv) :: (z ++ [.lst []]))) = ret (.pl (.int g)) (m ++ (ePu q2 :: .dK (encV kv) :: (z ++ [.lst []]))) := f2
            obtain ⟨mo, hmo, mo0, mo1⟩ : ∃ mo : Int, L2.atI [D.int 9, D.int 999999999999] g = some (.int mo) ∧ 0 ≤ mo ∧ mo ≤ 999999999999 := by
              have : g = 0 ∨ g = 1 := by omega
              rcases this with rfl | rfl
              · exact ⟨9, rfl, by omega, by omega⟩
              · exact ⟨999999999999, rfl, by omega, by omega⟩
            have gl : (m ++ (ePu q2 :: .dK (encV kv) :: (z ++ [.lst []])))[l]? = some (.lst (([] : List Int).map D.int)) := by
              rw [lk, hk, get_app]
              show (ePu q2 :: .dK (encV kv) :: (z ++ [.lst []]))[z.length + 2]? = _
              simp
            obtain ⟨s, q3, f3, s0, s1, s2, hq3⟩ := law_span_any (m := m ++ (ePu q2 :: .dK (encV kv) :: (z ++ [.lst []]))) (k := k) (l := l) (b := 5000 + 8 * r.length + 1) (ends := []) (most := mo) (by omega) (kA _) gl (by simp) (hq2.mono (by omega)) mo0 (by omega)
            have st3 : ((m ++ (ePu q2 :: .dK (encV kv) :: (z ++ [.lst []]))).set k (ePu q3)).set l (.lst ((([] : List Int) ++ [s.1, s.2]).map D.int)) = m ++ (ePu q3 :: .dK (encV kv) :: (z ++ [.lst [.int s.1, .int s.2]])) := by
              rw [kS, lk, hk, set_app]
              show m ++ (ePu q3 :: .dK (encV kv) :: (z ++ [.lst []])).set (z.length + 2) _ = _
              simp
            rw [st3] at f3
            have sp : isSpan s = true := good_iff.mpr ⟨by omega, s1, by omega⟩
            obtain ⟨w, q4, f4, w0, w1, hq4⟩ := law_draw_ok (m := m ++ (ePu q3 :: .dK (encV kv) :: (z ++ [.lst [.int s.1, .int s.2]]))) (k := k) (b := 5000 + 8 * r.length) (n := 1000000001) (kA _) (hq3.mono (by omega)) (by omega) (by omega)
            rw [kS] at f4
            replace f4 : f_law_draw [.cell k, .int 1000000001] (m ++ (ePu q3 :: .dK (encV kv) :: (z ++ [.lst [.int s.1, .int s.2]]))) = ret (.pl (.int w)) (m ++ (ePu q4 :: .dK (encV kv) :: (z ++ [.lst [.int s.1, .int s.2]]))) := f4
            have ap : x ∉ kv.map (·.1) := fun h => (List.nodup_append.mp hnd).2.2 x h x List.mem_cons_self rfl
            have kl : (encV kv).length < 100000 := by rw [encV_len]; omega
            have pz : putD (encV kv) (.inr x) (.tup [eS s, .int w]) = encV (kv ++ [(x, (s, w))]) := by
              rw [← putV_new ap, ← putV_enc]; rfl
            have cK : cellK (m ++ (ePu q4 :: .dK (encV kv) :: (z ++ [.lst [.int s.1, .int s.2]]))) (.cell (k + 1)) = some (k + 1, encV kv) := cellK_sh (dA _)
            have al : m ++ (ePu q :: .dK (encV kv) :: z) ++ [.lst []] = m ++ (ePu q :: .dK (encV kv) :: (z ++ [.lst []])) := by rw [List.append_assoc]; rfl
            have sA : (m ++ (ePu q4 :: .dK (encV kv) :: (z ++ [.lst [.int s.1, .int s.2]]))).set (k + 1) (.dK (encV (kv ++ [(x, (s, w))]))) = m ++ (ePu q4 :: .dK (encV (kv ++ [(x, (s, w))])) :: (z ++ [.lst [.int s.1, .int s.2]])) := dS _ _
            have wf2 : Wf (kv ++ [(x, (s, w))]) := ⟨by rw [List.map_append]; exact List.nodup_append.mpr ⟨wf.nd, by simp, fun a ha b hb e => ap (by have hb := List.mem_singleton.mp hb; have e2 : a = x := e.trans hb; rw [← e2]; exact ha)⟩, fun p hp => by
              rcases List.mem_append.mp hp with hp | hp
              · exact wf.fine p hp
              · cases List.mem_singleton.mp hp
                exact ⟨sp, by unfold isWt; simp; omega⟩, fun p hp => by
              rcases List.mem_append.mp hp with hp | hp
              · exact wf.nm p hp
              · cases List.mem_singleton.mp hp
                exact hnm x List.mem_cons_self, by rw [List.length_append]; show kv.length + 1 ≤ 60; omega⟩
            refine ws_last (o := .nx [some (.scr ns), some (.lst (xs.map D.str)), some (.int (i : Int)), some (.cell k), some (.cell (k + 1)), some (.str x), z6, z7, z8, z9, z10, none, none, none, none] (m ++ (ePu q4 :: .dK (encV (kv ++ [(x, (s, w))])) :: (z ++ [.lst [.int s.1, .int s.2]])))) ?_ ⟨_, _, rfl, q4, kv ++ [(x, (s, w))], _, _, wf2, by rw [List.length_append]; show kv.length + 1 + r.length ≤ 5; omega, by rw [List.map_append, List.append_assoc]; exact hnd, fun y hy => hnm y (List.mem_cons_of_mem _ hy), hq4, rfl, rfl⟩
            rw [← sA]
            simp! only [eFld, pLenS, pDictD, pLenD, pDIn, keyD, pSortD, eSlS, sDPutI, ← hll, al, f2, hmo, f3, f4, cK, kl, pz]
          · rintro o ⟨δ, m', rfl, q, kv, z, w5, wf, _, _, _, hq, rfl, rfl⟩
            exact ⟨_, _, rfl, q, kv, z, w5, wf, hq.mono (by omega), rfl, rfl⟩
        rintro δ m' ⟨q, kv, z, w5, wf, hq, rfl, rfl⟩
        -- the cover
        obtain ⟨c6, q2, f2, b0, b1, hq2⟩ := law_draw_ok (m := m ++ (ePu q :: .dK (encV kv) :: z)) (k := k) (b := 4000) (n := 6) (kA _) (hq.mono (by omega)) (by omega) (by omega)
        rw [kS] at f2
        replace f2 : f_law_draw [.cell k, .int 6] (m ++ (ePu q :: .dK (encV kv) :: z)) = ret (.pl (.int c6)) (m ++ (ePu q2 :: .dK (encV kv) :: z)) := f2
        obtain ⟨c, rfl⟩ : ∃ c : Nat, c6 = c := ⟨c6.toNat, by omega⟩
        obtain ⟨ss, q3, f3, sl, ssp, sic, hq3⟩ := law_cover_4_ok (m := m ++ (ePu q2 :: .dK (encV kv) :: z)) (k := k) (b := 3000) (n := c) (kA _) (by omega) (hq2.mono (by omega))
        rw [kS] at f3
        replace f3 : f_law_cover_4 [.cell k, .int (c : Int)] (m ++ (ePu q2 :: .dK (encV kv) :: z)) = ret (.own (ss.map eS)) (m ++ (ePu q3 :: .dK (encV kv) :: z)) := f3
        refine ws_step (δ' := [some (.scr ns), some (.lst (xs.map D.str)), some (.int (i : Int)), some (.cell k), some (.cell (k + 1)), w5, some (.lst (ss.map eS)), z7, z8, z9, z10, none, none, none, none]) (m' := m ++ (ePu q3 :: .dK (encV kv) :: z)) ?_ ?_
        · simp! only [f2, f3]
        obtain ⟨M, hM⟩ : ∃ M, M = m ++ (ePu q3 :: .dK (encV kv) :: z) := ⟨_, rfl⟩
        have st := law_shelf_text_eq (m := M) (d := k + 1) (kv := kv) (by rw [hM]; exact dA _) wf
        have slen := shelfL_len wf
        have n1 : ss.length < 100000 := by omega
        have lcs : lcM (mName 7) mYes (pla (fCall0 f_law_span_text (aCons (eVar 7) aNil))) (Wk.mk (ss.map eS) []).chk [some (.scr ns), some (.lst (xs.map D.str)), some (.int (i : Int)), some (.cell k), some (.cell (k + 1)), w5, some (.lst (ss.map eS)), none, z8, z9, z10, none, none, none, none] (ss.map eS) M = ret ((ss.map fun s => tx (spanL s)).map D.str) M := by
          rw [List.map_map]
          exact lcM_map chk_nil eS _ ss fun s hs => ⟨[some (.scr ns), some (.lst (xs.map D.str)), some (.int (i : Int)), some (.cell k), some (.cell (k + 1)), w5, some (.lst (ss.map eS)), some (eS s), z8, z9, z10, none, none, none, none], rfl, by
            simp! only [law_span_text_eq (ssp s hs) M]
            rfl⟩
        have wb : wW (ss.map fun s => tx (spanL s)) ≤ 5800 := by
          refine Nat.le_trans (wW_bd (n := 28) fun w hw => ?_) (by rw [List.length_map]; omega)
          obtain ⟨s, hs, rfl⟩ := List.mem_map.mp hw
          rw [tx_len]
          exact spanL_len (ssp s hs)
        have jb := join_bd wb (by omega)
        rw [List.length_map] at jb
        have jl := join_wW (ss.map fun s => tx (spanL s))
        obtain ⟨T2, hT2⟩ : ∃ T2, T2 = Txt.join (" " : Str) (ss.map fun s => tx (spanL s)) := ⟨_, rfl⟩
        have l2 : T2.length ≤ 5800 := by rw [hT2]; omega
        obtain ⟨n, hnM⟩ : ∃ n, n = M.length := ⟨_, rfl⟩
        rw [← hM]
        refine ws_step (δ' := [some (.scr ns), some (.lst (xs.map D.str)), some (.int (i : Int)), some (.cell k), some (.cell (k + 1)), w5, some (.lst (ss.map eS)), z7, some (.cell n), z9, z10, none, none, none, none]) (m' := M ++ [.lst [.str (tx (shelfL kv)), .str T2]]) ?_ ?_
        · rw [hnM, hT2]
          simp! only [st, eJoin, srcOf_lst, List.length_map, n1, wipeE, lcs, toStrs_map, jb]
        -- one more span
        obtain ⟨l, hll⟩ : ∃ l, l = (M ++ [.lst [.str (tx (shelfL kv)), .str T2]] : Store).length := ⟨_, rfl⟩
        have ln : l = n + 1 := by rw [hll, List.length_append, hnM]; rfl
        have nk : n = k + (z.length + 2) := by rw [hnM, hM, List.length_append, hk]; rfl
        have MA : ∀ (w : Store), M ++ w = m ++ (ePu q3 :: .dK (encV kv) :: (z ++ w)) := fun w => by rw [hM, List.append_assoc]; rfl
        obtain ⟨M2, hM2⟩ : ∃ M2 : Store, M2 = M ++ [.lst [.str (tx (shelfL kv)), .str T2]] ++ [.lst []] := ⟨_, rfl⟩
        have M2k : M2[k]? = some (ePu q3) := by rw [hM2, List.append_assoc, MA]; exact kA _
        have M2l : M2[l]? = some (.lst (([] : List Int).map D.int)) := by rw [hM2, hll]; exact app_get
        obtain ⟨s, q4, f4, s0, s1, s2, hq4⟩ := law_span_any (m := M2) (k := k) (l := l) (b := 2000) (ends := []) (most := 999999999999) (by omega) M2k M2l (by simp) (hq3.mono (by omega)) (by omega) (by omega)
        have sp : isSpan s = true := good_iff.mpr ⟨by omega, s1, by omega⟩
        obtain ⟨M3, hM3⟩ : ∃ M3 : Store, M3 = (M2.set k (ePu q4)).set l (.lst ((([] : List Int) ++ [s.1, s.2]).map D.int)) := ⟨_, rfl⟩
        rw [← hM3] at f4
        have st3 := law_span_text_eq sp M3
        have M2n : M2[n]? = some (.lst [.str (tx (shelfL kv)), .str T2]) := by
          rw [hM2, List.append_assoc, hnM]
          exact get_app0 _ _
        have kn : k < n := by omega
        have M3n : M3[n]? = some (.lst [.str (tx (shelfL kv)), .str T2]) := by
          rw [hM3, List.getElem?_set_ne (by omega), List.getElem?_set_ne (by omega)]
          exact M2n
        have lM2 : k < M2.length := by rw [hM2, List.length_append, ← hll]; omega
        have M3k : M3[k]? = some (ePu q4) := by
          rw [hM3, List.getElem?_set_ne (by omega)]
          exact List.getElem?_set_self lM2
        have sl3 := spanL_len sp
        obtain ⟨M4, hM4⟩ : ∃ M4 : Store, M4 = M3.set n (.lst [.str (tx (shelfL kv)), .str T2, .str (tx (spanL s))]) := ⟨_, rfl⟩
        have n3 : n < M3.length := (List.getElem?_eq_some_iff.mp M3n).1
        have M4n : M4[n]? = some (.lst [.str (tx (shelfL kv)), .str T2, .str (tx (spanL s))]) := by rw [hM4]; exact List.getElem?_set_self n3
        have M4k : M4[k]? = some (ePu q4) := by rw [hM4, List.getElem?_set_ne (by omega)]; exact M3k
        refine ws_step (δ' := [some (.scr ns), some (.lst (xs.map D.str)), some (.int (i : Int)), some (.cell k), some (.cell (k + 1)), w5, some (.lst (ss.map eS)), z7, some (.cell n), z9, z10, none, none, none, none]) (m' := M4) ?_ ?_
        · have i0 : isLst (M ++ [.lst [.str (tx (shelfL kv)), .str T2]]) (.cell n) = true := isLst_cell (by rw [hnM]; exact app_get)
          rw [hM4]
          simp! only [i0, ← hll, ← hM2, f4, st3, cellL_cell M3n, Nat.reduceLT]
        obtain ⟨t, q5, f5, t0, t1, hq5⟩ := law_draw_ok (m := M4) (k := k) (b := 1000) (n := 3) M4k (hq4.mono (by omega)) (by omega) (by omega)
        obtain ⟨M5, hM5⟩ : ∃ M5, M5 = M4.set k (ePu q5) := ⟨_, rfl⟩
        rw [← hM5] at f5
        have M5n : M5[n]? = some (.lst [.str (tx (shelfL kv)), .str T2, .str (tx (spanL s))]) := by rw [hM5, List.getElem?_set_ne (by omega)]; exact M4n
        have k4 : k < M4.length := (List.getElem?_eq_some_iff.mp M4k).1
        have M5k : M5[k]? = some (ePu q5) := by rw [hM5]; exact List.getElem?_set_self k4
        obtain ⟨T, hat, lT⟩ : ∃ T : Str, L2.atI [D.str (tx (shelfL kv)), .str T2, .str (tx (spanL s))] t = some (.str T) ∧ T.length ≤ 5800 := by
          have : t = 0 ∨ t = 1 ∨ t = 2 := by omega
          rcases this with rfl | rfl | rfl
          · exact ⟨_, rfl, by rw [tx_len]; omega⟩
          · exact ⟨_, rfl, l2⟩
          · exact ⟨_, rfl, by rw [tx_len]; omega⟩
        refine ws_step (δ' := [some (.scr ns), some (.lst (xs.map D.str)), some (.int (i : Int)), some (.cell k), some (.cell (k + 1)), w5, some (.lst (ss.map eS)), z7, some (.cell n), some (.str T), z10, none, none, none, none]) (m' := M5) ?_ ?_
        · simp! only [f5, rdQ_cell M5n, hat]
        have r0 := fun m => right_ok (T := T) (by omega) m
        refine ws_step (δ' := [some (.scr ns), some (.lst (xs.map D.str)), some (.int (i : Int)), some (.cell k), some (.cell (k + 1)), w5, some (.lst (ss.map eS)), z7, some (.cell n), some (.str T), z10, none, none, none, none]) (m' := M5) ?_ ?_
        · simp! only [r0]
        -- spoilt once or twice
        obtain ⟨u, q6, f6, u0, u1, hq6⟩ := law_draw_ok (m := M5) (k := k) (b := 900) (n := 2) M5k (hq5.mono (by omega)) (by omega) (by omega)
        obtain ⟨u, rfl⟩ : ∃ v : Nat, u = v := ⟨u.toNat, by omega⟩
        obtain ⟨M6, hM6⟩ : ∃ M6, M6 = M5.set k (ePu q6) := ⟨_, rfl⟩
        rw [← hM6] at f6
        have k5 : k < M5.length := (List.getElem?_eq_some_iff.mp M5k).1
        have M6k : M6[k]? = some (ePu q6) := by rw [hM6]; exact List.getElem?_set_self k5
        refine ws_forS (wk := ⟨(List.range (1 + u)).map fun i : Nat => D.int (i : Int), []⟩) (m' := M6) ?_ ?_
        · have ru : Rg62 (1 + (u : Int)) := rg62 (by omega) (by omega)
          have tu : (1 + (u : Int)).toNat = 1 + u := by omega
          simp! only [wRng1, f6, ru, tu, rng_0]
        refine ws_mono (forT (en := fun i : Nat => D.int (i : Int)) (I := fun r δ m' => ∃ (q : Purse) (T : Str) (w10 : Option D), m'[k]? = some (ePu q) ∧ Pok (r.length * 10) q ∧ (r.length ≤ 2) ∧ T.length ≤ (if r.length = 2 then 5800 else if r.length = 1 then 11640 else 30000) ∧ δ = [some (.scr ns), some (.lst (xs.map D.str)), some (.int (i : Int)), some (.cell k), some (.cell (k + 1)), w5, some (.lst (ss.map eS)), z7, some (.cell n), some (.str T), w10, none, none, none, none]) (fun _ _ _ _ => chk_nil) ?_ (l := List.range (1 + u)) ⟨q6, T, _, M6k, hq6.mono (by rw [List.length_range]; omega), by rw [List.length_range]; omega, by rw [List.length_range]; split <;> (try split) <;> omega, rfl⟩) ?_
        · rintro j r δ m' ⟨q, T, w10, hk', hq, h2, lT, rfl⟩
          refine ⟨[some (.scr ns), some (.lst (xs.map D.str)), some (.int (i : Int)), some (.cell k), some (.cell (k + 1)), w5, some (.lst (ss.map eS)), z7, some (.cell n), some (.str T), some (.int (j : Int)), none, none, none, none], rfl, ?_⟩
          rw [List.length_cons] at hq h2 lT
          have lT3 : T.length ≤ 11640 := by split at lT <;> (try split at lT) <;> omega
          obtain ⟨T', q', e, l', hq'⟩ := law_spoilt_2_ok (m := m') (k := k) (b := r.length * 10) hk' (hq.mono (by omega)) (T := T) (by omega)
          have k' : k < m'.length := (List.getElem?_eq_some_iff.mp hk').1
          refine ws_step (δ' := [some (.scr ns), some (.lst (xs.map D.str)), some (.int (i : Int)), some (.cell k), some (.cell (k + 1)), w5, some (.lst (ss.map eS)), z7, some (.cell n), some (.str T'), some (.int (j : Int)), none, none, none, none]) (m' := m'.set k (ePu q')) ?_ ?_
          · simp! only [e]
          have r1 := fun m => right_ok (T := T') (by omega) m
          refine ws_last (o := .nx [some (.scr ns), some (.lst (xs.map D.str)), some (.int (i : Int)), some (.cell k), some (.cell (k + 1)), w5, some (.lst (ss.map eS)), z7, some (.cell n), some (.str T'), some (.int (j : Int)), none, none, none, none] (m'.set k (ePu q'))) ?_ ⟨_, _, rfl, q', T', _, List.getElem?_set_self k', hq', by omega, ?_, rfl⟩
          · simp! only [r1]
          · split at lT <;> (try split at lT) <;> split <;> (try split) <;> omega
        · rintro o ⟨δ, m', rfl, q, T, w10, _, _, _, _, rfl⟩
          exact ⟨_, _, rfl, hi', _, _, _, _, _, _, _, _, _, rfl⟩
      · rintro o ⟨δ, m', rfl, _, z2, z3, z4, z5, z6, z7, z8, z9, z10, rfl⟩
        exact ⟨_, _, rfl, z2, z3, z4, z5, z6, z7, z8, z9, z10, rfl⟩
    rintro δ m ⟨z2, z3, z4, z5, z6, z7, z8, z9, z10, rfl⟩
    -- the long ones
    refine ws_step (δ' := [some (.scr ns), some (.lst (xs.map D.str)), z2, z3, z4, z5, z6, z7, z8, z9, z10, some (.str ltr), none, none, none]) (m' := m) (by simp! only []) ?_
    have r61 : Rg62 61 := rg62 (by omega) (by omega)
    have r201 : Rg62 201 := rg62 (by omega) (by omega)
    have lr : lcM (mName 12) mYes (eOp pAddS (eOp pAddS (eOp pIxS (eVar 11) (eOp pDiv (eVar 12) (eC (.int 26)))) (eOp pIxS (eVar 11) (eOp pMod (eVar 12) (eC (.int 26))))) (eC (.str " 0..1 7"))) (Wk.mk ((List.range 61).map fun i : Nat => D.int (i : Int)) []).chk [some (.scr ns), some (.lst (xs.map D.str)), z2, z3, z4, z5, z6, z7, z8, z9, z10, some (.str ltr), none, none, none] ((List.range 61).map fun i : Nat => D.int (i : Int)) m = ret (((List.range 61).map rowS).map D.str) m := by
      rw [List.map_map]
      exact lcM_map chk_nil (fun i : Nat => D.int (i : Int)) _ (List.range 61) fun i hi => ⟨[some (.scr ns), some (.lst (xs.map D.str)), z2, z3, z4, z5, z6, z7, z8, z9, z10, some (.str ltr), some (.int (i : Int)), none, none], rfl, by
        have hi := List.mem_range.mp hi
        have pd : ∀ m, pDiv (.int (i : Int)) (.int 26) m = ret (.int ((i / 26 : Nat) : Int)) m := fun m => by
          rw [pDiv_pos (by omega) (by decide)]
          rfl
        have pm : ∀ m, pMod (.int (i : Int)) (.int 26) m = ret (.int ((i % 26 : Nat) : Int)) m := fun m => by
          rw [pMod_pos (by omega)]
          rfl
        have x1 := ixS_ltr (i := ((i / 26 : Nat) : Int)) (by omega) (by omega) m
        have x2 := ixS_ltr (i := ((i % 26 : Nat) : Int)) (by omega) (by omega) m
        have a1 := addS_tx (a := [97 + ((i / 26 : Nat) : Int).toNat]) (b := [97 + ((i % 26 : Nat) : Int).toNat]) (by simp) m
        have a2 := addS_len (a := tx ([97 + ((i / 26 : Nat) : Int).toNat] ++ [97 + ((i % 26 : Nat) : Int).toNat])) (b := " 0..1 7") (by rw [tx_len]; have : (" 0..1 7" : Str).length = 7 := (by decide +kernel); rw [this]; simp) m
        simp! only [pd, pm, x1, x2, a1, a2]
        rfl⟩
    refine ws_step (δ' := [some (.scr ns), some (.lst (xs.map D.str)), z2, z3, z4, z5, z6, z7, z8, z9, z10, some (.str ltr), none, some (.lst (((List.range 61).map rowS).map D.str)), none]) (m' := m) ?_ ?_
    · have n61 : (61 : Nat) < 100000 := by decide
      have rr : rng 0 61 = (List.range 61).map fun i : Nat => D.int (i : Int) := rng_0
      simp! only [wRng1, r61, rr, List.length_map, List.length_range, n61, wipeE, lr]
    obtain ⟨R, hR⟩ : ∃ R, R = (List.range 61).map rowS := ⟨_, rfl⟩
    have Rl : R.length = 61 := by rw [hR, List.length_map, List.length_range]
    have Rw : ∀ w ∈ R, w.length ≤ 9 := fun w hw => by
      rw [hR] at hw
      obtain ⟨i, _, rfl⟩ := List.mem_map.mp hw
      rw [row_len]; exact Nat.le_refl _
    rw [← hR]
    clear lr
    have ls : lcM (mName 12) mYes (eOp pAddS (eOp pAddS (eCB pStrI (aCons (eOp pMul (eC (.int 3)) (eVar 12)) aNil)) (eC (.str ".."))) (eCB pStrI (aCons (eOp pAdd (eOp pMul (eC (.int 3)) (eVar 12)) (eC (.int 1))) aNil))) (Wk.mk ((List.range 201).map fun i : Nat => D.int (i : Int)) []).chk [some (.scr ns), some (.lst (xs.map D.str)), z2, z3, z4, z5, z6, z7, z8, z9, z10, some (.str ltr), none, some (.lst (R.map D.str)), none] ((List.range 201).map fun i : Nat => D.int (i : Int)) m = ret (((List.range 201).map spnS).map D.str) m := by
      rw [List.map_map]
      exact lcM_map chk_nil (fun i : Nat => D.int (i : Int)) _ (List.range 201) fun i hi => ⟨[some (.scr ns), some (.lst (xs.map D.str)), z2, z3, z4, z5, z6, z7, z8, z9, z10, some (.str ltr), some (.int (i : Int)), some (.lst (R.map D.str)), none], rfl, by
        have hi := List.mem_range.mp hi
        have pm : ∀ m, pMul (.int 3) (.int (i : Int)) m = ret (.int (3 * (i : Int))) m := fun m => pMul_l (by omega) (by omega)
        have t1 := strI_tx (i := 3 * (i : Int)) (by omega) (by omega) m
        have t2 := strI_tx (i := 3 * (i : Int) + 1) (by omega) (by omega) m
        have n1 := numZ_len (i := 3 * (i : Int)) (by omega) (by omega)
        have n2 := numZ_len (i := 3 * (i : Int) + 1) (by omega) (by omega)
        have l46 : ([46, 46] : List Nat).length = 2 := rfl
        have a1 := addS_tx (a := numZ (3 * (i : Int))) (b := [46, 46]) (by omega) m
        have a2 := addS_tx (a := numZ (3 * (i : Int)) ++ [46, 46]) (b := numZ (3 * (i : Int) + 1)) (by rw [List.length_append]; omega) m
        simp! only [pm, t1, t2, dd_tx, a1, a2]
        rfl⟩
    refine ws_step (δ' := [some (.scr ns), some (.lst (xs.map D.str)), z2, z3, z4, z5, z6, z7, z8, z9, z10, some (.str ltr), none, some (.lst (R.map D.str)), some (.lst (((List.range 201).map spnS).map D.str))]) (m' := m) ?_ ?_
    · have n201 : (201 : Nat) < 100000 := by decide
      have rr : rng 0 201 = (List.range 201).map fun i : Nat => D.int (i : Int) := rng_0
      simp! only [wRng1, r201, rr, List.length_map, List.length_range, n201, wipeE, ls]
    obtain ⟨S, hS⟩ : ∃ S, S = (List.range 201).map spnS := ⟨_, rfl⟩
    have Sl : S.length = 201 := by rw [hS, List.length_map, List.length_range]
    have Sw : ∀ w ∈ S, w.length ≤ 28 := fun w hw => by
      rw [hS] at hw
      obtain ⟨i, hi, rfl⟩ := List.mem_map.mp hw
      have := List.mem_range.mp hi
      exact spn_len (by omega)
    rw [← hS]
    clear ls
    have RN : ∀ {L : List Str}, L.length ≤ 61 → (∀ w ∈ L, w.length ≤ 9) → wW L ≤ 610 := fun h1 h2 => Nat.le_trans (wW_bd h2) (by omega)
    have SN : ∀ {L : List Str}, L.length ≤ 201 → (∀ w ∈ L, w.length ≤ 28) → wW L ≤ 5829 := fun h1 h2 => Nat.le_trans (wW_bd h2) (by omega)
    have w1 := RN (L := R) (by omega) Rw
    have w2 := RN (L := R.take 60) (by rw [List.length_take]; omega) fun w hw => Rw w (List.mem_of_mem_take hw)
    have w3 := SN (L := S) (by omega) Sw
    have w4 := SN (L := S.take 200) (by rw [List.length_take]; omega) fun w hw => Sw w (List.mem_of_mem_take hw)
    obtain ⟨Ts, hTs⟩ : ∃ Ts : List Str, Ts = [("" : Str), Txt.join ("\n" : Str) R, Txt.join ("\n" : Str) (R.take 60), Txt.join (" " : Str) S, Txt.join (" " : Str) (S.take 200)] := ⟨_, rfl⟩
    have Tl : ∀ T ∈ Ts, T.length ≤ 80000 := fun T hT => by
      rw [hTs] at hT
      simp only [List.mem_cons, List.not_mem_nil, or_false] at hT
      rcases hT with rfl | rfl | rfl | rfl | rfl
      · decide +kernel
      · have := joinN_wW R; omega
      · have := joinN_wW (R.take 60); omega
      · have := join_wW S; omega
      · have := join_wW (S.take 200); omega
    refine ws_mid (I := fun δ _ => True) ?_ ?_
    · refine ws_forS (wk := ⟨Ts.map D.str, []⟩) (m' := m) ?_ ?_
      · have j1 := joinN_bd w1 (by omega)
        have j2 := joinN_bd w2 (by omega)
        have j3 := join_bd w3 (by omega)
        have j4 := join_bd w4 (by omega)
        have c60 : cutD (R.map D.str) none (some (60 : Int)) = (R.take 60).map D.str := by rw [show (60 : Int) = ((60 : Nat) : Int) from rfl, cut_to, List.map_take]
        have c200 : cutD (S.map D.str) none (some (200 : Int)) = (S.take 200).map D.str := by rw [show (200 : Int) = ((200 : Nat) : Int) from rfl, cut_to, List.map_take]
        rw [hTs]
        simp! only [eJoin, toStrs_map, j1, j2, j3, j4, c60, c200, srcOf_lst]
      refine ws_mono (forT (en := D.str) (I := fun r δ _ => (∀ T ∈ r, T.length ≤ 80000) ∧ ∃ z9, δ = [some (.scr ns), some (.lst (xs.map D.str)), z2, z3, z4, z5, z6, z7, z8, z9, z10, some (.str ltr), none, some (.lst (R.map D.str)), some (.lst (S.map D.str))]) (fun _ _ _ _ => chk_nil) ?_ (l := Ts) ⟨Tl, _, rfl⟩) ?_
      · rintro T r δ m' ⟨hT, z9, rfl⟩
        refine ⟨[some (.scr ns), some (.lst (xs.map D.str)), z2, z3, z4, z5, z6, z7, z8, some (.str T), z10, some (.str ltr), none, some (.lst (R.map D.str)), some (.lst (S.map D.str))], rfl, ?_⟩
        have r1 := fun m => right_ok (T := T) (hT T List.mem_cons_self) m
        refine ws_last (o := .nx [some (.scr ns), some (.lst (xs.map D.str)), z2, z3, z4, z5, z6, z7, z8, some (.str T), z10, some (.str ltr), none, some (.lst (R.map D.str)), some (.lst (S.map D.str))] m') ?_ ⟨_, _, rfl, fun T hT' => hT T (List.mem_cons_of_mem _ hT'), _, rfl⟩
        simp! only [r1]
      · rintro o ⟨δ, m', rfl, _⟩
        exact ⟨_, _, rfl, trivial⟩
    rintro δ m' _
    refine ws_last (o := .rt (.bl true) m') (by simp! only []) ?_
    simp_arith only []
    rw [fin_top]
    exact rfl
  obtain ⟨r, m', e, rfl⟩ := wp_get key
  exact ⟨m', e⟩
end DL
open DL
namespace LW
open PySem PySem.Spec PyProof.Rows L2 DL
structure KC (K : PySem.W.Frag) : Prop where
  c_Shelf : Cls K (He.ga K "Shelf")
  n_Shelf_kept : NoAttr K (He.ga K "Shelf") "kept"
  n_Shelf_behind : NoAttr K (He.ga K "Shelf") "behind"
  n_Shelf_ahead : NoAttr K (He.ga K "Shelf") "ahead"
structure Txt (K : PySem.W.Frag) (mg : Str → Option Value) : Prop where
  n_range : mg "range" = none
  n_len : mg "len" = none
  n_max : mg "max" = none
  n_min : mg "min" = none
  n_sorted : mg "sorted" = none
  n_set : mg "set" = none
  n_str : mg "str" = none
  n_int : mg "int" = none
  n_zip : mg "zip" = none
  n_isinstance : mg "isinstance" = none
  n_ValueError : mg "ValueError" = none
  n_all : mg "all" = none
  c_MOST_FIGURES : ∃ t, mg "MOST_FIGURES" = some (.int 12 t)
  c_FIGURES : ∃ t, mg "FIGURES" = some (.str "0123456789" t)
  c_BEYOND : ∃ t, mg "BEYOND" = some (.int 1000000000000 t)
  c_MOST_SPANS_covers : ∃ t, mg "MOST_SPANS_covers" = some (.int 200 t)
  c_MOST_LETTERS : ∃ t, mg "MOST_LETTERS" = some (.int 8 t)
  c_LETTERS : ∃ t, mg "LETTERS" = some (.str "abcdefghijklmnopqrstuvwxyz" t)
  c_MOST_WEIGHT : ∃ t, mg "MOST_WEIGHT" = some (.int 1000000000 t)
  c_MOST_SPANS_shelf : ∃ t, mg "MOST_SPANS_shelf" = some (.int 60 t)
  xs : Xs K xnames
  kc : KC K
  xm : XM K
  x_ShelfError : XCls K xnames "ShelfError"
  g_ShelfError : mg "ShelfError" = some (.ref (ga K "ShelfError"))
  x_NoSpan : XCls K xnames "NoSpan"
  g_NoSpan : mg "NoSpan" = some (.ref (ga K "NoSpan"))
  x_NoPlace : XCls K xnames "NoPlace"
  g_NoPlace : mg "NoPlace" = some (.ref (ga K "NoPlace"))
  x_NoCover : XCls K xnames "NoCover"
  g_NoCover : mg "NoCover" = some (.ref (ga K "NoCover"))
  x_NoWeight : XCls K xnames "NoWeight"
  g_NoWeight : mg "NoWeight" = some (.ref (ga K "NoWeight"))
  x_NoCount : XCls K xnames "NoCount"
  g_NoCount : mg "NoCount" = some (.ref (ga K "NoCount"))
  x_NoName : XCls K xnames "NoName"
  g_NoName : mg "NoName" = some (.ref (ga K "NoName"))
  x_Twice : XCls K xnames "Twice"
  g_Twice : mg "Twice" = some (.ref (ga K "Twice"))
  x_Full : XCls K xnames "Full"
  g_Full : mg "Full" = some (.ref (ga K "Full"))
  x_Bare : XCls K xnames "Bare"
  g_Bare : mg "Bare" = some (.ref (ga K "Bare"))
  x_NoDeed : XCls K xnames "NoDeed"
  g_NoDeed : mg "NoDeed" = some (.ref (ga K "NoDeed"))
  x_NoText : XCls K xnames "NoText"
  g_NoText : mg "NoText" = some (.ref (ga K "NoText"))
  x_NoLine : XCls K xnames "NoLine"
  g_NoLine : mg "NoLine" = some (.ref (ga K "NoLine"))
def t_law_mixed (K : PySem.W.Frag) (W : WX) : TS :=
  (tSeq (tAsg (tOp oMod (tOp oAdd (tOp oAdd (tOp oAdd (tOp oMul (tVar 0) (tC (.int 1103515245))) (tOp oMul (tOp oMul (tC (.int 7919)) (tVar 1)) (tVar 1))) (tVar 1)) (tC (.int 1))) (tC (.int 2147483647))) (gName 2))
    (tSeq (tAsg (tOp oMod (tOp oAdd (tOp oMul (tVar 2) (tVar 2)) (tC (.int 69621))) (tC (.int 2147483629))) (gName 2))
    (tRet (tOp oMod (tOp oMul (tVar 2) (tC (.int 48271))) (tC (.int 2147483587))))))
theorem so_law_mixed {K : PySem.W.Frag} (xs : Xs K xnames) (kc : KC K) (xm : XM K) : SS K (t_law_mixed K) e_law_mixed :=
  (ss_seq (ss_set (fun W => (so_op s2_pMod (so_op s2_pAdd (so_op s2_pAdd (so_op s2_pAdd (so_op s2_pMul so_var so_cint) (so_op s2_pMul (so_op s2_pMul so_cint so_var) so_var)) so_var) so_cint) so_cint)))
    (ss_seq (ss_set (fun W => (so_op s2_pMod (so_op s2_pAdd (so_op s2_pMul so_var so_var) so_cint) so_cint)))
    (ss_ret (fun W => (so_op s2_pMod (so_op s2_pMul so_var so_cint) so_cint)))))
def t_law_draw (K : PySem.W.Frag) (W : WX) : TS :=
  (tSeq (tIfS (tTest (tOp oGt (tOp (rIxL K) (tVar 0) (tC (.int 0))) (tC (.int 0)))) (tSeq (tAsg (tOp oMod (tOp (rIxL K) (tVar 0) (tC (.int 0))) (tVar 1)) (gName 2))
    (tSeq (tAsg (tOp oDiv (tOp (rIxL K) (tVar 0) (tC (.int 0))) (tVar 1)) (gSub (tVar 0) (tC (.int 0)) rSetL))
    (tRet (tVar 2)))) tNext)
    (tSeq (tAsg (tC (.int 0)) (gName 3))
    (tSeq (tFor (iRng1 (tCons (tOp oAdd (tC (.int 1)) (tOp oDiv (tBits (tVar 1)) (tC (.int 30)))) tNil)) (gName 4)
    ((tSeq (tAsg (tOp oAdd (tOp (rIxL K) (tVar 0) (tC (.int 2))) (tC (.int 1))) (gSub (tVar 0) (tC (.int 2)) rSetL))
    (tAsg (tOp oAdd (tOp oMul (tVar 3) (tC (.int 2147483587))) (tCall (spF K f_law_mixed) [] E0 (tCons (tOp (rIxL K) (tVar 0) (tC (.int 1))) (tCons (tOp (rIxL K) (tVar 0) (tC (.int 2))) tNil)))) (gName 3)))))
    (tRet (tOp oMod (tVar 3) (tVar 1))))))
theorem so_law_draw {K : PySem.W.Frag} (xs : Xs K xnames) (kc : KC K) (xm : XM K) : SS K (t_law_draw K) e_law_draw :=
  (ss_seq (ss_if (fun W => (so_test (so_op s2_pGt (so_op s2_pIxL so_var so_cint) so_cint))) (ss_seq (ss_set (fun W => (so_op s2_pMod (so_op s2_pIxL so_var so_cint) so_var)))
    (ss_seq (ss_setI (fun W => (so_op s2_pDiv (so_op s2_pIxL so_var so_cint) so_var)) (fun W => so_var) (fun W => so_cint))
    (ss_ret (fun W => so_var)))) ss_next)
    (ss_seq (ss_set (fun W => so_cint))
    (ss_seq (ss_for (fun W => (so_wRng1 (so_acons (so_op s2_pAdd so_cint (so_op s2_pDiv (so_bits so_var) so_cint)) so_anil))) sg_name
    (ss_seq (ss_setI (fun W => (so_op s2_pAdd (so_op s2_pIxL so_var so_cint) so_cint)) (fun W => so_var) (fun W => so_cint))
    (ss_set (fun W => (so_op s2_pAdd (so_op s2_pMul so_var so_cint) (so_pla (so_call0 (so_acons (so_op s2_pIxL so_var so_cint) (so_acons (so_op s2_pIxL so_var so_cint) so_anil)))))))))
    (ss_ret (fun W => (so_op s2_pMod so_var so_var))))))
def t_law_names (K : PySem.W.Frag) (W : WX) : TS :=
  (tSeq (tAsg (tC (.str "abcdefghijklmnopqrstuvwxyz")) (gName 2))
    (tSeq (tAsg (tM1 (rJoin K) (tC (.str "")) (tLc (iRng1 (tCons (tCall (spF K f_law_draw) [] E0 (tCons (tVar 0) (tCons (tC (.int 7)) tNil))) tNil)) (gName 3) tYes (tOp rIxS (tVar 2) (tCall (spF K f_law_draw) [] E0 (tCons (tVar 0) (tCons (tC (.int 26)) tNil)))) [3])) (gName 4))
    (tSeq (tAsg (tCall (spF K f_law_draw) [] E0 (tCons (tVar 0) (tCons (tOp oAdd (tCB rLenTx (tCons (tVar 4) tNil)) (tC (.int 1))) tNil))) (gName 5))
    (tSeq (tAsg (tCall (spF K f_law_draw) [] E0 (tCons (tVar 0) (tCons (tC (.int 26)) tNil))) (gName 6))
    (tSeq (tAsg (tLc (iRng1 (tCons (tVar 1) tNil)) (gName 3) tYes (tOp oAddS (tOp oAddS (tSl rSlS (tVar 4) tNoPart (tPart (tVar 5))) (tOp rIxS (tVar 2) (tOp oMod (tOp oAdd (tVar 6) (tOp oMul (tC (.int 7)) (tVar 3))) (tC (.int 26))))) (tSl rSlS (tVar 4) (tPart (tVar 5)) tNoPart)) [3]) (gName 7))
    (tRet (tVar 7)))))))
theorem so_law_names {K : PySem.W.Frag} (xs : Xs K xnames) (kc : KC K) (xm : XM K) : SS K (t_law_names K) e_law_names :=
  (ss_seq (ss_set (fun W => so_cstr))
    (ss_seq (ss_set (fun W => (so_join so_cstr (so_dat (so_lc (vs := [3]) (so_wRng1 (so_acons (so_pla (so_call0 (so_acons so_var (so_acons so_cint so_anil)))) so_anil)) (sgw_name (by decide)) so_yes (so_op s2_pIxS so_var (so_pla (so_call0 (so_acons so_var (so_acons so_cint so_anil))))))))))
    (ss_seq (ss_set (fun W => (so_pla (so_call0 (so_acons so_var (so_acons (so_op s2_pAdd (so_eCB sc_pLenS (so_acons so_var so_anil)) so_cint) so_anil))))))
    (ss_seq (ss_set (fun W => (so_pla (so_call0 (so_acons so_var (so_acons so_cint so_anil))))))
    (ss_seq (ss_set (fun W => (so_cel (so_lc (vs := [3]) (so_wRng1 (so_acons so_var so_anil)) (sgw_name (by decide)) so_yes (so_op s2_pAddS (so_op s2_pAddS (so_slS so_var so_none (so_some so_var)) (so_op s2_pIxS so_var (so_op s2_pMod (so_op s2_pAdd so_var (so_op s2_pMul so_cint so_var)) so_cint))) (so_slS so_var (so_some so_var) so_none))))))
    (ss_ret (fun W => so_var)))))))
def t_law_at (K : PySem.W.Frag) (W : WX) : TS :=
  (tSeq (tIfS (tTest (tOp oLt (tVar 1) (tCB (Evl.rLenS K) (tCons (tVar 0) tNil)))) (tRet (tOp (rIxL K) (tVar 0) (tVar 1))) tNext)
    (tRet (tC (.int 0))))
theorem so_law_at {K : PySem.W.Frag} (xs : Xs K xnames) (kc : KC K) (xm : XM K) : SS K (t_law_at K) e_law_at :=
  (ss_seq (ss_if (fun W => (so_test (so_op s2_pLt so_var (so_eCB sc_pLen (so_acons so_var so_anil))))) (ss_ret (fun W => (so_op s2_pIxL so_var so_var))) ss_next)
    (ss_ret (fun W => so_cint)))
def t_law_purse (K : PySem.W.Frag) (W : WX) : TS :=
  (tSeq (tAsg (tCall (spF K f_law_at) [] E0 (tCons (tVar 0) (tCons (tVar 1) tNil))) (gName 2))
    (tRet (tLst (tCons (tCB Evl.rMax2 (tCons (tOp oSub (tVar 2) (tOp oPow (tC (.int 10)) (tC (.int 18)))) (tCons (tC (.int 0)) tNil))) (tCons (tOp oMod (tVar 2) (tC (.int 2147483647))) (tCons (tOp oMul (tC (.int 1000)) (tVar 1)) tNil))))))
theorem so_law_purse {K : PySem.W.Frag} (xs : Xs K xnames) (kc : KC K) (xm : XM K) : SS K (t_law_purse K) e_law_purse :=
  (ss_seq (ss_set (fun W => (so_pla (so_call0 (so_acons so_var (so_acons so_var so_anil))))))
    (ss_ret (fun W => (so_cel (so_lst (so_acons (so_eCB sc_pMax2 (so_acons (so_op s2_pSub so_var (so_op s2_pPow so_cint so_cint)) (so_acons so_cint so_anil))) (so_acons (so_op s2_pMod so_var so_cint) (so_acons (so_op s2_pMul so_cint so_var) so_anil))))))))
def t_law_number (K : PySem.W.Frag) (W : WX) : TS :=
  (tSeq (tAsg (tOp (rIxL K) (tLst (tCons (tC (.int 1)) (tCons (tC (.int 4)) (tCons (tC (.int 30)) (tCons (tVar 1) tNil))))) (tCall (spF K f_law_draw) [] E0 (tCons (tVar 0) (tCons (tC (.int 4)) tNil)))) (gName 2))
    (tRet (tOp oSub (tCall (spF K f_law_draw) [] E0 (tCons (tVar 0) (tCons (tOp oAdd (tOp oMul (tC (.int 2)) (tVar 2)) (tC (.int 1))) tNil))) (tVar 2))))
theorem so_law_number {K : PySem.W.Frag} (xs : Xs K xnames) (kc : KC K) (xm : XM K) : SS K (t_law_number K) e_law_number :=
  (ss_seq (ss_set (fun W => (so_op s2_pIxL (so_dat (so_lst (so_acons so_cint (so_acons so_cint (so_acons so_cint (so_acons so_var so_anil)))))) (so_pla (so_call0 (so_acons so_var (so_acons so_cint so_anil)))))))
    (ss_ret (fun W => (so_op s2_pSub (so_pla (so_call0 (so_acons so_var (so_acons (so_op s2_pAdd (so_op s2_pMul so_cint so_var) so_cint) so_anil)))) so_var))))
def t_law_end (K : PySem.W.Frag) (W : WX) : TS :=
  (tSeq (tIfS (tAnd (tTest (tOp (rNeD K) (tVar 1) (tLst tNil))) (tTest (tOp oGt (tCall (spF K f_law_draw) [] E0 (tCons (tVar 0) (tCons (tC (.int 3)) tNil))) (tC (.int 0))))) (tSeq (tAsg (tOp oSub (tOp oAdd (tOp (rIxL K) (tVar 1) (tCall (spF K f_law_draw) [] E0 (tCons (tVar 0) (tCons (tCB (Evl.rLenS K) (tCons (tVar 1) tNil)) tNil)))) (tCall (spF K f_law_draw) [] E0 (tCons (tVar 0) (tCons (tC (.int 3)) tNil)))) (tC (.int 1))) (gName 3))
    (tRet (tCB Evl.rMax2 (tCons (tOp oSub (tC (.int 0)) (tVar 2)) (tCons (tCB rMin2 (tCons (tVar 2) (tCons (tVar 3) tNil))) tNil))))) tNext)
    (tRet (tCall (spF K f_law_number) [] E0 (tCons (tVar 0) (tCons (tVar 2) tNil)))))
theorem so_law_end {K : PySem.W.Frag} (xs : Xs K xnames) (kc : KC K) (xm : XM K) : SS K (t_law_end K) e_law_end :=
  (ss_seq (ss_if (fun W => (so_mAnd (so_test (so_op s2_pNeD so_var (so_dat (so_lst so_anil)))) (so_test (so_op s2_pGt (so_pla (so_call0 (so_acons so_var (so_acons so_cint so_anil)))) so_cint)))) (ss_seq (ss_set (fun W => (so_op s2_pSub (so_op s2_pAdd (so_op s2_pIxL so_var (so_pla (so_call0 (so_acons so_var (so_acons (so_eCB sc_pLen (so_acons so_var so_anil)) so_anil))))) (so_pla (so_call0 (so_acons so_var (so_acons so_cint so_anil))))) so_cint)))
    (ss_ret (fun W => (so_eCB sc_pMax2 (so_acons (so_op s2_pSub so_cint so_var) (so_acons (so_eCB sc_pMin2 (so_acons so_var (so_acons so_var so_anil))) so_anil)))))) ss_next)
    (ss_ret (fun W => (so_pla (so_call0 (so_acons so_var (so_acons so_var so_anil)))))))
def t_law_cover (K : PySem.W.Frag) (W : WX) : TS :=
  (tSeq (tAsg (tLst tNil) (gName 2))
    (tSeq (tFor (iRng1 (tCons (tOp oMul (tC (.int 2)) (tVar 1)) tNil)) (gName 3)
    ((tDrop (tBM K "list" rAppend (tVar 2) (tCons (tCall (spF K f_law_end) [] E0 (tCons (tVar 0) (tCons (tVar 2) (tCons (tOp oSub (tOp oPow (tC (.int 10)) (tC (.int 12))) (tC (.int 1))) tNil)))) tNil)))))
    (tSeq (tAsg (tSortSet K (tVar 2)) (gName 2))
    (tRet (tLc (iRng1 (tCons (tOp oDiv (tCB (Evl.rLenS K) (tCons (tVar 2) tNil)) (tC (.int 2))) tNil)) (gName 3) tYes (tTup (tCons (tOp (rIxL K) (tVar 2) (tOp oMul (tC (.int 2)) (tVar 3))) (tCons (tOp (rIxL K) (tVar 2) (tOp oAdd (tOp oMul (tC (.int 2)) (tVar 3)) (tC (.int 1)))) tNil))) [3])))))
theorem so_law_cover {K : PySem.W.Frag} (xs : Xs K xnames) (kc : KC K) (xm : XM K) : SS K (t_law_cover K) e_law_cover_4 :=
  (ss_seq (ss_set (fun W => (so_cel (so_lst so_anil))))
    (ss_seq (ss_for (fun W => (so_wRng1 (so_acons (so_op s2_pMul so_cint so_var) so_anil))) sg_name
    (ss_expr (fun W => (so_bm sm_pAppend so_var (so_acons (so_pla (so_call0 (so_acons so_var (so_acons so_var (so_acons (so_op s2_pSub (so_op s2_pPow so_cint so_cint) so_cint) so_anil))))) so_anil)))))
    (ss_seq (ss_set (fun W => (so_cel (so_sortSet so_var))))
    (ss_ret (fun W => (so_cel (so_lc (vs := [3]) (so_wRng1 (so_acons (so_op s2_pDiv (so_eCB sc_pLen (so_acons so_var so_anil)) so_cint) so_anil)) (sgw_name (by decide)) so_yes (so_tup (so_acons (so_op s2_pIxL so_var (so_op s2_pMul so_cint so_var)) (so_acons (so_op s2_pIxL so_var (so_op s2_pAdd (so_op s2_pMul so_cint so_var) so_cint)) so_anil))))))))))
def t_law_span_text (K : PySem.W.Frag) (W : WX) : TS :=
  (tRet (tOp oAddS (tOp oAddS (tCB rStrI (tCons (tOp (rIxT K) (tVar 0) (tC (.int 0))) tNil)) (tC (.str ".."))) (tCB rStrI (tCons (tOp (rIxT K) (tVar 0) (tC (.int 1))) tNil))))
theorem so_law_span_text {K : PySem.W.Frag} (xs : Xs K xnames) (kc : KC K) (xm : XM K) : SS K (t_law_span_text K) e_law_span_text :=
  (ss_ret (fun W => (so_op s2_pAddS (so_op s2_pAddS (so_eCB sc_pStrI (so_acons (so_op s2_pIxT so_var so_cint) so_anil)) so_cstr) (so_eCB sc_pStrI (so_acons (so_op s2_pIxT so_var so_cint) so_anil)))))
def t_law_shelf_text (K : PySem.W.Frag) (W : WX) : TS :=
  (tSeq (tAsg (tLc (iList K (tCB rSortDK (tCons (tVar 0) tNil))) (gName 1) tYes (tM1 (rJoin K) (tC (.str " ")) (tLst (tCons (tVar 1) (tCons (tCall (spF K f_law_span_text) [] E0 (tCons (tOp (rIxT K) (tOp rDGet (tVar 0) (tVar 1)) (tC (.int 0))) tNil)) (tCons (tCB rStrI (tCons (tOp (rIxT K) (tOp rDGet (tVar 0) (tVar 1)) (tC (.int 1))) tNil)) tNil))))) [1]) (gName 2))
    (tRet (tM1 (rJoin K) (tC (.str "\n")) (tVar 2))))
theorem so_law_shelf_text {K : PySem.W.Frag} (xs : Xs K xnames) (kc : KC K) (xm : XM K) : SS K (t_law_shelf_text K) e_law_shelf_text :=
  (ss_seq (ss_set (fun W => (so_dat (so_lc (vs := [1]) (so_wList (so_dat (so_fCB sc_pSortD (so_acons so_var so_anil)))) (sgw_name (by decide)) so_yes (so_join so_cstr (so_dat (so_lst (so_acons so_var (so_acons (so_pla (so_call0 (so_acons (so_op s2_pIxT (so_op s2_pDGet so_var so_var) so_cint) so_anil))) (so_acons (so_eCB sc_pStrI (so_acons (so_op s2_pIxT (so_op s2_pDGet so_var so_var) so_cint) so_anil)) so_anil))))))))))
    (ss_ret (fun W => (so_join so_cstr so_var))))
def t_law_number_read (K : PySem.W.Frag) (W : WX) : TS :=
  (tSeq (tAsg (tVar 0) (gName 1))
    (tSeq (tIfS (tTest (tOp rEq (tSl rSlS (tVar 0) tNoPart (tPart (tC (.int 1)))) (tC (.str "-")))) (tAsg (tSl rSlS (tVar 0) (tPart (tC (.int 1))) tNoPart) (gName 1)) tNext)
    (tSeq (tAsg (tLc (iStr (tVar 1)) (gName 2) (tTest (tOp (rInSg false) (tVar 2) (tC (.str "0123456789")))) (tVar 2) [2]) (gName 3))
    (tSeq (tIfS (tOr (tTest (tOp rEq (tVar 1) (tC (.str "")))) (tOr (tTest (tOp oLt (tCB (Evl.rLenS K) (tCons (tVar 3) tNil)) (tCB rLenTx (tCons (tVar 1) tNil)))) (tOr (tTest (tOp oGt (tCB rLenTx (tCons (tVar 1) tNil)) (tC (.int 12)))) (tAnd (tTest (tOp rEq (tOp rIxS (tVar 1) (tC (.int 0))) (tC (.str "0")))) (tTest (tOp rNe (tVar 0) (tC (.str "0")))))))) (tRet (tC .non)) tNext)
    (tRet (tCB rIntS (tCons (tVar 0) tNil)))))))
theorem so_law_number_read {K : PySem.W.Frag} (xs : Xs K xnames) (kc : KC K) (xm : XM K) : SS K (t_law_number_read K) e_law_number_read :=
  (ss_seq (ss_set (fun W => so_var))
    (ss_seq (ss_if (fun W => (so_test (so_op s2_pEq (so_slS so_var so_none (so_some so_cint)) so_cstr))) (ss_set (fun W => (so_slS so_var (so_some so_cint) so_none))) ss_next)
    (ss_seq (ss_set (fun W => (so_dat (so_lc (vs := [2]) (so_wStr so_var) (sgw_name (by decide)) (so_test (so_op s2_pInSg so_var so_cstr)) so_var))))
    (ss_seq (ss_if (fun W => (so_mOr (so_test (so_op s2_pEq so_var so_cstr)) (so_mOr (so_test (so_op s2_pLt (so_eCB sc_pLen (so_acons so_var so_anil)) (so_eCB sc_pLenS (so_acons so_var so_anil)))) (so_mOr (so_test (so_op s2_pGt (so_eCB sc_pLenS (so_acons so_var so_anil)) so_cint)) (so_mAnd (so_test (so_op s2_pEq (so_op s2_pIxS so_var so_cint) so_cstr)) (so_test (so_op s2_pNe so_var so_cstr))))))) (ss_ret (fun W => so_cnon)) ss_next)
    (ss_ret (fun W => (so_eCB sc_pIntS (so_acons so_var so_anil))))))))
def t_law_span_read (K : PySem.W.Frag) (W : WX) : TS :=
  (tSeq (tAsg (tM1 rSplit (tVar 0) (tC (.str ".."))) (gName 1))
    (tSeq (tIfS (tTest (tOp rNe (tCB (Evl.rLenS K) (tCons (tVar 1) tNil)) (tC (.int 2)))) (tRet (tC .non)) tNext)
    (tSeq (tAsg (tLc (iList K (tVar 1)) (gName 2) tYes (tCall (spF K f_law_number_read) [] E0 (tCons (tVar 2) tNil)) [2]) (gUnl K 2 (gCons (gName 3) (gCons (gName 4) gNil))))
    (tSeq (tIfS (tOr (tTest (tOp oIsN (tVar 3) (tC .non))) (tOr (tTest (tOp oIsN (tVar 4) (tC .non))) (tTest (tOp oGe (tVar 3) (tVar 4))))) (tRet (tC .non)) tNext)
    (tRet (tTup (tCons (tVar 3) (tCons (tVar 4) tNil))))))))
theorem so_law_span_read {K : PySem.W.Frag} (xs : Xs K xnames) (kc : KC K) (xm : XM K) : SS K (t_law_span_read K) e_law_span_read :=
  (ss_seq (ss_set (fun W => (so_dat (so_split so_var so_cstr))))
    (ss_seq (ss_if (fun W => (so_test (so_op s2_pNe (so_eCB sc_pLen (so_acons so_var so_anil)) so_cint))) (ss_ret (fun W => so_cnon)) ss_next)
    (ss_seq (ss_asg (fun W => (so_dat (so_lc (vs := [2]) (so_wList so_var) (sgw_name (by decide)) so_yes (so_pla (so_call0 (so_acons so_var so_anil)))))) (sg_lst (.cons (.cons .nil)) (sgs_cons sg_name (sgs_cons sg_name sgs_nil))))
    (ss_seq (ss_if (fun W => (so_mOr (so_test (so_op s2_pIsN so_var so_cnon)) (so_mOr (so_test (so_op s2_pIsN so_var so_cnon)) (so_test (so_op s2_pGe so_var so_var))))) (ss_ret (fun W => so_cnon)) ss_next)
    (ss_ret (fun W => (so_tup (so_acons so_var (so_acons so_var so_anil)))))))))
def t_law_cover_read (K : PySem.W.Frag) (W : WX) : TS :=
  (tSeq (tIfS (tTest (tOp rEq (tVar 0) (tC (.str "")))) (tRet (tLst tNil)) tNext)
    (tSeq (tAsg (tLc (iList K (tM1 rSplit (tVar 0) (tC (.str " ")))) (gName 1) tYes (tCall (spF K f_law_span_read) [] E0 (tCons (tVar 1) tNil)) [1]) (gName 2))
    (tSeq (tIfS (tOr (tTest (tOp (rInDn K false) (tC .non) (tVar 2))) (tTest (tOp oGt (tCB (Evl.rLenS K) (tCons (tVar 2) tNil)) (tC (.int 200))))) (tRet (tC .non)) tNext)
    (tSeq (tFor (iZip K (tCons (tVar 2) (tCons (tSl (rSlL K) (tVar 2) (tPart (tC (.int 1))) tNoPart) tNil))) (gTup K 2 (gCons (gName 3) (gCons (gName 4) gNil)))
    ((tIfS (tTest (tOp oGe (tOp (rIxT K) (tVar 3) (tC (.int 1))) (tOp (rIxT K) (tVar 4) (tC (.int 0))))) (tRet (tC .non)) tNext)))
    (tRet (tVar 2))))))
theorem so_law_cover_read {K : PySem.W.Frag} (xs : Xs K xnames) (kc : KC K) (xm : XM K) : SS K (t_law_cover_read K) e_law_cover_read :=
  (ss_seq (ss_if (fun W => (so_test (so_op s2_pEq so_var so_cstr))) (ss_ret (fun W => (so_cel (so_lst so_anil)))) ss_next)
    (ss_seq (ss_set (fun W => (so_cel (so_lc (vs := [1]) (so_wList (so_dat (so_split so_var so_cstr))) (sgw_name (by decide)) so_yes (so_pla (so_call0 (so_acons so_var so_anil)))))))
    (ss_seq (ss_if (fun W => (so_mOr (so_test (so_op s2_pInD so_cnon so_var)) (so_test (so_op s2_pGt (so_eCB sc_pLen (so_acons so_var so_anil)) so_cint)))) (ss_ret (fun W => so_cnon)) ss_next)
    (ss_seq (ss_for (fun W => (so_wZip (so_acons so_var (so_acons (so_dat (so_sl so_var (so_some so_cint) so_none)) so_anil)))) (sg_tup (.cons (.cons .nil)) (sgs_cons sg_name (sgs_cons sg_name sgs_nil)))
    (ss_if (fun W => (so_test (so_op s2_pGe (so_op s2_pIxT so_var so_cint) (so_op s2_pIxT so_var so_cint)))) (ss_ret (fun W => so_cnon)) ss_next))
    (ss_ret (fun W => so_var))))))
def t_law_row_read (K : PySem.W.Frag) (W : WX) : TS :=
  (tSeq (tAsg (tM1 rSplit (tVar 0) (tC (.str " "))) (gName 1))
    (tSeq (tIfS (tTest (tOp rNe (tCB (Evl.rLenS K) (tCons (tVar 1) tNil)) (tC (.int 3)))) (tRet (tC .non)) tNext)
    (tSeq (tAsg (tC (.str "abcdefghijklmnopqrstuvwxyz")) (gName 2))
    (tSeq (tIfS (tOr (tNot (tTest (tChain oLe oLe (tC (.int 1)) (tCB rLenTx (tCons (tOp (rIxL K) (tVar 1) (tC (.int 0))) tNil)) (tC (.int 8))))) (tTest (tOp oGt (tCB (Evl.rLenS K) (tCons (tLc (iStr (tOp (rIxL K) (tVar 1) (tC (.int 0)))) (gName 3) (tTest (tOp (rInSg true) (tVar 3) (tVar 2))) (tVar 3) [3]) tNil)) (tC (.int 0))))) (tRet (tC .non)) tNext)
    (tSeq (tAsg (tCall (spF K f_law_span_read) [] E0 (tCons (tOp (rIxL K) (tVar 1) (tC (.int 1))) tNil)) (gName 4))
    (tSeq (tAsg (tCall (spF K f_law_number_read) [] E0 (tCons (tOp (rIxL K) (tVar 1) (tC (.int 2))) tNil)) (gName 5))
    (tSeq (tIfS (tOr (tTest (tOp oIsN (tVar 4) (tC .non))) (tOr (tTest (tOp oIsN (tVar 5) (tC .non))) (tNot (tTest (tChain oLe oLe (tC (.int 0)) (tVar 5) (tOp oPow (tC (.int 10)) (tC (.int 9)))))))) (tRet (tC .non)) tNext)
    (tRet (tTup (tCons (tOp (rIxL K) (tVar 1) (tC (.int 0))) (tCons (tTup (tCons (tVar 4) (tCons (tVar 5) tNil))) tNil)))))))))))
theorem so_law_row_read {K : PySem.W.Frag} (xs : Xs K xnames) (kc : KC K) (xm : XM K) : SS K (t_law_row_read K) e_law_row_read :=
  (ss_seq (ss_set (fun W => (so_dat (so_split so_var so_cstr))))
    (ss_seq (ss_if (fun W => (so_test (so_op s2_pNe (so_eCB sc_pLen (so_acons so_var so_anil)) so_cint))) (ss_ret (fun W => so_cnon)) ss_next)
    (ss_seq (ss_set (fun W => so_cstr))
    (ss_seq (ss_if (fun W => (so_mOr (so_mNot (so_test (so_chain s2_pLe s2_pLe so_cint (so_eCB sc_pLenS (so_acons (so_op s2_pIxL so_var so_cint) so_anil)) so_cint))) (so_test (so_op s2_pGt (so_eCB sc_pLen (so_acons (so_dat (so_lc (vs := [3]) (so_wStr (so_op s2_pIxL so_var so_cint)) (sgw_name (by decide)) (so_test (so_op s2_pInSg so_var so_var)) so_var)) so_anil)) so_cint)))) (ss_ret (fun W => so_cnon)) ss_next)
    (ss_seq (ss_set (fun W => (so_pla (so_call0 (so_acons (so_op s2_pIxL so_var so_cint) so_anil)))))
    (ss_seq (ss_set (fun W => (so_pla (so_call0 (so_acons (so_op s2_pIxL so_var so_cint) so_anil)))))
    (ss_seq (ss_if (fun W => (so_mOr (so_test (so_op s2_pIsN so_var so_cnon)) (so_mOr (so_test (so_op s2_pIsN so_var so_cnon)) (so_mNot (so_test (so_chain s2_pLe s2_pLe so_cint so_var (so_op s2_pPow so_cint so_cint))))))) (ss_ret (fun W => so_cnon)) ss_next)
    (ss_ret (fun W => (so_tup (so_acons (so_op s2_pIxL so_var so_cint) (so_acons (so_tup (so_acons so_var (so_acons so_var so_anil))) so_anil))))))))))))
def t_law_shelf_read (K : PySem.W.Frag) (W : WX) : TS :=
  (tSeq (tIfS (tTest (tOp rEq (tVar 0) (tC (.str "")))) (tRet tDNewK) tNext)
    (tSeq (tAsg (tLc (iList K (tM1 rSplit (tVar 0) (tC (.str "\n")))) (gName 1) tYes (tCall (spF K f_law_row_read) [] E0 (tCons (tVar 1) tNil)) [1]) (gName 2))
    (tSeq (tIfS (tOr (tTest (tOp (rInDn K false) (tC .non) (tVar 2))) (tTest (tOp oGt (tCB (Evl.rLenS K) (tCons (tVar 2) tNil)) (tC (.int 60))))) (tRet (tC .non)) tNext)
    (tSeq (tAsg (tLc (iList K (tVar 2)) (gName 1) tYes (tOp (rIxT K) (tVar 1) (tC (.int 0))) [1]) (gName 3))
    (tSeq (tIfS (tTest (tOp (rNeD K) (tVar 3) (tSortSetS K (tVar 3)))) (tRet (tC .non)) tNext)
    (tSeq (tAsg tDNewK (gName 4))
    (tSeq (tFor (iList K (tVar 2)) (gTup K 2 (gCons (gName 5) (gCons (gName 6) gNil)))
    ((sDPut (tVar 4) (tVar 5) (tVar 6))))
    (tRet (tVar 4)))))))))
theorem so_law_shelf_read {K : PySem.W.Frag} (xs : Xs K xnames) (kc : KC K) (xm : XM K) : SS K (t_law_shelf_read K) e_law_shelf_read :=
  (ss_seq (ss_if (fun W => (so_test (so_op s2_pEq so_var so_cstr))) (ss_ret (fun W => so_dnew)) ss_next)
    (ss_seq (ss_set (fun W => (so_dat (so_lc (vs := [1]) (so_wList (so_dat (so_split so_var so_cstr))) (sgw_name (by decide)) so_yes (so_pla (so_call0 (so_acons so_var so_anil)))))))
    (ss_seq (ss_if (fun W => (so_mOr (so_test (so_op s2_pInD so_cnon so_var)) (so_test (so_op s2_pGt (so_eCB sc_pLen (so_acons so_var so_anil)) so_cint)))) (ss_ret (fun W => so_cnon)) ss_next)
    (ss_seq (ss_set (fun W => (so_dat (so_lc (vs := [1]) (so_wList so_var) (sgw_name (by decide)) so_yes (so_op s2_pIxT so_var so_cint)))))
    (ss_seq (ss_if (fun W => (so_test (so_op s2_pNeD so_var (so_dat (so_sortSetS so_var))))) (ss_ret (fun W => so_cnon)) ss_next)
    (ss_seq (ss_set (fun W => so_dnew))
    (ss_seq (ss_for (fun W => (so_wList so_var)) (sg_tup (.cons (.cons .nil)) (sgs_cons sg_name (sgs_cons sg_name sgs_nil)))
    (ss_dput (fun W => so_var) (fun W => so_var) (fun W => so_var)))
    (ss_ret (fun W => so_var)))))))))
def t_Shelf_names (K : PySem.W.Frag) (W : WX) : TS :=
  (tRet (tCB rSortDK (tCons (tFld K (tVar 0) "kept") tNil)))
theorem so_Shelf_names {K : PySem.W.Frag} (xs : Xs K xnames) (kc : KC K) (xm : XM K) : SS K (t_Shelf_names K) e_Shelf_names :=
  (ss_ret (fun W => (so_cel (so_fCB sc_pSortD (so_acons (so_fld kc.c_Shelf kc.n_Shelf_kept so_var) so_anil)))))
def t_law_class (K : PySem.W.Frag) (W : WX) : TS :=
  (tSeq (tIfS (tTest (tOp oIsN (tVar 0) (tC .non))) (tRet (tC (.str "done"))) tNext)
    (tSeq (tAsg (tLst (tCons (tCB (rIsA K) (tCons (tVar 0) (tCons (tC (.ref (ga K "NoSpan"))) tNil))) (tCons (tCB (rIsA K) (tCons (tVar 0) (tCons (tC (.ref (ga K "NoPlace"))) tNil))) (tCons (tCB (rIsA K) (tCons (tVar 0) (tCons (tC (.ref (ga K "NoCover"))) tNil))) tNil)))) (gName 1))
    (tSeq (tAsg (tOp rCat (tVar 1) (tLst (tCons (tCB (rIsA K) (tCons (tVar 0) (tCons (tC (.ref (ga K "NoWeight"))) tNil))) (tCons (tCB (rIsA K) (tCons (tVar 0) (tCons (tC (.ref (ga K "NoCount"))) tNil))) (tCons (tCB (rIsA K) (tCons (tVar 0) (tCons (tC (.ref (ga K "NoName"))) tNil))) tNil))))) (gName 1))
    (tSeq (tAsg (tOp rCat (tVar 1) (tLst (tCons (tCB (rIsA K) (tCons (tVar 0) (tCons (tC (.ref (ga K "Twice"))) tNil))) (tCons (tCB (rIsA K) (tCons (tVar 0) (tCons (tC (.ref (ga K "Full"))) tNil))) (tCons (tCB (rIsA K) (tCons (tVar 0) (tCons (tC (.ref (ga K "Bare"))) tNil))) tNil))))) (gName 1))
    (tSeq (tAsg (tOp rCat (tVar 1) (tLst (tCons (tCB (rIsA K) (tCons (tVar 0) (tCons (tC (.ref (ga K "NoDeed"))) tNil))) (tCons (tCB (rIsA K) (tCons (tVar 0) (tCons (tC (.ref (ga K "NoText"))) tNil))) (tCons (tCB (rIsA K) (tCons (tVar 0) (tCons (tC (.ref (ga K "NoLine"))) tNil))) tNil))))) (gName 1))
    (tSeq (tAsg (tLst (tCons (tC (.str "span")) (tCons (tC (.str "place")) (tCons (tC (.str "cover")) (tCons (tC (.str "weight")) (tCons (tC (.str "count")) (tCons (tC (.str "name")) (tCons (tC (.str "twice")) (tCons (tC (.str "full")) (tCons (tC (.str "bare")) (tCons (tC (.str "deed")) (tCons (tC (.str "text")) (tCons (tC (.str "line")) tNil))))))))))))) (gName 2))
    (tSeq (tAsg (tLc (iZip K (tCons (tVar 2) (tCons (tVar 1) tNil))) (gTup K 2 (gCons (gName 3) (gCons (gName 4) gNil))) (tB (tVar 4)) (tVar 3) [3, 4]) (gName 5))
    (tSeq (tIfS (tOr (tTest (tOp rNe (tCB (Evl.rLenS K) (tCons (tVar 5) tNil)) (tC (.int 1)))) (tNot (tB (tCB (rIsA K) (tCons (tVar 0) (tCons (tC (.ty "ValueError")) tNil)))))) (tRet (tC (.str "odd"))) tNext)
    (tRet (tOp (rIxL K) (tVar 5) (tC (.int 0))))))))))))
theorem so_law_class {K : PySem.W.Frag} (xs : Xs K xnames) (kc : KC K) (xm : XM K) : SS K (t_law_class K) e_law_class :=
  (ss_seq (ss_if (fun W => (so_test (so_op s2_pIsN so_var so_cnon))) (ss_ret (fun W => so_cstr)) ss_next)
    (ss_seq (ss_set (fun W => (so_dat (so_lst (so_acons (so_isX xs (ck_one xs (by decide) (by decide)) so_var) (so_acons (so_isX xs (ck_one xs (by decide) (by decide)) so_var) (so_acons (so_isX xs (ck_one xs (by decide) (by decide)) so_var) so_anil)))))))
    (ss_seq (ss_set (fun W => (so_dat (so_fop s2_pCat so_var (so_dat (so_lst (so_acons (so_isX xs (ck_one xs (by decide) (by decide)) so_var) (so_acons (so_isX xs (ck_one xs (by decide) (by decide)) so_var) (so_acons (so_isX xs (ck_one xs (by decide) (by decide)) so_var) so_anil)))))))))
    (ss_seq (ss_set (fun W => (so_dat (so_fop s2_pCat so_var (so_dat (so_lst (so_acons (so_isX xs (ck_one xs (by decide) (by decide)) so_var) (so_acons (so_isX xs (ck_one xs (by decide) (by decide)) so_var) (so_acons (so_isX xs (ck_one xs (by decide) (by decide)) so_var) so_anil)))))))))
    (ss_seq (ss_set (fun W => (so_dat (so_fop s2_pCat so_var (so_dat (so_lst (so_acons (so_isX xs (ck_one xs (by decide) (by decide)) so_var) (so_acons (so_isX xs (ck_one xs (by decide) (by decide)) so_var) (so_acons (so_isX xs (ck_one xs (by decide) (by decide)) so_var) so_anil)))))))))
    (ss_seq (ss_set (fun W => (so_dat (so_lst (so_acons so_cstr (so_acons so_cstr (so_acons so_cstr (so_acons so_cstr (so_acons so_cstr (so_acons so_cstr (so_acons so_cstr (so_acons so_cstr (so_acons so_cstr (so_acons so_cstr (so_acons so_cstr (so_acons so_cstr so_anil))))))))))))))))
    (ss_seq (ss_set (fun W => (so_dat (so_lc (vs := [3, 4]) (so_wZip (so_acons so_var (so_acons so_var so_anil))) (sgw_tup (.cons (.cons .nil)) (sgws_cons (sgw_name (by decide)) (sgws_cons (sgw_name (by decide)) sgws_nil))) (so_B so_var) so_var))))
    (ss_seq (ss_if (fun W => (so_mOr (so_test (so_op s2_pNe (so_eCB sc_pLen (so_acons so_var so_anil)) so_cint)) (so_mNot (so_B (so_isX xs (ck_ve xs) so_var))))) (ss_ret (fun W => so_cstr)) ss_next)
    (ss_ret (fun W => (so_op s2_pIxL so_var so_cint)))))))))))
def t_must (K : PySem.W.Frag) (W : WX) : TS :=
  (tIfS (tNot (tB (tVar 0))) (tRaise W (.ref (ga K "NoText"))) tNext)
theorem so_must {K : PySem.W.Frag} (xs : Xs K xnames) (kc : KC K) (xm : XM K) : SS K (t_must K) e_must :=
  (ss_if (fun W => (so_mNot (so_B so_var))) ss_raise ss_next)
def t_is_number (K : PySem.W.Frag) (W : WX) : TS :=
  (tSeq (tAsg (tSl rSlS (tVar 0) (tPart (tCB rInt1 (tCons (tOp rEq (tSl rSlS (tVar 0) tNoPart (tPart (tC (.int 1)))) (tC (.str "-"))) tNil))) tNoPart) (gName 1))
    (tSeq (tIfS (tOr (tNot (tTest (tChain oLe oLe (tC (.int 1)) (tCB rLenTx (tCons (tVar 1) tNil)) (tC (.int 12))))) (tNot (tB (tCB (rAll K) (tCons (tLc (iStr (tVar 1)) (gName 2) tYes (tOp (rInSg false) (tVar 2) (tC (.str "0123456789"))) [2]) tNil))))) (tRet (tC (.bl false))) tNext)
    (tRet (tOrV (tOp rNe (tOp rIxS (tVar 1) (tC (.int 0))) (tC (.str "0"))) (tOp rEq (tVar 0) (tC (.str "0")))))))
theorem so_is_number {K : PySem.W.Frag} (xs : Xs K xnames) (kc : KC K) (xm : XM K) : SS K (t_is_number K) e_is_number :=
  (ss_seq (ss_set (fun W => (so_slS so_var (so_some (so_eCB sc_pInt1 (so_acons (so_op s2_pEq (so_slS so_var so_none (so_some so_cint)) so_cstr) so_anil))) so_none)))
    (ss_seq (ss_if (fun W => (so_mOr (so_mNot (so_test (so_chain s2_pLe s2_pLe so_cint (so_eCB sc_pLenS (so_acons so_var so_anil)) so_cint))) (so_mNot (so_B (so_eCB sc_pAll (so_acons (so_dat (so_lc (vs := [2]) (so_wStr so_var) (sgw_name (by decide)) so_yes (so_op s2_pInSg so_var so_cstr))) so_anil)))))) (ss_ret (fun W => so_cbl)) ss_next)
    (ss_ret (fun W => (so_or (so_op s2_pNe (so_op s2_pIxS so_var so_cint) so_cstr) (so_op s2_pEq so_var so_cstr))))))
def t_read_number (K : PySem.W.Frag) (W : WX) : TS :=
  (tSeq (tDrop (tCallS (spF K f_must) (WE W) (tCons (tCall (spF K f_is_number) [] E0 (tCons (tVar 0) tNil)) tNil)))
    (tRet (tCB rIntS (tCons (tVar 0) tNil))))
theorem so_read_number {K : PySem.W.Frag} (xs : Xs K xnames) (kc : KC K) (xm : XM K) : SS K (t_read_number K) e_read_number :=
  (ss_seq (ss_expr (fun W => (so_pla (so_call (so_acons (so_pla (so_call0 (so_acons so_var so_anil))) so_anil)))))
    (ss_ret (fun W => (so_eCB sc_pIntS (so_acons so_var so_anil)))))
def t_is_place (K : PySem.W.Frag) (W : WX) : TS :=
  (tRet (tChain oLt oLt (tOp oSub (tC (.int 0)) (tC (.int 1000000000000))) (tVar 0) (tC (.int 1000000000000))))
theorem so_is_place {K : PySem.W.Frag} (xs : Xs K xnames) (kc : KC K) (xm : XM K) : SS K (t_is_place K) e_is_place :=
  (ss_ret (fun W => (so_chain s2_pLt s2_pLt (so_op s2_pSub so_cint so_cint) so_var so_cint)))
def t_is_span (K : PySem.W.Frag) (W : WX) : TS :=
  (tRet (tAndV (tCall (spF K f_is_place) [] E0 (tCons (tOp (rIxT K) (tVar 0) (tC (.int 0))) tNil)) (tAndV (tCall (spF K f_is_place) [] E0 (tCons (tOp (rIxT K) (tVar 0) (tC (.int 1))) tNil)) (tOp oLt (tOp (rIxT K) (tVar 0) (tC (.int 0))) (tOp (rIxT K) (tVar 0) (tC (.int 1)))))))
theorem so_is_span {K : PySem.W.Frag} (xs : Xs K xnames) (kc : KC K) (xm : XM K) : SS K (t_is_span K) e_is_span :=
  (ss_ret (fun W => (so_and (so_pla (so_call0 (so_acons (so_op s2_pIxT so_var so_cint) so_anil))) (so_and (so_pla (so_call0 (so_acons (so_op s2_pIxT so_var so_cint) so_anil))) (so_op s2_pLt (so_op s2_pIxT so_var so_cint) (so_op s2_pIxT so_var so_cint))))))
def t_read_span (K : PySem.W.Frag) (W : WX) : TS :=
  (tSeq (tAsg (tM1 rPart (tVar 0) (tC (.str ".."))) (gTup K 3 (gCons (gName 1) (gCons (gName 2) (gCons (gName 3) gNil)))))
    (tSeq (tAsg (tTup (tCons (tCallS (spF K f_read_number) (WE W) (tCons (tVar 1) tNil)) (tCons (tCallS (spF K f_read_number) (WE W) (tCons (tVar 3) tNil)) tNil))) (gName 4))
    (tSeq (tDrop (tCallS (spF K f_must) (WE W) (tCons (tCall (spF K f_is_span) [] E0 (tCons (tVar 4) tNil)) tNil)))
    (tRet (tVar 4)))))
theorem so_read_span {K : PySem.W.Frag} (xs : Xs K xnames) (kc : KC K) (xm : XM K) : SS K (t_read_span K) e_read_span :=
  (ss_seq (ss_asg (fun W => (so_part so_var so_cstr)) (sg_tup (.cons (.cons (.cons .nil))) (sgs_cons sg_name (sgs_cons sg_name (sgs_cons sg_name sgs_nil)))))
    (ss_seq (ss_set (fun W => (so_tup (so_acons (so_pla (so_call (so_acons so_var so_anil))) (so_acons (so_pla (so_call (so_acons so_var so_anil))) so_anil)))))
    (ss_seq (ss_expr (fun W => (so_pla (so_call (so_acons (so_pla (so_call0 (so_acons so_var so_anil))) so_anil)))))
    (ss_ret (fun W => so_var)))))
def t_Shelf_must_have (K : PySem.W.Frag) (W : WX) : TS :=
  (tIfS (tB (tOp (rDIn true) (tVar 1) (tFld K (tVar 0) "kept"))) (tRaise W (.ref (ga K "NoName"))) tNext)
theorem so_Shelf_must_have {K : PySem.W.Frag} (xs : Xs K xnames) (kc : KC K) (xm : XM K) : SS K (t_Shelf_must_have K) e_Shelf_must_have :=
  (ss_if (fun W => (so_B (so_op s2_pDIn so_var (so_fld kc.c_Shelf kc.n_Shelf_kept so_var)))) ss_raise ss_next)
def t_Shelf_span (K : PySem.W.Frag) (W : WX) : TS :=
  (tSeq (tDrop (tMethX (He.ga K "Shelf") "must_have" (spF K f_Shelf_must_have) (WE W) (tVar 0) (tCons (tVar 1) tNil)))
    (tRet (tOp (rIxT K) (tOp rDGet (tFld K (tVar 0) "kept") (tVar 1)) (tC (.int 0)))))
theorem so_Shelf_span {K : PySem.W.Frag} (xs : Xs K xnames) (kc : KC K) (xm : XM K) : SS K (t_Shelf_span K) e_Shelf_span :=
  (ss_seq (ss_expr (fun W => (so_pla (so_methS so_var (so_acons so_var so_anil)))))
    (ss_ret (fun W => (so_op s2_pIxT (so_op s2_pDGet (so_fld kc.c_Shelf kc.n_Shelf_kept so_var) so_var) so_cint))))
def t_Shelf_weight (K : PySem.W.Frag) (W : WX) : TS :=
  (tSeq (tDrop (tMethX (He.ga K "Shelf") "must_have" (spF K f_Shelf_must_have) (WE W) (tVar 0) (tCons (tVar 1) tNil)))
    (tRet (tOp (rIxT K) (tOp rDGet (tFld K (tVar 0) "kept") (tVar 1)) (tC (.int 1)))))
theorem so_Shelf_weight {K : PySem.W.Frag} (xs : Xs K xnames) (kc : KC K) (xm : XM K) : SS K (t_Shelf_weight K) e_Shelf_weight :=
  (ss_seq (ss_expr (fun W => (so_pla (so_methS so_var (so_acons so_var so_anil)))))
    (ss_ret (fun W => (so_op s2_pIxT (so_op s2_pDGet (so_fld kc.c_Shelf kc.n_Shelf_kept so_var) so_var) so_cint))))
def t_must_span (K : PySem.W.Frag) (W : WX) : TS :=
  (tIfS (tNot (tB (tCall (spF K f_is_span) [] E0 (tCons (tVar 0) tNil)))) (tRaise W (.ref (ga K "NoSpan"))) tNext)
theorem so_must_span {K : PySem.W.Frag} (xs : Xs K xnames) (kc : KC K) (xm : XM K) : SS K (t_must_span K) e_must_span :=
  (ss_if (fun W => (so_mNot (so_B (so_pla (so_call0 (so_acons so_var so_anil)))))) ss_raise ss_next)
def t_must_spans (K : PySem.W.Frag) (W : WX) : TS :=
  (tFor (iList K (tVar 0)) (gName 1)
    ((tDrop (tCallS (spF K f_must_span) (WE W) (tCons (tVar 1) tNil)))))
theorem so_must_spans {K : PySem.W.Frag} (xs : Xs K xnames) (kc : KC K) (xm : XM K) : SS K (t_must_spans K) e_must_spans :=
  (ss_for (fun W => (so_wList so_var)) sg_name
    (ss_expr (fun W => (so_pla (so_call (so_acons so_var so_anil))))))
def t_must_cover (K : PySem.W.Frag) (W : WX) : TS :=
  (tSeq (tDrop (tCallS (spF K f_must_spans) (WE W) (tCons (tVar 0) tNil)))
    (tSeq (tIfS (tTest (tOp oGt (tCB (Evl.rLenS K) (tCons (tVar 0) tNil)) (tC (.int 200)))) (tRaise W (.ref (ga K "NoCover"))) tNext)
    (tFor (iZip K (tCons (tVar 0) (tCons (tSl (rSlL K) (tVar 0) (tPart (tC (.int 1))) tNoPart) tNil))) (gTup K 2 (gCons (gName 1) (gCons (gName 2) gNil)))
    ((tIfS (tTest (tOp oLe (tOp (rIxT K) (tVar 2) (tC (.int 0))) (tOp (rIxT K) (tVar 1) (tC (.int 1))))) (tRaise W (.ref (ga K "NoCover"))) tNext)))))
theorem so_must_cover {K : PySem.W.Frag} (xs : Xs K xnames) (kc : KC K) (xm : XM K) : SS K (t_must_cover K) e_must_cover :=
  (ss_seq (ss_expr (fun W => (so_pla (so_call (so_acons so_var so_anil)))))
    (ss_seq (ss_if (fun W => (so_test (so_op s2_pGt (so_eCB sc_pLen (so_acons so_var so_anil)) so_cint))) ss_raise ss_next)
    (ss_for (fun W => (so_wZip (so_acons so_var (so_acons (so_dat (so_sl so_var (so_some so_cint) so_none)) so_anil)))) (sg_tup (.cons (.cons .nil)) (sgs_cons sg_name (sgs_cons sg_name sgs_nil)))
    (ss_if (fun W => (so_test (so_op s2_pLe (so_op s2_pIxT so_var so_cint) (so_op s2_pIxT so_var so_cint)))) ss_raise ss_next))))
def t_read_cover (K : PySem.W.Frag) (W : WX) : TS :=
  (tSeq (tIfS (tTest (tOp rEq (tVar 0) (tC (.str "")))) (tRet (tLst tNil)) tNext)
    (tSeq (tAsg (tLcX (iList K (tM1 rSplit (tVar 0) (tC (.str " ")))) (gName 1) tYes (fun V => (tCallS (spF K f_read_span) (WE V) (tCons (tVar 1) tNil))) [1] W) (gName 2))
    (tSeq (tTryR K (.ref (ga K "NoCover")) (fun W => (tDrop (tCallS (spF K f_must_cover) (WE W) (tCons (tVar 2) tNil)))) (tRaise W (.ref (ga K "NoText"))) W)
    (tRet (tVar 2)))))
theorem so_read_cover {K : PySem.W.Frag} (xs : Xs K xnames) (kc : KC K) (xm : XM K) : SS K (t_read_cover K) e_read_cover_2 :=
  (ss_seq (ss_if (fun W => (so_test (so_op s2_pEq so_var so_cstr))) (ss_ret (fun W => (so_cel (so_lst so_anil)))) ss_next)
    (ss_seq (ss_set (fun W => (so_cel (so_lcX (vs := [1]) (so_wList (so_dat (so_split so_var so_cstr))) (sgw_name (by decide)) so_yes (fun V => (so_pla (so_call (so_acons so_var so_anil))))))))
    (ss_seq (ss_tryR xm (ss_expr (fun W => (so_pla (so_call (so_acons so_var so_anil))))) ss_raise)
    (ss_ret (fun W => so_var)))))
def t_Shelf___init__ (K : PySem.W.Frag) (W : WX) : TS :=
  (tSeq (sFld K (tVar 0) tDNewK "kept")
    (tSeq (sFld K (tVar 0) (tLst tNil) "behind")
    (sFld K (tVar 0) (tLst tNil) "ahead")))
theorem so_Shelf___init__ {K : PySem.W.Frag} (xs : Xs K xnames) (kc : KC K) (xm : XM K) : SS K (t_Shelf___init__ K) e_Shelf___init__ :=
  (ss_seq (ss_fld kc.c_Shelf kc.n_Shelf_kept (fun W => so_dnew) (fun W => so_var))
    (ss_seq (ss_fld kc.c_Shelf kc.n_Shelf_behind (fun W => (so_cel (so_lst so_anil))) (fun W => so_var))
    (ss_fld kc.c_Shelf kc.n_Shelf_ahead (fun W => (so_cel (so_lst so_anil))) (fun W => so_var))))
def t_is_name (K : PySem.W.Frag) (W : WX) : TS :=
  (tRet (tAndV (tChain oLe oLe (tC (.int 1)) (tCB rLenTx (tCons (tVar 0) tNil)) (tC (.int 8))) (tCB (rAll K) (tCons (tLc (iStr (tVar 0)) (gName 1) tYes (tOp (rInSg false) (tVar 1) (tC (.str "abcdefghijklmnopqrstuvwxyz"))) [1]) tNil))))
theorem so_is_name {K : PySem.W.Frag} (xs : Xs K xnames) (kc : KC K) (xm : XM K) : SS K (t_is_name K) e_is_name :=
  (ss_ret (fun W => (so_and (so_chain s2_pLe s2_pLe so_cint (so_eCB sc_pLenS (so_acons so_var so_anil)) so_cint) (so_eCB sc_pAll (so_acons (so_dat (so_lc (vs := [1]) (so_wStr so_var) (sgw_name (by decide)) so_yes (so_op s2_pInSg so_var so_cstr))) so_anil)))))
def t_read_shelf (K : PySem.W.Frag) (W : WX) : TS :=
  (tSeq (tAsg (tMake (He.ga K "Shelf") (spF K f_Shelf___init__) [] E0 tNil) (gName 1))
    (tSeq (tAsg (tC (.str "")) (gName 2))
    (tSeq (tFor (iList K (tSl (rSlL K) (tM1 rSplit (tVar 0) (tC (.str "\n"))) (tPart (tCB rInt1 (tCons (tOp rEq (tVar 0) (tC (.str ""))) tNil))) tNoPart)) (gName 3)
    ((tSeq (tAsg (tM1 rSplit (tVar 3) (tC (.str " "))) (gName 4))
    (tSeq (tDrop (tCallS (spF K f_must) (WE W) (tCons (tAndV (tOp rEq (tCB (Evl.rLenS K) (tCons (tVar 4) tNil)) (tC (.int 3))) (tAndV (tCall (spF K f_is_name) [] E0 (tCons (tOp (rIxL K) (tVar 4) (tC (.int 0))) tNil)) (tOp rGtS (tOp (rIxL K) (tVar 4) (tC (.int 0))) (tVar 2)))) tNil)))
    (tSeq (tAsg (tOp (rIxL K) (tVar 4) (tC (.int 0))) (gName 2))
    (tSeq (tAsg (tCallS (spF K f_read_number) (WE W) (tCons (tOp (rIxL K) (tVar 4) (tC (.int 2))) tNil)) (gName 5))
    (tSeq (tDrop (tCallS (spF K f_must) (WE W) (tCons (tChain oLe oLe (tC (.int 0)) (tVar 5) (tC (.int 1000000000))) tNil)))
    (tSeq (sDPut (tFld K (tVar 1) "kept") (tVar 2) (tTup (tCons (tCallS (spF K f_read_span) (WE W) (tCons (tOp (rIxL K) (tVar 4) (tC (.int 1))) tNil)) (tCons (tVar 5) tNil))))
    (tDrop (tCallS (spF K f_must) (WE W) (tCons (tOp oLe (tCB rLenDK (tCons (tFld K (tVar 1) "kept") tNil)) (tC (.int 60))) tNil)))))))))))
    (tRet (tVar 1)))))
theorem so_read_shelf {K : PySem.W.Frag} (xs : Xs K xnames) (kc : KC K) (xm : XM K) : SS K (t_read_shelf K) e_read_shelf :=
  (ss_seq (ss_set (fun W => (so_make so_anil)))
    (ss_seq (ss_set (fun W => so_cstr))
    (ss_seq (ss_for (fun W => (so_wList (so_dat (so_sl (so_dat (so_split so_var so_cstr)) (so_some (so_eCB sc_pInt1 (so_acons (so_op s2_pEq so_var so_cstr) so_anil))) so_none)))) sg_name
    (ss_seq (ss_set (fun W => (so_dat (so_split so_var so_cstr))))
    (ss_seq (ss_expr (fun W => (so_pla (so_call (so_acons (so_and (so_op s2_pEq (so_eCB sc_pLen (so_acons so_var so_anil)) so_cint) (so_and (so_pla (so_call0 (so_acons (so_op s2_pIxL so_var so_cint) so_anil))) (so_op s2_pGtS (so_op s2_pIxL so_var so_cint) so_var))) so_anil)))))
    (ss_seq (ss_set (fun W => (so_op s2_pIxL so_var so_cint)))
    (ss_seq (ss_set (fun W => (so_pla (so_call (so_acons (so_op s2_pIxL so_var so_cint) so_anil)))))
    (ss_seq (ss_expr (fun W => (so_pla (so_call (so_acons (so_chain s2_pLe s2_pLe so_cint so_var so_cint) so_anil)))))
    (ss_seq (ss_dput (fun W => (so_tup (so_acons (so_pla (so_call (so_acons (so_op s2_pIxL so_var so_cint) so_anil))) (so_acons so_var so_anil)))) (fun W => (so_fld kc.c_Shelf kc.n_Shelf_kept so_var)) (fun W => so_var))
    (ss_expr (fun W => (so_pla (so_call (so_acons (so_op s2_pLe (so_eCB sc_pLenD (so_acons (so_fld kc.c_Shelf kc.n_Shelf_kept so_var) so_anil)) so_cint) so_anil))))))))))))
    (ss_ret (fun W => so_var)))))
def t_law_asked (K : PySem.W.Frag) (W : WX) : TS :=
  (tSeq (tAsg (tC .non) (gName 2))
    (tSeq (tAsg (tC .non) (gName 3))
    (tSeq (tTry K (.ref (ga K "ShelfError")) 4 2 (fun W => (tIfS (tTest (tOp rEq (tVar 1) (tC (.int 0)))) (tAsg (tCallS (spF K f_read_span) (WE W) (tCons (tVar 0) tNil)) (gName 3)) (tIfS (tTest (tOp rEq (tVar 1) (tC (.int 1)))) (tAsg (tCallS (spF K f_read_cover_2) (WE W) (tCons (tVar 0) tNil)) (gName 3)) (tAsg (tCallS (spF K f_read_shelf) (WE W) (tCons (tVar 0) tNil)) (gName 3))))))
    (tSeq (tIfS (tTest (tOp oNotN (tVar 2) (tC .non))) (tRet (tCall (spF K f_law_class) [] E0 (tCons (tVar 2) tNil))) tNext)
    (tSeq (tIfS (tTest (tOp oLt (tVar 1) (tC (.int 2)))) (tRet (tVar 3)) tNext)
    (tSeq (tAsg tDNewK (gName 5))
    (tSeq (tFor (iList K (tMeth (He.ga K "Shelf") "names" (spF K f_Shelf_names) [] E0 (tVar 3) tNil)) (gName 6)
    ((sDPut (tVar 5) (tVar 6) (tTup (tCons (tMethX (He.ga K "Shelf") "span" (spF K f_Shelf_span) (WE W) (tVar 3) (tCons (tVar 6) tNil)) (tCons (tMethX (He.ga K "Shelf") "weight" (spF K f_Shelf_weight) (WE W) (tVar 3) (tCons (tVar 6) tNil)) tNil))))))
    (tRet (tVar 5)))))))))
theorem so_law_asked {K : PySem.W.Frag} (xs : Xs K xnames) (kc : KC K) (xm : XM K) : SS K (t_law_asked K) e_law_asked_8 :=
  (ss_seq (ss_set (fun W => so_cnon))
    (ss_seq (ss_set (fun W => so_cnon))
    (ss_seq (ss_try xs (ss_if (fun W => (so_test (so_op s2_pEq so_var so_cint))) (ss_set (fun W => (so_pla (so_call (so_acons so_var so_anil))))) (ss_if (fun W => (so_test (so_op s2_pEq so_var so_cint))) (ss_set (fun W => (so_cel (so_call (so_acons so_var so_anil))))) (ss_set (fun W => (so_pla (so_call (so_acons so_var so_anil))))))))
    (ss_seq (ss_if (fun W => (so_test (so_op s2_pNotN so_var so_cnon))) (ss_ret (fun W => (so_pla (so_call0 (so_acons so_var so_anil))))) ss_next)
    (ss_seq (ss_if (fun W => (so_test (so_op s2_pLt so_var so_cint))) (ss_ret (fun W => so_var)) ss_next)
    (ss_seq (ss_set (fun W => so_dnew))
    (ss_seq (ss_for (fun W => (so_wList (so_dat (so_meth so_var so_anil)))) sg_name
    (ss_dput (fun W => (so_tup (so_acons (so_pla (so_methS so_var (so_acons so_var so_anil))) (so_acons (so_pla (so_methS so_var (so_acons so_var so_anil))) so_anil)))) (fun W => so_var) (fun W => so_var)))
    (ss_ret (fun W => so_var)))))))))
def t_law_right (K : PySem.W.Frag) (W : WX) : TS :=
  (tSeq (tFor (iList K (tLst (tCons (tTup (tCons (tC (.int 0)) (tCons (tCall (spF K f_law_span_read) [] E0 (tCons (tVar 0) tNil)) tNil))) (tCons (tTup (tCons (tC (.int 1)) (tCons (tCall (spF K f_law_cover_read) [] E0 (tCons (tVar 0) tNil)) tNil))) (tCons (tTup (tCons (tC (.int 2)) (tCons (tCall (spF K f_law_shelf_read) [] E0 (tCons (tVar 0) tNil)) tNil))) tNil))))) (gTup K 2 (gCons (gName 1) (gCons (gName 2) gNil)))
    ((tSeq (tIfS (tTest (tOp oIsN (tVar 2) (tC .non))) (tAsg (tC (.str "text")) (gName 2)) tNext)
    (tIfS (tTest (tOp (rNeX K) (tCallS (spF K f_law_asked_8) (WE W) (tCons (tVar 0) (tCons (tVar 1) tNil))) (tVar 2))) (tRet (tC (.bl false))) tNext))))
    (tRet (tC (.bl true))))
theorem so_law_right {K : PySem.W.Frag} (xs : Xs K xnames) (kc : KC K) (xm : XM K) : SS K (t_law_right K) e_law_right_14 :=
  (ss_seq (ss_for (fun W => (so_wList (so_dat (so_lst (so_acons (so_tup (so_acons so_cint (so_acons (so_pla (so_call0 (so_acons so_var so_anil))) so_anil))) (so_acons (so_tup (so_acons so_cint (so_acons (so_dat (so_call0 (so_acons so_var so_anil))) so_anil))) (so_acons (so_tup (so_acons so_cint (so_acons (so_dat (so_call0 (so_acons so_var so_anil))) so_anil))) so_anil))))))) (sg_tup (.cons (.cons .nil)) (sgs_cons sg_name (sgs_cons sg_name sgs_nil)))
    (ss_seq (ss_if (fun W => (so_test (so_op s2_pIsN so_var so_cnon))) (ss_set (fun W => so_cstr)) ss_next)
    (ss_if (fun W => (so_test (so_op s2_pNeX (so_dat (so_call (so_acons so_var (so_acons so_var so_anil)))) so_var))) (ss_ret (fun W => so_cbl)) ss_next)))
    (ss_ret (fun W => so_cbl)))
def t_law_spoilt (K : PySem.W.Frag) (W : WX) : TS :=
  (tSeq (tAsg (tCall (spF K f_law_draw) [] E0 (tCons (tVar 0) (tCons (tC (.int 8)) tNil))) (gName 2))
    (tSeq (tAsg (tCall (spF K f_law_draw) [] E0 (tCons (tVar 0) (tCons (tOp oAdd (tCB rLenTx (tCons (tVar 1) tNil)) (tC (.int 1))) tNil))) (gName 3))
    (tSeq (tAsg (tM1 rSplit (tVar 1) (tC (.str " "))) (gName 4))
    (tSeq (tAsg (tCall (spF K f_law_draw) [] E0 (tCons (tVar 0) (tCons (tCB (Evl.rLenS K) (tCons (tVar 4) tNil)) tNil))) (gName 5))
    (tSeq (tAsg (tOp oAddS (tC (.str "0123456789-. abz")) (tC (.str "\n"))) (gName 6))
    (tSeq (tIfS (tTest (tOp rEq (tCall (spF K f_law_draw) [] E0 (tCons (tVar 0) (tCons (tC (.int 3)) tNil))) (tC (.int 0)))) (tAsg (tC (.str " !#$&'()*+,-./0123456789:;<=>?@ABCXYZ[]^_`abcxyz{|}~")) (gName 6)) tNext)
    (tSeq (tAsg (tOp rIxS (tVar 6) (tCall (spF K f_law_draw) [] E0 (tCons (tVar 0) (tCons (tCB rLenTx (tCons (tVar 6) tNil)) tNil)))) (gName 7))
    (tSeq (tAsg (tLst (tCons (tC (.str "-0")) (tCons (tC (.str "00")) (tCons (tC (.str "01")) (tCons (tC (.str "+1")) (tCons (tC (.str "1..2")) (tCons (tC (.str "2..1")) (tCons (tC (.str "3..3")) (tCons (tC (.str "..")) (tCons (tC (.str "1..2..3")) (tCons (tC (.str "1...2")) (tCons (tC (.str "-1..-0")) (tCons (tC (.str "1000000000")) tNil))))))))))))) (gName 8))
    (tSeq (tAsg (tOp rCat (tVar 8) (tLst (tCons (tC (.str "1000000001")) (tCons (tC (.str "999999999999")) tNil)))) (gName 8))
    (tSeq (tAsg (tOp rCat (tVar 8) (tLst (tCons (tC (.str "1000000000000")) (tCons (tC (.str "0..1000000000000")) (tCons (tC (.str "-1000000000000..0")) (tCons (tC (.str "A")) (tCons (tC (.str "aaaaaaaaa")) (tCons (tC (.str "")) (tCons (tC (.str "1.2")) tNil))))))))) (gName 8))
    (tSeq (tIfS (tTest (tOp rEq (tVar 2) (tC (.int 0)))) (tRet (tOp oAddS (tSl rSlS (tVar 1) tNoPart (tPart (tVar 3))) (tSl rSlS (tVar 1) (tPart (tOp oAdd (tVar 3) (tC (.int 1)))) tNoPart))) tNext)
    (tSeq (tIfS (tTest (tOp oLt (tVar 2) (tC (.int 3)))) (tRet (tOp oAddS (tOp oAddS (tSl rSlS (tVar 1) tNoPart (tPart (tVar 3))) (tVar 7)) (tSl rSlS (tVar 1) (tPart (tVar 3)) tNoPart))) tNext)
    (tSeq (tIfS (tTest (tOp rEq (tVar 2) (tC (.int 3)))) (tRet (tOp oAddS (tOp oAddS (tSl rSlS (tVar 1) tNoPart (tPart (tVar 3))) (tVar 7)) (tSl rSlS (tVar 1) (tPart (tOp oAdd (tVar 3) (tC (.int 1)))) tNoPart))) tNext)
    (tSeq (tIfS (tTest (tOp rEq (tVar 2) (tC (.int 4)))) (tRet (tM1 (rJoin K) (tC (.str " ")) (tOp rCat (tOp rCat (tSl (rSlL K) (tVar 4) tNoPart (tPart (tVar 5))) (tLst (tCons (tOp (rIxL K) (tVar 8) (tCall (spF K f_law_draw) [] E0 (tCons (tVar 0) (tCons (tCB (Evl.rLenS K) (tCons (tVar 8) tNil)) tNil)))) tNil))) (tSl (rSlL K) (tVar 4) (tPart (tOp oAdd (tVar 5) (tC (.int 1)))) tNoPart)))) tNext)
    (tSeq (tIfS (tTest (tOp rEq (tVar 2) (tC (.int 5)))) (tRet (tM1 (rJoin K) (tC (.str " ")) (tOp rCat (tOp rCat (tSl (rSlL K) (tVar 4) tNoPart (tPart (tVar 5))) (tLst (tCons (tOp (rIxL K) (tVar 4) (tVar 5)) tNil))) (tSl (rSlL K) (tVar 4) (tPart (tVar 5)) tNoPart)))) tNext)
    (tSeq (tIfS (tTest (tOp rEq (tVar 2) (tC (.int 6)))) (tRet (tM1 (rJoin K) (tC (.str "\n")) (tRevL K (tM1 rSplit (tVar 1) (tC (.str "\n")))))) tNext)
    (tRet (tOp oAddS (tOp oAddS (tVar 1) (tOp (rIxL K) (tLst (tCons (tC (.str "\n")) (tCons (tC (.str " ")) tNil))) (tOp oMod (tVar 3) (tC (.int 2))))) (tVar 1)))))))))))))))))))
theorem so_law_spoilt {K : PySem.W.Frag} (xs : Xs K xnames) (kc : KC K) (xm : XM K) : SS K (t_law_spoilt K) e_law_spoilt_2 :=
  (ss_seq (ss_set (fun W => (so_pla (so_call0 (so_acons so_var (so_acons so_cint so_anil))))))
    (ss_seq (ss_set (fun W => (so_pla (so_call0 (so_acons so_var (so_acons (so_op s2_pAdd (so_eCB sc_pLenS (so_acons so_var so_anil)) so_cint) so_anil))))))
    (ss_seq (ss_set (fun W => (so_dat (so_split so_var so_cstr))))
    (ss_seq (ss_set (fun W => (so_pla (so_call0 (so_acons so_var (so_acons (so_eCB sc_pLen (so_acons so_var so_anil)) so_anil))))))
    (ss_seq (ss_set (fun W => (so_op s2_pAddS so_cstr so_cstr)))
    (ss_seq (ss_if (fun W => (so_test (so_op s2_pEq (so_pla (so_call0 (so_acons so_var (so_acons so_cint so_anil)))) so_cint))) (ss_set (fun W => so_cstr)) ss_next)
    (ss_seq (ss_set (fun W => (so_op s2_pIxS so_var (so_pla (so_call0 (so_acons so_var (so_acons (so_eCB sc_pLenS (so_acons so_var so_anil)) so_anil)))))))
    (ss_seq (ss_set (fun W => (so_dat (so_lst (so_acons so_cstr (so_acons so_cstr (so_acons so_cstr (so_acons so_cstr (so_acons so_cstr (so_acons so_cstr (so_acons so_cstr (so_acons so_cstr (so_acons so_cstr (so_acons so_cstr (so_acons so_cstr (so_acons so_cstr so_anil))))))))))))))))
    (ss_seq (ss_set (fun W => (so_dat (so_fop s2_pCat so_var (so_dat (so_lst (so_acons so_cstr (so_acons so_cstr so_anil))))))))
    (ss_seq (ss_set (fun W => (so_dat (so_fop s2_pCat so_var (so_dat (so_lst (so_acons so_cstr (so_acons so_cstr (so_acons so_cstr (so_acons so_cstr (so_acons so_cstr (so_acons so_cstr (so_acons so_cstr so_anil)))))))))))))
    (ss_seq (ss_if (fun W => (so_test (so_op s2_pEq so_var so_cint))) (ss_ret (fun W => (so_op s2_pAddS (so_slS so_var so_none (so_some so_var)) (so_slS so_var (so_some (so_op s2_pAdd so_var so_cint)) so_none)))) ss_next)
    (ss_seq (ss_if (fun W => (so_test (so_op s2_pLt so_var so_cint))) (ss_ret (fun W => (so_op s2_pAddS (so_op s2_pAddS (so_slS so_var so_none (so_some so_var)) so_var) (so_slS so_var (so_some so_var) so_none)))) ss_next)
    (ss_seq (ss_if (fun W => (so_test (so_op s2_pEq so_var so_cint))) (ss_ret (fun W => (so_op s2_pAddS (so_op s2_pAddS (so_slS so_var so_none (so_some so_var)) so_var) (so_slS so_var (so_some (so_op s2_pAdd so_var so_cint)) so_none)))) ss_next)
    (ss_seq (ss_if (fun W => (so_test (so_op s2_pEq so_var so_cint))) (ss_ret (fun W => (so_join so_cstr (so_dat (so_fop s2_pCat (so_dat (so_fop s2_pCat (so_dat (so_sl so_var so_none (so_some so_var))) (so_dat (so_lst (so_acons (so_op s2_pIxL so_var (so_pla (so_call0 (so_acons so_var (so_acons (so_eCB sc_pLen (so_acons so_var so_anil)) so_anil))))) so_anil))))) (so_dat (so_sl so_var (so_some (so_op s2_pAdd so_var so_cint)) so_none))))))) ss_next)
    (ss_seq (ss_if (fun W => (so_test (so_op s2_pEq so_var so_cint))) (ss_ret (fun W => (so_join so_cstr (so_dat (so_fop s2_pCat (so_dat (so_fop s2_pCat (so_dat (so_sl so_var so_none (so_some so_var))) (so_dat (so_lst (so_acons (so_op s2_pIxL so_var so_var) so_anil))))) (so_dat (so_sl so_var (so_some so_var) so_none))))))) ss_next)
    (ss_seq (ss_if (fun W => (so_test (so_op s2_pEq so_var so_cint))) (ss_ret (fun W => (so_join so_cstr (so_dat (so_rev (so_dat (so_split so_var so_cstr))))))) ss_next)
    (ss_ret (fun W => (so_op s2_pAddS (so_op s2_pAddS so_var (so_op s2_pIxL (so_dat (so_lst (so_acons so_cstr (so_acons so_cstr so_anil)))) (so_op s2_pMod so_var so_cint))) so_var)))))))))))))))))))
def t_law_span (K : PySem.W.Frag) (W : WX) : TS :=
  (tSeq (tAsg (tCall (spF K f_law_end) [] E0 (tCons (tVar 0) (tCons (tVar 1) (tCons (tVar 2) tNil)))) (gName 3))
    (tSeq (tAsg (tCall (spF K f_law_end) [] E0 (tCons (tVar 0) (tCons (tOp rCat (tVar 1) (tLst (tCons (tVar 3) tNil))) (tCons (tVar 2) tNil)))) (gName 4))
    (tSeq (tAsg (tCB (rNuC3 nuMin3) (tCons (tVar 3) (tCons (tVar 4) (tCons (tOp oSub (tVar 2) (tC (.int 1))) tNil)))) (gName 5))
    (tSeq (tAsg (tCB (rNuC3 nuMax3) (tCons (tVar 3) (tCons (tVar 4) (tCons (tOp oAdd (tVar 5) (tC (.int 1))) tNil)))) (gName 6))
    (tSeq (tDrop (tBM K "list" rAppend (tVar 1) (tCons (tVar 5) tNil)))
    (tSeq (tDrop (tBM K "list" rAppend (tVar 1) (tCons (tVar 6) tNil)))
    (tRet (tTup (tCons (tVar 5) (tCons (tVar 6) tNil))))))))))
theorem so_law_span {K : PySem.W.Frag} (xs : Xs K xnames) (kc : KC K) (xm : XM K) : SS K (t_law_span K) e_law_span :=
  (ss_seq (ss_set (fun W => (so_pla (so_call0 (so_acons so_var (so_acons so_var (so_acons so_var so_anil)))))))
    (ss_seq (ss_set (fun W => (so_pla (so_call0 (so_acons so_var (so_acons (so_dat (so_fop s2_pCat so_var (so_dat (so_lst (so_acons so_var so_anil))))) (so_acons so_var so_anil)))))))
    (ss_seq (ss_set (fun W => (so_eCB sc_pMin3 (so_acons so_var (so_acons so_var (so_acons (so_op s2_pSub so_var so_cint) so_anil))))))
    (ss_seq (ss_set (fun W => (so_eCB sc_pMax3 (so_acons so_var (so_acons so_var (so_acons (so_op s2_pAdd so_var so_cint) so_anil))))))
    (ss_seq (ss_expr (fun W => (so_bm sm_pAppend so_var (so_acons so_var so_anil))))
    (ss_seq (ss_expr (fun W => (so_bm sm_pAppend so_var (so_acons so_var so_anil))))
    (ss_ret (fun W => (so_tup (so_acons so_var (so_acons so_var so_anil)))))))))))
def t_law (K : PySem.W.Frag) (W : WX) : TS :=
  (tSeq (tAsg (tCall (spF K f_law_names) [] E0 (tCons (tCall (spF K f_law_purse) [] E0 (tCons (tVar 0) (tCons (tC (.int 0)) tNil))) (tCons (tC (.int 5)) tNil))) (gName 1))
    (tSeq (tFor (iRng2 (tCons (tC (.int 1)) (tCons (tC (.int 13)) tNil))) (gName 2)
    ((tSeq (tAsg (tCall (spF K f_law_purse) [] E0 (tCons (tVar 0) (tCons (tVar 2) tNil))) (gName 3))
    (tSeq (tAsg tDNewK (gName 4))
    (tSeq (tFor (iList K (tSl (rSlL K) (tVar 1) tNoPart (tPart (tCall (spF K f_law_draw) [] E0 (tCons (tVar 3) (tCons (tC (.int 6)) tNil)))))) (gName 5)
    ((sDPut (tVar 4) (tVar 5) (tTup (tCons (tCall (spF K f_law_span) [] E0 (tCons (tVar 3) (tCons (tLst tNil) (tCons (tOp (rIxL K) (tLst (tCons (tC (.int 9)) (tCons (tOp oSub (tOp oPow (tC (.int 10)) (tC (.int 12))) (tC (.int 1))) tNil))) (tCall (spF K f_law_draw) [] E0 (tCons (tVar 3) (tCons (tC (.int 2)) tNil)))) tNil)))) (tCons (tCall (spF K f_law_draw) [] E0 (tCons (tVar 3) (tCons (tOp oAdd (tOp oPow (tC (.int 10)) (tC (.int 9))) (tC (.int 1))) tNil))) tNil))))))
    (tSeq (tAsg (tCall (spF K f_law_cover_4) [] E0 (tCons (tVar 3) (tCons (tCall (spF K f_law_draw) [] E0 (tCons (tVar 3) (tCons (tC (.int 6)) tNil))) tNil))) (gName 6))
    (tSeq (tAsg (tLst (tCons (tCall (spF K f_law_shelf_text) [] E0 (tCons (tVar 4) tNil)) (tCons (tM1 (rJoin K) (tC (.str " ")) (tLc (iList K (tVar 6)) (gName 7) tYes (tCall (spF K f_law_span_text) [] E0 (tCons (tVar 7) tNil)) [7])) tNil))) (gName 8))
    (tSeq (tDrop (tBM K "list" rAppend (tVar 8) (tCons (tCall (spF K f_law_span_text) [] E0 (tCons (tCall (spF K f_law_span) [] E0 (tCons (tVar 3) (tCons (tLst tNil) (tCons (tOp oSub (tOp oPow (tC (.int 10)) (tC (.int 12))) (tC (.int 1))) tNil)))) tNil)) tNil)))
    (tSeq (tAsg (tOp (rIxL K) (tVar 8) (tCall (spF K f_law_draw) [] E0 (tCons (tVar 3) (tCons (tC (.int 3)) tNil)))) (gName 9))
    (tSeq (tIfS (tNot (tB (tCall (spF K f_law_right_14) [] E0 (tCons (tVar 9) tNil)))) (tRet (tC (.bl false))) tNext)
    (tFor (iRng1 (tCons (tOp oAdd (tC (.int 1)) (tCall (spF K f_law_draw) [] E0 (tCons (tVar 3) (tCons (tC (.int 2)) tNil)))) tNil)) (gName 10)
    ((tSeq (tAsg (tCall (spF K f_law_spoilt_2) [] E0 (tCons (tVar 3) (tCons (tVar 9) tNil))) (gName 9))
    (tIfS (tNot (tB (tCall (spF K f_law_right_14) [] E0 (tCons (tVar 9) tNil)))) (tRet (tC (.bl false))) tNext))))))))))))))
    (tSeq (tAsg (tC (.str "abcdefghijklmnopqrstuvwxyz")) (gName 11))
    (tSeq (tAsg (tLc (iRng1 (tCons (tC (.int 61)) tNil)) (gName 12) tYes (tOp oAddS (tOp oAddS (tOp rIxS (tVar 11) (tOp oDiv (tVar 12) (tC (.int 26)))) (tOp rIxS (tVar 11) (tOp oMod (tVar 12) (tC (.int 26))))) (tC (.str " 0..1 7"))) [12]) (gName 13))
    (tSeq (tAsg (tLc (iRng1 (tCons (tC (.int 201)) tNil)) (gName 12) tYes (tOp oAddS (tOp oAddS (tCB rStrI (tCons (tOp oMul (tC (.int 3)) (tVar 12)) tNil)) (tC (.str ".."))) (tCB rStrI (tCons (tOp oAdd (tOp oMul (tC (.int 3)) (tVar 12)) (tC (.int 1))) tNil))) [12]) (gName 14))
    (tSeq (tFor (iList K (tLst (tCons (tC (.str "")) (tCons (tM1 (rJoin K) (tC (.str "\n")) (tVar 13)) (tCons (tM1 (rJoin K) (tC (.str "\n")) (tSl (rSlL K) (tVar 13) tNoPart (tPart (tC (.int 60))))) (tCons (tM1 (rJoin K) (tC (.str " ")) (tVar 14)) (tCons (tM1 (rJoin K) (tC (.str " ")) (tSl (rSlL K) (tVar 14) tNoPart (tPart (tC (.int 200))))) tNil))))))) (gName 9)
    ((tIfS (tNot (tB (tCall (spF K f_law_right_14) [] E0 (tCons (tVar 9) tNil)))) (tRet (tC (.bl false))) tNext)))
    (tRet (tC (.bl true)))))))))
theorem so_law {K : PySem.W.Frag} (xs : Xs K xnames) (kc : KC K) (xm : XM K) : SS K (t_law K) e_law_k79 :=
  (ss_seq (ss_set (fun W => (so_dat (so_call0 (so_acons (so_cel (so_call0 (so_acons so_var (so_acons so_cint so_anil)))) (so_acons so_cint so_anil))))))
    (ss_seq (ss_for (fun W => (so_wRng2 (so_acons so_cint (so_acons so_cint so_anil)))) sg_name
    (ss_seq (ss_set (fun W => (so_cel (so_call0 (so_acons so_var (so_acons so_var so_anil))))))
    (ss_seq (ss_set (fun W => so_dnew))
    (ss_seq (ss_for (fun W => (so_wList (so_dat (so_sl so_var so_none (so_some (so_pla (so_call0 (so_acons so_var (so_acons so_cint so_anil))))))))) sg_name
    (ss_dput (fun W => (so_tup (so_acons (so_pla (so_call0 (so_acons so_var (so_acons (so_cel (so_lst so_anil)) (so_acons (so_op s2_pIxL (so_dat (so_lst (so_acons so_cint (so_acons (so_op s2_pSub (so_op s2_pPow so_cint so_cint) so_cint) so_anil)))) (so_pla (so_call0 (so_acons so_var (so_acons so_cint so_anil))))) so_anil))))) (so_acons (so_pla (so_call0 (so_acons so_var (so_acons (so_op s2_pAdd (so_op s2_pPow so_cint so_cint) so_cint) so_anil)))) so_anil)))) (fun W => so_var) (fun W => so_var)))
    (ss_seq (ss_set (fun W => (so_dat (so_call0 (so_acons so_var (so_acons (so_pla (so_call0 (so_acons so_var (so_acons so_cint so_anil)))) so_anil))))))
    (ss_seq (ss_set (fun W => (so_cel (so_lst (so_acons (so_pla (so_call0 (so_acons so_var so_anil))) (so_acons (so_join so_cstr (so_dat (so_lc (vs := [7]) (so_wList so_var) (sgw_name (by decide)) so_yes (so_pla (so_call0 (so_acons so_var so_anil)))))) so_anil))))))
    (ss_seq (ss_expr (fun W => (so_bm sm_pAppend so_var (so_acons (so_pla (so_call0 (so_acons (so_pla (so_call0 (so_acons so_var (so_acons (so_cel (so_lst so_anil)) (so_acons (so_op s2_pSub (so_op s2_pPow so_cint so_cint) so_cint) so_anil))))) so_anil))) so_anil))))
    (ss_seq (ss_set (fun W => (so_op s2_pIxL so_var (so_pla (so_call0 (so_acons so_var (so_acons so_cint so_anil)))))))
    (ss_seq (ss_if (fun W => (so_mNot (so_B (so_pla (so_call0 (so_acons so_var so_anil)))))) (ss_ret (fun W => so_cbl)) ss_next)
    (ss_for (fun W => (so_wRng1 (so_acons (so_op s2_pAdd so_cint (so_pla (so_call0 (so_acons so_var (so_acons so_cint so_anil))))) so_anil))) sg_name
    (ss_seq (ss_set (fun W => (so_pla (so_call0 (so_acons so_var (so_acons so_var so_anil))))))
    (ss_if (fun W => (so_mNot (so_B (so_pla (so_call0 (so_acons so_var so_anil)))))) (ss_ret (fun W => so_cbl)) ss_next))))))))))))
    (ss_seq (ss_set (fun W => so_cstr))
    (ss_seq (ss_set (fun W => (so_dat (so_lc (vs := [12]) (so_wRng1 (so_acons so_cint so_anil)) (sgw_name (by decide)) so_yes (so_op s2_pAddS (so_op s2_pAddS (so_op s2_pIxS so_var (so_op s2_pDiv so_var so_cint)) (so_op s2_pIxS so_var (so_op s2_pMod so_var so_cint))) so_cstr)))))
    (ss_seq (ss_set (fun W => (so_dat (so_lc (vs := [12]) (so_wRng1 (so_acons so_cint so_anil)) (sgw_name (by decide)) so_yes (so_op s2_pAddS (so_op s2_pAddS (so_eCB sc_pStrI (so_acons (so_op s2_pMul so_cint so_var) so_anil)) so_cstr) (so_eCB sc_pStrI (so_acons (so_op s2_pAdd (so_op s2_pMul so_cint so_var) so_cint) so_anil)))))))
    (ss_seq (ss_for (fun W => (so_wList (so_dat (so_lst (so_acons so_cstr (so_acons (so_join so_cstr so_var) (so_acons (so_join so_cstr (so_dat (so_sl so_var so_none (so_some so_cint)))) (so_acons (so_join so_cstr so_var) (so_acons (so_join so_cstr (so_dat (so_sl so_var so_none (so_some so_cint)))) so_anil))))))))) sg_name
    (ss_if (fun W => (so_mNot (so_B (so_pla (so_call0 (so_acons so_var so_anil)))))) (ss_ret (fun W => so_cbl)) ss_next))
    (ss_ret (fun W => so_cbl))))))))
section
variable {P : Program} {w : World} {K : PySem.W.Frag} {mg : Str → Option Value} {base : Heap}
theorem ok_law_mixed (T : Txt K mg) {f : Addr} {fd : FuncData} (F : FnP K "_law_mixed" s_law_mixed f fd) : FnOk P w K mg base (L2.CX P w) 1 f fd ["_law_cell", "_law_k"] (spF K f_law_mixed) :=
  fn_okG (b := e_law_mixed) F sc_law_mixed (t_law_mixed K) (fun cdv A outer s H E hr =>
    (pss_cons (ps_set (i := 2) sc_law_mixed.nd rfl (Or.inl rfl) (pe_op op_mod (pe_op op_add (pe_op op_add (pe_op op_add (pe_op op_mul (pv 0) pe_int) (pe_op op_mul (pe_op op_mul pe_int (pv 1)) (pv 1))) (pv 1)) pe_int) pe_int)) (pss_cons (ps_set (i := 2) sc_law_mixed.nd rfl (Or.inl rfl) (pe_op op_mod (pe_op op_add (pe_op op_mul (pv 2) (pv 2)) pe_int) pe_int)) (pss_one (ps_ret (pe_op op_mod (pe_op op_mul (pv 2) pe_int) pe_int)))))) (so_law_mixed T.xs T.kc T.xm) rfl rfl rfl
theorem ok_law_draw (T : Txt K mg) (C_law_mixed : CalF P w K mg base "_law_mixed" 1 ["_law_cell", "_law_k"] f_law_mixed) {f : Addr} {fd : FuncData} (F : FnP K "_law_draw" s_law_draw f fd) : FnOk P w K mg base (L2.CX P w) 2 f fd ["_law_purse_here", "_law_out_of"] (spF K f_law_draw) :=
  fn_okG (b := e_law_draw) F sc_law_draw (t_law_draw K) (fun cdv A outer s H E hr =>
    (pss_cons (ps_if (pt_cmpR op_gt (pe_ix ix_list (pv 0) pe_int (fun _ _ => rfl)) pe_int (nomark _)) (pss_cons (ps_set (i := 2) sc_law_draw.nd rfl (Or.inl rfl) (pe_op op_mod (pe_ix ix_list (pv 0) pe_int (fun _ _ => rfl)) (pv 1))) (pss_cons (ps_asg (pe_op op_fdivW (pe_ix ix_list (pv 0) pe_int (fun _ _ => rfl)) (pv 1)) (pg_sub (pv 0) pe_int set_list)) (pss_one (ps_ret (pv 2))))) pss_nil) (pss_cons (ps_set (i := 3) sc_law_draw.nd rfl (Or.inl rfl) pe_int) (pss_cons (ps_for (passes_of rfl) rfl (pi_range1 (by rfl) T.n_range (pa_cons (pe_op op_add pe_int (pe_op op_fdivW (pe_bits (pv 1)) pe_int)) pa_nil)) (pg_name (i := 4) sc_law_draw.nd rfl (Or.inl rfl)) (pss_cons (ps_asg (pe_op op_add (pe_ix ix_list (pv 0) pe_int (fun _ _ => rfl)) pe_int) (pg_sub (pv 0) pe_int set_list)) (pss_one (ps_set (i := 3) sc_law_draw.nd rfl (Or.inl rfl) (pe_op op_add (pe_op op_mul (pv 3) pe_int) (pc_own C_law_mixed (hr.mono (by decide)) (by rfl) (pa_cons (pe_ix ix_list (pv 0) pe_int (fun _ _ => rfl)) (pa_cons (pe_ix ix_list (pv 0) pe_int (fun _ _ => rfl)) pa_nil)))))))) (pss_one (ps_ret (pe_op op_mod (pv 3) (pv 1)))))))) (so_law_draw T.xs T.kc T.xm) rfl rfl rfl
theorem ok_law_names (T : Txt K mg) (C_law_draw : CalF P w K mg base "_law_draw" 2 ["_law_purse_here", "_law_out_of"] f_law_draw) {f : Addr} {fd : FuncData} (F : FnP K "_law_names" s_law_names f fd) : FnOk P w K mg base (L2.CX P w) 3 f fd ["_law_purse_here", "_law_many"] (spF K f_law_names) :=
  fn_okG (b := e_law_names) F sc_law_names (t_law_names K) (fun cdv A outer s H E hr =>
    (pss_cons (ps_set (i := 2) sc_law_names.nd rfl (Or.inr rfl) pe_str) (pss_cons (ps_set (i := 4) sc_law_names.nd rfl (Or.inr rfl) (pe_join pe_str (pe_lc (own := [("_law_k", 3)]) (g := (gName 3)) (tt := tYes) rfl sc_law_names.nd (pi_range1 (by rfl) T.n_range (pa_cons (pc_own C_law_draw (hr.mono (by decide)) (by rfl) (pa_cons (pv 0) (pa_cons pe_int pa_nil))) pa_nil)) (blkOk_by (own := [("_law_k", 3)]) (N := N_law_names) (sc := defScope s_law_names) (by decide +kernel)) (fun _ _ _ _ _ => (pg_name (i := 3) sc_law_names.nd rfl (Or.inl rfl))) (fun _ _ _ _ _ => pts_nil) (fun _ _ _ _ _ => (pe_ix ix_str (pv 2) (pc_own C_law_draw (hr.mono (by decide)) (by rfl) (pa_cons (pv 0) (pa_cons pe_int pa_nil))) (fun _ _ => rfl)))))) (pss_cons (ps_set (i := 5) sc_law_names.nd rfl (Or.inr rfl) (pc_own C_law_draw (hr.mono (by decide)) (by rfl) (pa_cons (pv 0) (pa_cons (pe_op op_add (pe_callB call_len_str (by rfl) T.n_len bt_len (pa_cons (pv 4) pa_nil)) pe_int) pa_nil)))) (pss_cons (ps_set (i := 6) sc_law_names.nd rfl (Or.inr rfl) (pc_own C_law_draw (hr.mono (by decide)) (by rfl) (pa_cons (pv 0) (pa_cons pe_int pa_nil)))) (pss_cons (ps_setLc (i := 7) (own := [("_law_k", 3)]) rfl sc_law_names.nd rfl rfl (sw_true rfl rfl rfl (by decide +kernel)) (pi_range1 (by rfl) T.n_range (pa_cons (pv 1) pa_nil)) (blkOk_by (own := [("_law_k", 3)]) (N := N_law_names) (sc := defScope s_law_names) (by decide +kernel)) (fun _ _ _ _ _ => (pg_name (i := 3) sc_law_names.nd rfl (Or.inl rfl))) (fun _ _ _ _ _ => pts_nil) (fun _ _ _ _ _ => (pe_op op_add_str (pe_op op_add_str (pe_slice sl_str (pv 4) po_none (po_some (pv 5))) (pe_ix ix_str (pv 2) (pe_op op_mod (pe_op op_add (pv 6) (pe_op op_mul pe_int (pv 3))) pe_int) (fun _ _ => rfl))) (pe_slice sl_str (pv 4) (po_some (pv 5)) po_none)))) (pss_one (ps_ret (pv 7))))))))) (so_law_names T.xs T.kc T.xm) rfl rfl rfl
theorem ok_law_at (T : Txt K mg) {f : Addr} {fd : FuncData} (F : FnP K "_law_at" s_law_at f fd) : FnOk P w K mg base (L2.CX P w) 1 f fd ["_law_script", "_law_k"] (spF K f_law_at) :=
  fn_okG (b := e_law_at) F sc_law_at (t_law_at K) (fun cdv A outer s H E hr =>
    (pss_cons (ps_if (pt_cmpR op_lt (pv 1) (pe_callB call_len_seq (by rfl) T.n_len bt_len (pa_cons (pv 0) pa_nil)) (nomark _)) (pss_one (ps_ret (pe_ix ix_list (pv 0) (pv 1) (fun _ _ => rfl)))) pss_nil) (pss_one (ps_ret pe_int)))) (so_law_at T.xs T.kc T.xm) rfl rfl rfl
theorem ok_law_purse (T : Txt K mg) (C_law_at : CalF P w K mg base "_law_at" 1 ["_law_script", "_law_k"] f_law_at) {f : Addr} {fd : FuncData} (F : FnP K "_law_purse" s_law_purse f fd) : FnOk P w K mg base (L2.CX P w) 2 f fd ["_law_script", "_law_at_here"] (spF K f_law_purse) :=
  fn_okG (b := e_law_purse) F sc_law_purse (t_law_purse K) (fun cdv A outer s H E hr =>
    (pss_cons (ps_set (i := 2) sc_law_purse.nd rfl (Or.inl rfl) (pc_own C_law_at (hr.mono (by decide)) (by rfl) (pa_cons (pv 0) (pa_cons (pv 1) pa_nil)))) (pss_one (ps_ret (pe_lst (pa_cons (pe_callB (call_max2 rfl) (by rfl) T.n_max bt_max (pa_cons (pe_op op_sub (pv 2) (pe_op op_pow pe_int pe_int)) (pa_cons pe_int pa_nil))) (pa_cons (pe_op op_mod (pv 2) pe_int) (pa_cons (pe_op op_mul pe_int (pv 1)) pa_nil)))))))) (so_law_purse T.xs T.kc T.xm) rfl rfl rfl
theorem ok_law_number (T : Txt K mg) (C_law_draw : CalF P w K mg base "_law_draw" 2 ["_law_purse_here", "_law_out_of"] f_law_draw) {f : Addr} {fd : FuncData} (F : FnP K "_law_number" s_law_number f fd) : FnOk P w K mg base (L2.CX P w) 3 f fd ["_law_purse_here", "_law_most"] (spF K f_law_number) :=
  fn_okG (b := e_law_number) F sc_law_number (t_law_number K) (fun cdv A outer s H E hr =>
    (pss_cons (ps_set (i := 2) sc_law_number.nd rfl (Or.inl rfl) (pe_ix ix_list (pe_lst (pa_cons pe_int (pa_cons pe_int (pa_cons pe_int (pa_cons (pv 1) pa_nil))))) (pc_own C_law_draw (hr.mono (by decide)) (by rfl) (pa_cons (pv 0) (pa_cons pe_int pa_nil))) (fun _ _ => rfl))) (pss_one (ps_ret (pe_op op_sub (pc_own C_law_draw (hr.mono (by decide)) (by rfl) (pa_cons (pv 0) (pa_cons (pe_op op_add (pe_op op_mul pe_int (pv 2)) pe_int) pa_nil))) (pv 2)))))) (so_law_number T.xs T.kc T.xm) rfl rfl rfl
theorem ok_law_end (T : Txt K mg) (C_law_draw : CalF P w K mg base "_law_draw" 2 ["_law_purse_here", "_law_out_of"] f_law_draw) (C_law_number : CalF P w K mg base "_law_number" 3 ["_law_purse_here", "_law_most"] f_law_number) {f : Addr} {fd : FuncData} (F : FnP K "_law_end" s_law_end f fd) : FnOk P w K mg base (L2.CX P w) 4 f fd ["_law_purse_here", "_law_ends", "_law_most"] (spF K f_law_end) :=
  fn_okG (b := e_law_end) F sc_law_end (t_law_end K) (fun cdv A outer s H E hr =>
    (pss_cons (ps_if (PW.pt (pw_and (pt_cmpR (op_neD hr.units) (pv 1) (pe_lst pa_nil) (nomark _)) (pw_and1 (pt_cmpR op_gt (pc_own C_law_draw (hr.mono (by decide)) (by rfl) (pa_cons (pv 0) (pa_cons pe_int pa_nil))) pe_int (nomark _))))) (pss_cons (ps_set (i := 3) sc_law_end.nd rfl (Or.inl rfl) (pe_op op_sub (pe_op op_add (pe_ix ix_list (pv 1) (pc_own C_law_draw (hr.mono (by decide)) (by rfl) (pa_cons (pv 0) (pa_cons (pe_callB call_len_seq (by rfl) T.n_len bt_len (pa_cons (pv 1) pa_nil)) pa_nil))) (fun _ _ => rfl)) (pc_own C_law_draw (hr.mono (by decide)) (by rfl) (pa_cons (pv 0) (pa_cons pe_int pa_nil)))) pe_int)) (pss_one (ps_ret (pe_callB (call_max2 rfl) (by rfl) T.n_max bt_max (pa_cons (pe_op op_sub pe_int (pv 2)) (pa_cons (pe_callB (call_min2 rfl) (by rfl) T.n_min bt_min (pa_cons (pv 2) (pa_cons (pv 3) pa_nil))) pa_nil)))))) pss_nil) (pss_one (ps_ret (pc_own C_law_number (hr.mono (by decide)) (by rfl) (pa_cons (pv 0) (pa_cons (pv 2) pa_nil))))))) (so_law_end T.xs T.kc T.xm) rfl rfl rfl
theorem ok_law_cover (T : Txt K mg) (C_law_end : CalF P w K mg base "_law_end" 4 ["_law_purse_here", "_law_ends", "_law_most"] f_law_end) {f : Addr} {fd : FuncData} (F : FnP K "_law_cover" s_law_cover f fd) : FnOk P w K mg base (L2.CX P w) 5 f fd ["_law_purse_here", "_law_many"] (spF K f_law_cover_4) :=
  fn_okG (b := e_law_cover_4) F sc_law_cover (t_law_cover K) (fun cdv A outer s H E hr =>
    (pss_cons (ps_set (i := 2) sc_law_cover.nd rfl (Or.inr rfl) (pe_lst pa_nil)) (pss_cons (ps_for (passes_of rfl) rfl (pi_range1 (by rfl) T.n_range (pa_cons (pe_op op_mul pe_int (pv 1)) pa_nil)) (pg_name (i := 3) sc_law_cover.nd rfl (Or.inl rfl)) (pss_one (ps_expr (pe_bm PySem.F.plainAttrs_list PySem.F.slot_list_append PySem.F.type_list_append mt_append (pv 2) (pa_cons (pc_own C_law_end (hr.mono (by decide)) (by rfl) (pa_cons (pv 0) (pa_cons (pv 2) (pa_cons (pe_op op_sub (pe_op op_pow pe_int pe_int) pe_int) pa_nil)))) pa_nil))))) (pss_cons (ps_set (i := 2) sc_law_cover.nd rfl (Or.inr rfl) (pe_sortSet (by rfl) T.n_sorted (by rfl) T.n_set (pv 2))) (pss_one (ps_ret (pe_lc (own := [("_law_k", 3)]) (g := (gName 3)) (tt := tYes) rfl sc_law_cover.nd (pi_range1 (by rfl) T.n_range (pa_cons (pe_op op_fdivW (pe_callB call_len_seq (by rfl) T.n_len bt_len (pa_cons (pv 2) pa_nil)) pe_int) pa_nil)) (blkOk_by (own := [("_law_k", 3)]) (N := N_law_cover) (sc := defScope s_law_cover) (by decide +kernel)) (fun _ _ _ _ _ => (pg_name (i := 3) sc_law_cover.nd rfl (Or.inl rfl))) (fun _ _ _ _ _ => pts_nil) (fun _ _ _ _ _ => (pe_tup (pa_cons (pe_ix ix_list (pv 2) (pe_op op_mul pe_int (pv 3)) (fun _ _ => rfl)) (pa_cons (pe_ix ix_list (pv 2) (pe_op op_add (pe_op op_mul pe_int (pv 3)) pe_int) (fun _ _ => rfl)) pa_nil))))))))))) (so_law_cover T.xs T.kc T.xm) rfl rfl rfl
theorem ok_law_span_text (T : Txt K mg) {f : Addr} {fd : FuncData} (F : FnP K "_law_span_text" s_law_span_text f fd) : FnOk P w K mg base (L2.CX P w) 1 f fd ["_law_span_here"] (spF K f_law_span_text) :=
  fn_okG (b := e_law_span_text) F sc_law_span_text (t_law_span_text K) (fun cdv A outer s H E hr =>
    (pss_one (ps_ret (pe_op op_add_str (pe_op op_add_str (pe_callTy call_str_int (by rfl) T.n_str bt_str (pa_cons (pe_ix ix_tup (pv 0) pe_int (fun _ _ => rfl)) pa_nil)) pe_str) (pe_callTy call_str_int (by rfl) T.n_str bt_str (pa_cons (pe_ix ix_tup (pv 0) pe_int (fun _ _ => rfl)) pa_nil)))))) (so_law_span_text T.xs T.kc T.xm) rfl rfl rfl
theorem ok_law_shelf_text (T : Txt K mg) (C_law_span_text : CalF P w K mg base "_law_span_text" 1 ["_law_span_here"] f_law_span_text) {f : Addr} {fd : FuncData} (F : FnP K "_law_shelf_text" s_law_shelf_text f fd) : FnOk P w K mg base (L2.CX P w) 2 f fd ["_law_kept"] (spF K f_law_shelf_text) :=
  fn_okG (b := e_law_shelf_text) F sc_law_shelf_text (t_law_shelf_text K) (fun cdv A outer s H E hr =>
    (pss_cons (ps_setLc (i := 2) (own := [("_law_name", 1)]) rfl sc_law_shelf_text.nd rfl rfl (sw_true rfl rfl rfl (by decide +kernel)) (pi_list (pe_callB (call_sortedD rfl) (by rfl) T.n_sorted bt_sorted (pa_cons (pv 0) pa_nil))) (blkOk_by (own := [("_law_name", 1)]) (N := N_law_shelf_text) (sc := defScope s_law_shelf_text) (by decide +kernel)) (fun _ _ _ _ _ => (pg_name (i := 1) sc_law_shelf_text.nd rfl (Or.inl rfl))) (fun _ _ _ _ _ => pts_nil) (fun _ _ _ _ _ => (pe_join pe_str (pe_lst (pa_cons (pv 1) (pa_cons (pc_own C_law_span_text (hr.mono (by decide)) (by rfl) (pa_cons (pe_ix ix_tup (pe_dget (hu1 hr) (pv 0) (pv 1) (fun _ _ => rfl)) pe_int (fun _ _ => rfl)) pa_nil)) (pa_cons (pe_callTy call_str_int (by rfl) T.n_str bt_str (pa_cons (pe_ix ix_tup (pe_dget (hu1 hr) (pv 0) (pv 1) (fun _ _ => rfl)) pe_int (fun _ _ => rfl)) pa_nil)) pa_nil))))))) (pss_one (ps_ret (pe_join pe_str (pv 2)))))) (so_law_shelf_text T.xs T.kc T.xm) rfl rfl rfl
theorem ok_law_number_read (T : Txt K mg) {f : Addr} {fd : FuncData} (F : FnP K "_law_number_read" s_law_number_read f fd) : FnOk P w K mg base (L2.CX P w) 1 f fd ["_law_text"] (spF K f_law_number_read) :=
  fn_okG (b := e_law_number_read) F sc_law_number_read (t_law_number_read K) (fun cdv A outer s H E hr =>
    (pss_cons (ps_set (i := 1) sc_law_number_read.nd rfl (Or.inl rfl) (pv 0)) (pss_cons (ps_if (pt_cmpR op_eq (pe_slice sl_str (pv 0) po_none (po_some pe_int)) pe_str (nomark _)) (pss_one (ps_set (i := 1) sc_law_number_read.nd rfl (Or.inl rfl) (pe_slice sl_str (pv 0) (po_some pe_int) po_none))) pss_nil) (pss_cons (ps_setLc (i := 3) (own := [("_law_sign", 2)]) rfl sc_law_number_read.nd rfl rfl (sw_true rfl rfl rfl (by decide +kernel)) (pi_str (pv 1)) (blkOk_by (own := [("_law_sign", 2)]) (N := N_law_number_read) (sc := defScope s_law_number_read) (by decide +kernel)) (fun _ _ _ _ _ => (pg_name (i := 2) sc_law_number_read.nd rfl (Or.inl rfl))) (fun _ _ _ _ _ => (pts_one (pt_cmpR op_in_sign (pv 2) pe_str (by rfl)))) (fun _ _ _ _ _ => (pv 2))) (pss_cons (ps_if (PW.pt (pw_or (pt_cmpR op_eq (pv 1) pe_str (nomark _)) (pw_or (pt_cmpR op_lt (pe_callB call_len_seq (by rfl) T.n_len bt_len (pa_cons (pv 3) pa_nil)) (pe_callB call_len_str (by rfl) T.n_len bt_len (pa_cons (pv 1) pa_nil)) (nomark _)) (pw_or (pt_cmpR op_gt (pe_callB call_len_str (by rfl) T.n_len bt_len (pa_cons (pv 1) pa_nil)) pe_int (nomark _)) (pw_or1 (PW.pt (pw_and (pt_cmpR op_eq (pe_ix ix_str (pv 1) pe_int (fun _ _ => rfl)) pe_str (nomark _)) (pw_and1 (pt_cmpR op_ne (pv 0) pe_str (nomark _)))))))))) (pss_one (ps_ret pe_non)) pss_nil) (pss_one (ps_ret (pe_callTy call_int_str (by rfl) T.n_int bt_int (pa_cons (pv 0) pa_nil))))))))) (so_law_number_read T.xs T.kc T.xm) rfl rfl rfl
theorem ok_law_span_read (T : Txt K mg) (C_law_number_read : CalF P w K mg base "_law_number_read" 1 ["_law_text"] f_law_number_read) {f : Addr} {fd : FuncData} (F : FnP K "_law_span_read" s_law_span_read f fd) : FnOk P w K mg base (L2.CX P w) 2 f fd ["_law_text"] (spF K f_law_span_read) :=
  fn_okG (b := e_law_span_read) F sc_law_span_read (t_law_span_read K) (fun cdv A outer s H E hr =>
    (pss_cons (ps_set (i := 1) sc_law_span_read.nd rfl (Or.inl rfl) (pe_split (pv 0) pe_str)) (pss_cons (ps_if (pt_cmpR op_ne (pe_callB call_len_seq (by rfl) T.n_len bt_len (pa_cons (pv 1) pa_nil)) pe_int (nomark _)) (pss_one (ps_ret pe_non)) pss_nil) (pss_cons (ps_asg (pe_lc (own := [("_law_part", 2)]) (g := (gName 2)) (tt := tYes) rfl sc_law_span_read.nd (pi_list (pv 1)) (blkOk_by (own := [("_law_part", 2)]) (N := N_law_span_read) (sc := defScope s_law_span_read) (by decide +kernel)) (fun _ _ _ _ _ => (pg_name (i := 2) sc_law_span_read.nd rfl (Or.inl rfl))) (fun _ _ _ _ _ => pts_nil) (fun _ _ _ _ _ => (pc_own C_law_number_read (hr.mono (by decide)) (by rfl) (pa_cons (pv 2) pa_nil)))) (pg_unl (by rfl) (pgs_cons (pg_name (i := 3) sc_law_span_read.nd rfl (Or.inl rfl)) (pgs_cons (pg_name (i := 4) sc_law_span_read.nd rfl (Or.inl rfl)) pgs_nil)))) (pss_cons (ps_if (PW.pt (pw_or (pt_cmpR op_isN (pv 3) pe_non (nomark _)) (pw_or (pt_cmpR op_isN (pv 4) pe_non (nomark _)) (pw_or1 (pt_cmpR op_ge (pv 3) (pv 4) (nomark _)))))) (pss_one (ps_ret pe_non)) pss_nil) (pss_one (ps_ret (pe_tup (pa_cons (pv 3) (pa_cons (pv 4) pa_nil)))))))))) (so_law_span_read T.xs T.kc T.xm) rfl rfl rfl
theorem ok_law_cover_read (T : Txt K mg) (C_law_span_read : CalF P w K mg base "_law_span_read" 2 ["_law_text"] f_law_span_read) {f : Addr} {fd : FuncData} (F : FnP K "_law_cover_read" s_law_cover_read f fd) : FnOk P w K mg base (L2.CX P w) 3 f fd ["_law_text"] (spF K f_law_cover_read) :=
  fn_okG (b := e_law_cover_read) F sc_law_cover_read (t_law_cover_read K) (fun cdv A outer s H E hr =>
    (pss_cons (ps_if (pt_cmpR op_eq (pv 0) pe_str (nomark _)) (pss_one (ps_ret (pe_lst pa_nil))) pss_nil) (pss_cons (ps_setLc (i := 2) (own := [("_law_word", 1)]) rfl sc_law_cover_read.nd rfl rfl (sw_true rfl rfl rfl (by decide +kernel)) (pi_list (pe_split (pv 0) pe_str)) (blkOk_by (own := [("_law_word", 1)]) (N := N_law_cover_read) (sc := defScope s_law_cover_read) (by decide +kernel)) (fun _ _ _ _ _ => (pg_name (i := 1) sc_law_cover_read.nd rfl (Or.inl rfl))) (fun _ _ _ _ _ => pts_nil) (fun _ _ _ _ _ => (pc_own C_law_span_read (hr.mono (by decide)) (by rfl) (pa_cons (pv 1) pa_nil)))) (pss_cons (ps_if (PW.pt (pw_or (pt_cmpR (op_inD (u65 hr)) pe_non (pv 2) (by rfl)) (pw_or1 (pt_cmpR op_gt (pe_callB call_len_seq (by rfl) T.n_len bt_len (pa_cons (pv 2) pa_nil)) pe_int (nomark _))))) (pss_one (ps_ret pe_non)) pss_nil) (pss_cons (ps_for (passes_of rfl) rfl (pi_zip (by rfl) T.n_zip (pa_cons (pv 2) (pa_cons (pe_slice sl_list (pv 2) (po_some pe_int) po_none) pa_nil))) (pg_tup (by rfl) (pgs_cons (pg_name (i := 3) sc_law_cover_read.nd rfl (Or.inl rfl)) (pgs_cons (pg_name (i := 4) sc_law_cover_read.nd rfl (Or.inl rfl)) pgs_nil))) (pss_one (ps_if (pt_cmpR op_ge (pe_ix ix_tup (pv 3) pe_int (fun _ _ => rfl)) (pe_ix ix_tup (pv 4) pe_int (fun _ _ => rfl)) (nomark _)) (pss_one (ps_ret pe_non)) pss_nil))) (pss_one (ps_ret (pv 2)))))))) (so_law_cover_read T.xs T.kc T.xm) rfl rfl rfl
theorem ok_law_row_read (T : Txt K mg) (C_law_span_read : CalF P w K mg base "_law_span_read" 2 ["_law_text"] f_law_span_read) (C_law_number_read : CalF P w K mg base "_law_number_read" 1 ["_law_text"] f_law_number_read) {f : Addr} {fd : FuncData} (F : FnP K "_law_row_read" s_law_row_read f fd) : FnOk P w K mg base (L2.CX P w) 3 f fd ["_law_row"] (spF K f_law_row_read) :=
  fn_okG (b := e_law_row_read) F sc_law_row_read (t_law_row_read K) (fun cdv A outer s H E hr =>
    (pss_cons (ps_set (i := 1) sc_law_row_read.nd rfl (Or.inl rfl) (pe_split (pv 0) pe_str)) (pss_cons (ps_if (pt_cmpR op_ne (pe_callB call_len_seq (by rfl) T.n_len bt_len (pa_cons (pv 1) pa_nil)) pe_int (nomark _)) (pss_one (ps_ret pe_non)) pss_nil) (pss_cons (ps_set (i := 2) sc_law_row_read.nd rfl (Or.inr rfl) pe_str) (pss_cons (ps_if (PW.pt (pw_or (pt_not (pt_chain op_le op_le pe_int (pe_callB call_len_str (by rfl) T.n_len bt_len (pa_cons (pe_ix ix_list (pv 1) pe_int (fun _ _ => rfl)) pa_nil)) pe_int)) (pw_or1 (pt_cmpR op_gt (pe_callB call_len_seq (by rfl) T.n_len bt_len (pa_cons (pe_lc (own := [("_law_sign", 3)]) (g := (gName 3)) (tt := (tTest (tOp (rInSg true) (tVar 3) (tVar 2)))) rfl sc_law_row_read.nd (pi_str (pe_ix ix_list (pv 1) pe_int (fun _ _ => rfl))) (blkOk_by (own := [("_law_sign", 3)]) (N := N_law_row_read) (sc := defScope s_law_row_read) (by decide +kernel)) (fun _ _ _ _ _ => (pg_name (i := 3) sc_law_row_read.nd rfl (Or.inl rfl))) (fun _ _ _ _ _ => (pts_one (pt_cmpR op_notIn_sign (pv 3) (pv 2) (by rfl)))) (fun _ _ _ _ _ => (pv 3))) pa_nil)) pe_int (nomark _))))) (pss_one (ps_ret pe_non)) pss_nil) (pss_cons (ps_set (i := 4) sc_law_row_read.nd rfl (Or.inl rfl) (pc_own C_law_span_read (hr.mono (by decide)) (by rfl) (pa_cons (pe_ix ix_list (pv 1) pe_int (fun _ _ => rfl)) pa_nil))) (pss_cons (ps_set (i := 5) sc_law_row_read.nd rfl (Or.inl rfl) (pc_own C_law_number_read (hr.mono (by decide)) (by rfl) (pa_cons (pe_ix ix_list (pv 1) pe_int (fun _ _ => rfl)) pa_nil))) (pss_cons (ps_if (PW.pt (pw_or (pt_cmpR op_isN (pv 4) pe_non (nomark _)) (pw_or (pt_cmpR op_isN (pv 5) pe_non (nomark _)) (pw_or1 (pt_not (pt_chain op_le op_le pe_int (pv 5) (pe_op op_pow pe_int pe_int))))))) (pss_one (ps_ret pe_non)) pss_nil) (pss_one (ps_ret (pe_tup (pa_cons (pe_ix ix_list (pv 1) pe_int (fun _ _ => rfl)) (pa_cons (pe_tup (pa_cons (pv 4) (pa_cons (pv 5) pa_nil))) pa_nil))))))))))))) (so_law_row_read T.xs T.kc T.xm) rfl rfl rfl
theorem ok_law_shelf_read (T : Txt K mg) (C_law_row_read : CalF P w K mg base "_law_row_read" 3 ["_law_row"] f_law_row_read) {f : Addr} {fd : FuncData} (F : FnP K "_law_shelf_read" s_law_shelf_read f fd) : FnOk P w K mg base (L2.CX P w) 4 f fd ["_law_text"] (spF K f_law_shelf_read) :=
  fn_okA (b := e_law_shelf_read) F sc_law_shelf_read (t_law_shelf_read K) (fun cdv A outer s H E hr =>
    (pss_cons (ps_if (pt_cmpR op_eq (pv 0) pe_str (nomark _)) (pss_one (ps_ret pe_dnewK)) pss_nil) (pss_cons (ps_setLc (i := 2) (own := [("_law_row", 1)]) rfl sc_law_shelf_read.nd rfl rfl (sw_true rfl rfl rfl (by decide +kernel)) (pi_list (pe_split (pv 0) pe_str)) (blkOk_by (own := [("_law_row", 1)]) (N := N_law_shelf_read) (sc := defScope s_law_shelf_read) (by decide +kernel)) (fun _ _ _ _ _ => (pg_name (i := 1) sc_law_shelf_read.nd rfl (Or.inl rfl))) (fun _ _ _ _ _ => pts_nil) (fun _ _ _ _ _ => (pc_own C_law_row_read (hr.mono (by decide)) (by rfl) (pa_cons (pv 1) pa_nil)))) (pss_cons (ps_if (PW.pt (pw_or (pt_cmpR (op_inD (u65 hr)) pe_non (pv 2) (by rfl)) (pw_or1 (pt_cmpR op_gt (pe_callB call_len_seq (by rfl) T.n_len bt_len (pa_cons (pv 2) pa_nil)) pe_int (nomark _))))) (pss_one (ps_ret pe_non)) pss_nil) (pss_cons (ps_setLc (i := 3) (own := [("_law_row", 1)]) rfl sc_law_shelf_read.nd rfl rfl (sw_true rfl rfl rfl (by decide +kernel)) (pi_list (pv 2)) (blkOk_by (own := [("_law_row", 1)]) (N := N_law_shelf_read) (sc := defScope s_law_shelf_read) (by decide +kernel)) (fun _ _ _ _ _ => (pg_name (i := 1) sc_law_shelf_read.nd rfl (Or.inl rfl))) (fun _ _ _ _ _ => pts_nil) (fun _ _ _ _ _ => (pe_ix ix_tup (pv 1) pe_int (fun _ _ => rfl)))) (pss_cons (ps_if (pt_cmpR (op_neD hr.units) (pv 3) (pe_sortSetS (by rfl) T.n_sorted (by rfl) T.n_set (pv 3)) (nomark _)) (pss_one (ps_ret pe_non)) pss_nil) (pss_cons (ps_set (i := 4) sc_law_shelf_read.nd rfl (Or.inl rfl) pe_dnewK) (pss_cons (ps_for (passes_of rfl) rfl (pi_list (pv 2)) (pg_tup (by rfl) (pgs_cons (pg_name (i := 5) sc_law_shelf_read.nd rfl (Or.inl rfl)) (pgs_cons (pg_name (i := 6) sc_law_shelf_read.nd rfl (Or.inl rfl)) pgs_nil))) (pss_one (ps_dput (hu1 hr) (pv 4) (pv 5) (pv 6) rfl))) (pss_one (ps_ret (pv 4))))))))))) (so_law_shelf_read T.xs T.kc T.xm) rfl rfl rfl
theorem ok_Shelf_names (T : Txt K mg) {f : Addr} {fd : FuncData} (F : FunD K "names" "Shelf.names" (defArgs s_Shelf_names) (defBody s_Shelf_names) (defScope s_Shelf_names) [] [] f fd) : FnOk P w K mg base (L2.CX P w) 1 f fd ["self"] (spF K f_Shelf_names) :=
  fn_okG (b := e_Shelf_names) F sc_Shelf_names (t_Shelf_names K) (fun cdv A outer s H E hr =>
    (pss_one (ps_ret (pe_callB (call_sortedD rfl) (by rfl) T.n_sorted bt_sorted (pa_cons (pe_fld (pv 0) (by rfl)) pa_nil))))) (so_Shelf_names T.xs T.kc T.xm) rfl rfl rfl
theorem ok_law_class (T : Txt K mg) {f : Addr} {fd : FuncData} (F : FnP K "_law_class" s_law_class f fd) : FnOk P w K mg base (L2.CX P w) 1 f fd ["_law_caught"] (spF K f_law_class) :=
  fn_okG (b := e_law_class) F sc_law_class (t_law_class K) (fun cdv A outer s H E hr =>
    (pss_cons (ps_if (pt_cmpR op_isN (pv 0) pe_non (nomark _)) (pss_one (ps_ret pe_str)) pss_nil) (pss_cons (ps_set (i := 1) sc_law_class.nd rfl (Or.inl rfl) (pe_lst (pa_cons (pe_callB call_isA (by rfl) T.n_isinstance bt_isinstance (pa_cons (pv 0) (pa_cons (pe_glob (v := .ref (ga K "NoSpan")) (by rfl) T.g_NoSpan rfl) pa_nil))) (pa_cons (pe_callB call_isA (by rfl) T.n_isinstance bt_isinstance (pa_cons (pv 0) (pa_cons (pe_glob (v := .ref (ga K "NoPlace")) (by rfl) T.g_NoPlace rfl) pa_nil))) (pa_cons (pe_callB call_isA (by rfl) T.n_isinstance bt_isinstance (pa_cons (pv 0) (pa_cons (pe_glob (v := .ref (ga K "NoCover")) (by rfl) T.g_NoCover rfl) pa_nil))) pa_nil))))) (pss_cons (ps_set (i := 1) sc_law_class.nd rfl (Or.inl rfl) (pe_op op_cat (pv 1) (pe_lst (pa_cons (pe_callB call_isA (by rfl) T.n_isinstance bt_isinstance (pa_cons (pv 0) (pa_cons (pe_glob (v := .ref (ga K "NoWeight")) (by rfl) T.g_NoWeight rfl) pa_nil))) (pa_cons (pe_callB call_isA (by rfl) T.n_isinstance bt_isinstance (pa_cons (pv 0) (pa_cons (pe_glob (v := .ref (ga K "NoCount")) (by rfl) T.g_NoCount rfl) pa_nil))) (pa_cons (pe_callB call_isA (by rfl) T.n_isinstance bt_isinstance (pa_cons (pv 0) (pa_cons (pe_glob (v := .ref (ga K "NoName")) (by rfl) T.g_NoName rfl) pa_nil))) pa_nil)))))) (pss_cons (ps_set (i := 1) sc_law_class.nd rfl (Or.inl rfl) (pe_op op_cat (pv 1) (pe_lst (pa_cons (pe_callB call_isA (by rfl) T.n_isinstance bt_isinstance (pa_cons (pv 0) (pa_cons (pe_glob (v := .ref (ga K "Twice")) (by rfl) T.g_Twice rfl) pa_nil))) (pa_cons (pe_callB call_isA (by rfl) T.n_isinstance bt_isinstance (pa_cons (pv 0) (pa_cons (pe_glob (v := .ref (ga K "Full")) (by rfl) T.g_Full rfl) pa_nil))) (pa_cons (pe_callB call_isA (by rfl) T.n_isinstance bt_isinstance (pa_cons (pv 0) (pa_cons (pe_glob (v := .ref (ga K "Bare")) (by rfl) T.g_Bare rfl) pa_nil))) pa_nil)))))) (pss_cons (ps_set (i := 1) sc_law_class.nd rfl (Or.inl rfl) (pe_op op_cat (pv 1) (pe_lst (pa_cons (pe_callB call_isA (by rfl) T.n_isinstance bt_isinstance (pa_cons (pv 0) (pa_cons (pe_glob (v := .ref (ga K "NoDeed")) (by rfl) T.g_NoDeed rfl) pa_nil))) (pa_cons (pe_callB call_isA (by rfl) T.n_isinstance bt_isinstance (pa_cons (pv 0) (pa_cons (pe_glob (v := .ref (ga K "NoText")) (by rfl) T.g_NoText rfl) pa_nil))) (pa_cons (pe_callB call_isA (by rfl) T.n_isinstance bt_isinstance (pa_cons (pv 0) (pa_cons (pe_glob (v := .ref (ga K "NoLine")) (by rfl) T.g_NoLine rfl) pa_nil))) pa_nil)))))) (pss_cons (ps_set (i := 2) sc_law_class.nd rfl (Or.inl rfl) (pe_lst (pa_cons pe_str (pa_cons pe_str (pa_cons pe_str (pa_cons pe_str (pa_cons pe_str (pa_cons pe_str (pa_cons pe_str (pa_cons pe_str (pa_cons pe_str (pa_cons pe_str (pa_cons pe_str (pa_cons pe_str pa_nil)))))))))))))) (pss_cons (ps_setLc (i := 5) (own := [("_law_word", 3), ("_law_truth", 4)]) rfl sc_law_class.nd rfl rfl (sw_true rfl rfl rfl (by decide +kernel)) (pi_zip (by rfl) T.n_zip (pa_cons (pv 2) (pa_cons (pv 1) pa_nil))) (blkOk_by (own := [("_law_word", 3), ("_law_truth", 4)]) (N := N_law_class) (sc := defScope s_law_class) (by decide +kernel)) (fun _ _ _ _ _ => (pg_tup (by rfl) (pgs_cons (pg_name (i := 3) sc_law_class.nd rfl (Or.inl rfl)) (pgs_cons (pg_name (i := 4) sc_law_class.nd rfl (Or.inl rfl)) pgs_nil)))) (fun _ _ _ _ _ => (pts_one (pt_val (pv 4)))) (fun _ _ _ _ _ => (pv 3))) (pss_cons (ps_if (PW.pt (pw_or (pt_cmpR op_ne (pe_callB call_len_seq (by rfl) T.n_len bt_len (pa_cons (pv 5) pa_nil)) pe_int (nomark _)) (pw_or1 (pt_not (pt_val (pe_callB call_isA (by rfl) T.n_isinstance bt_isinstance (pa_cons (pv 0) (pa_cons (pe_bltn (v := .ty "ValueError") (by rfl) T.n_ValueError bt_ValueError rfl) pa_nil)))))))) (pss_one (ps_ret pe_str)) pss_nil) (pss_one (ps_ret (pe_ix ix_list (pv 5) pe_int (fun _ _ => rfl))))))))))))) (so_law_class T.xs T.kc T.xm) rfl rfl rfl
theorem ok_must (T : Txt K mg) {f : Addr} {fd : FuncData} (F : FnP K "must" s_must f fd) : FnOk P w K mg base (L2.CX P w) 1 f fd ["fine"] (spF K f_must) :=
  fn_okG (b := e_must) F sc_must (t_must K) (fun cdv A outer s H E hr =>
    (pss_one (ps_if (pt_not (pt_val (pv 0))) (pss_one (ps_raiseK T.x_NoText T.g_NoText rfl (takes_of rfl rfl rfl rfl) (by rfl))) pss_nil))) (so_must T.xs T.kc T.xm) rfl rfl rfl
theorem ok_is_number (T : Txt K mg) {f : Addr} {fd : FuncData} (F : FnP K "is_number" s_is_number f fd) : FnOk P w K mg base (L2.CX P w) 1 f fd ["text"] (spF K f_is_number) :=
  fn_okG (b := e_is_number) F sc_is_number (t_is_number K) (fun cdv A outer s H E hr =>
    (pss_cons (ps_set (i := 1) sc_is_number.nd rfl (Or.inl rfl) (pe_slice sl_str (pv 0) (po_some (pe_callTy call_int1 (by rfl) T.n_int bt_int (pa_cons (pe_cmpR op_eq (pe_slice sl_str (pv 0) po_none (po_some pe_int)) pe_str (nomark _)) pa_nil))) po_none)) (pss_cons (ps_if (PW.pt (pw_or (pt_not (pt_chain op_le op_le pe_int (pe_callB call_len_str (by rfl) T.n_len bt_len (pa_cons (pv 1) pa_nil)) (pe_const T.c_MOST_FIGURES (by rfl)))) (pw_or1 (pt_not (pt_val (pe_callB (cr_all rfl) (by rfl) T.n_all bt_all (pa_cons (pe_lc (own := [("sign", 2)]) (g := (gName 2)) (tt := tYes) rfl sc_is_number.nd (pi_str (pv 1)) (blkOk_by (own := [("sign", 2)]) (N := N_is_number) (sc := defScope s_is_number) (by decide +kernel)) (fun _ _ _ _ _ => (pg_name (i := 2) sc_is_number.nd rfl (Or.inl rfl))) (fun _ _ _ _ _ => pts_nil) (fun _ _ _ _ _ => (pe_cmpR op_in_sign (pv 2) (pe_constS T.c_FIGURES (by rfl)) (by rfl)))) pa_nil))))))) (pss_one (ps_ret pe_bl)) pss_nil) (pss_one (ps_ret (pe_or (pe_cmpR op_ne (pe_ix ix_str (pv 1) pe_int (fun _ _ => rfl)) pe_str (nomark _)) (pe_one (pe_cmpR op_eq (pv 0) pe_str (nomark _))))))))) (so_is_number T.xs T.kc T.xm) rfl rfl rfl
theorem ok_read_number (T : Txt K mg) (C_must : CalF P w K mg base "must" 1 ["fine"] f_must) (C_is_number : CalF P w K mg base "is_number" 1 ["text"] f_is_number) {f : Addr} {fd : FuncData} (F : FnP K "read_number" s_read_number f fd) : FnOk P w K mg base (L2.CX P w) 2 f fd ["text"] (spF K f_read_number) :=
  fn_okG (b := e_read_number) F sc_read_number (t_read_number K) (fun cdv A outer s H E hr =>
    (pss_cons (ps_expr (pc_ownS C_must (takes_of rfl rfl rfl rfl) (hr.mono (by decide)) (by rfl) (pa_cons (pc_own C_is_number (hr.mono (by decide)) (by rfl) (pa_cons (pv 0) pa_nil)) pa_nil))) (pss_one (ps_ret (pe_callTy call_int_str (by rfl) T.n_int bt_int (pa_cons (pv 0) pa_nil)))))) (so_read_number T.xs T.kc T.xm) rfl rfl rfl
theorem ok_is_place (T : Txt K mg) {f : Addr} {fd : FuncData} (F : FnP K "is_place" s_is_place f fd) : FnOk P w K mg base (L2.CX P w) 1 f fd ["number"] (spF K f_is_place) :=
  fn_okG (b := e_is_place) F sc_is_place (t_is_place K) (fun cdv A outer s H E hr =>
    (pss_one (ps_ret (pe_chain op_lt op_lt (pe_op op_sub pe_int (pe_const T.c_BEYOND (by rfl))) (pv 0) (pe_const T.c_BEYOND (by rfl)))))) (so_is_place T.xs T.kc T.xm) rfl rfl rfl
theorem ok_is_span (T : Txt K mg) (C_is_place : CalF P w K mg base "is_place" 1 ["number"] f_is_place) {f : Addr} {fd : FuncData} (F : FnP K "is_span" s_is_span f fd) : FnOk P w K mg base (L2.CX P w) 2 f fd ["span"] (spF K f_is_span) :=
  fn_okG (b := e_is_span) F sc_is_span (t_is_span K) (fun cdv A outer s H E hr =>
    (pss_one (ps_ret (pe_and (pc_own C_is_place (hr.mono (by decide)) (by rfl) (pa_cons (pe_ix ix_tup (pv 0) pe_int (fun _ _ => rfl)) pa_nil)) (pe_and (pc_own C_is_place (hr.mono (by decide)) (by rfl) (pa_cons (pe_ix ix_tup (pv 0) pe_int (fun _ _ => rfl)) pa_nil)) (pe_one (pe_cmpR op_lt (pe_ix ix_tup (pv 0) pe_int (fun _ _ => rfl)) (pe_ix ix_tup (pv 0) pe_int (fun _ _ => rfl)) (nomark _)))))))) (so_is_span T.xs T.kc T.xm) rfl rfl rfl
theorem ok_read_span (T : Txt K mg) (C_read_number : CalF P w K mg base "read_number" 2 ["text"] f_read_number) (C_must : CalF P w K mg base "must" 1 ["fine"] f_must) (C_is_span : CalF P w K mg base "is_span" 2 ["span"] f_is_span) {f : Addr} {fd : FuncData} (F : FnP K "read_span" s_read_span f fd) : FnOk P w K mg base (L2.CX P w) 3 f fd ["text"] (spF K f_read_span) :=
  fn_okG (b := e_read_span) F sc_read_span (t_read_span K) (fun cdv A outer s H E hr =>
    (pss_cons (ps_asg (pe_partition (pv 0) pe_str) (pg_tup (by rfl) (pgs_cons (pg_name (i := 1) sc_read_span.nd rfl (Or.inl rfl)) (pgs_cons (pg_name (i := 2) sc_read_span.nd rfl (Or.inl rfl)) (pgs_cons (pg_name (i := 3) sc_read_span.nd rfl (Or.inl rfl)) pgs_nil))))) (pss_cons (ps_set (i := 4) sc_read_span.nd rfl (Or.inl rfl) (pe_tup (pa_cons (pc_ownS C_read_number (takes_of rfl rfl rfl rfl) (hr.mono (by decide)) (by rfl) (pa_cons (pv 1) pa_nil)) (pa_cons (pc_ownS C_read_number (takes_of rfl rfl rfl rfl) (hr.mono (by decide)) (by rfl) (pa_cons (pv 3) pa_nil)) pa_nil)))) (pss_cons (ps_expr (pc_ownS C_must (takes_of rfl rfl rfl rfl) (hr.mono (by decide)) (by rfl) (pa_cons (pc_own C_is_span (hr.mono (by decide)) (by rfl) (pa_cons (pv 4) pa_nil)) pa_nil))) (pss_one (ps_ret (pv 4))))))) (so_read_span T.xs T.kc T.xm) rfl rfl rfl
theorem ok_Shelf_must_have (T : Txt K mg) {f : Addr} {fd : FuncData} (F : FunD K "must_have" "Shelf.must_have" (defArgs s_Shelf_must_have) (defBody s_Shelf_must_have) (defScope s_Shelf_must_have) [] [] f fd) : FnOk P w K mg base (L2.CX P w) 1 f fd ["self", "name"] (spF K f_Shelf_must_have) :=
  fn_okG (b := e_Shelf_must_have) F sc_Shelf_must_have (t_Shelf_must_have K) (fun cdv A outer s H E hr =>
    (pss_one (ps_if (pt_cmp (pc_dnotin (hu1 hr) (pv 1) (pe_fld (pv 0) (by rfl)))) (pss_one (ps_raiseK T.x_NoName T.g_NoName rfl (takes_of rfl rfl rfl rfl) (by rfl))) pss_nil))) (so_Shelf_must_have T.xs T.kc T.xm) rfl rfl rfl
theorem ok_Shelf_span (T : Txt K mg) (C_Shelf_must_have : CalM P w K mg base "Shelf" "must_have" 1 ["self", "name"] f_Shelf_must_have) {f : Addr} {fd : FuncData} (F : FunD K "span" "Shelf.span" (defArgs s_Shelf_span) (defBody s_Shelf_span) (defScope s_Shelf_span) [] [] f fd) : FnOk P w K mg base (L2.CX P w) 2 f fd ["self", "name"] (spF K f_Shelf_span) :=
  fn_okG (b := e_Shelf_span) F sc_Shelf_span (t_Shelf_span K) (fun cdv A outer s H E hr =>
    (pss_cons (ps_expr (pc_methS C_Shelf_must_have T.kc.c_Shelf (takes_of rfl rfl rfl rfl) (hr.mono (by decide)) (pv 0) (pa_cons (pv 1) pa_nil))) (pss_one (ps_ret (pe_ix ix_tup (pe_dget (hu1 hr) (pe_fld (pv 0) (by rfl)) (pv 1) (fun _ _ => rfl)) pe_int (fun _ _ => rfl)))))) (so_Shelf_span T.xs T.kc T.xm) rfl rfl rfl
theorem ok_Shelf_weight (T : Txt K mg) (C_Shelf_must_have : CalM P w K mg base "Shelf" "must_have" 1 ["self", "name"] f_Shelf_must_have) {f : Addr} {fd : FuncData} (F : FunD K "weight" "Shelf.weight" (defArgs s_Shelf_weight) (defBody s_Shelf_weight) (defScope s_Shelf_weight) [] [] f fd) : FnOk P w K mg base (L2.CX P w) 2 f fd ["self", "name"] (spF K f_Shelf_weight) :=
  fn_okG (b := e_Shelf_weight) F sc_Shelf_weight (t_Shelf_weight K) (fun cdv A outer s H E hr =>
    (pss_cons (ps_expr (pc_methS C_Shelf_must_have T.kc.c_Shelf (takes_of rfl rfl rfl rfl) (hr.mono (by decide)) (pv 0) (pa_cons (pv 1) pa_nil))) (pss_one (ps_ret (pe_ix ix_tup (pe_dget (hu1 hr) (pe_fld (pv 0) (by rfl)) (pv 1) (fun _ _ => rfl)) pe_int (fun _ _ => rfl)))))) (so_Shelf_weight T.xs T.kc T.xm) rfl rfl rfl
theorem okN_must_span (T : Txt K mg) (C_is_span : CalF P w K mg base "is_span" 2 ["span"] f_is_span) {f : Addr} {fd : FuncData} (F : FnP K "must_span" s_must_span f fd) : FnOk P w K mg base (L2N.CX P w) 3 f fd ["span"] (spF K f_must_span) :=
  fn_okG (b := e_must_span) F sc_must_span (t_must_span K) (fun cdv A outer s H E hr =>
    (pss_one (ps_if (pt_not (pt_val (pc_own C_is_span (hr.mono (by decide)) (by rfl) (pa_cons (pv 0) pa_nil)))) (pss_one (ps_raiseKN T.x_NoSpan T.g_NoSpan rfl (L2N.takes_of rfl rfl rfl rfl) (by rfl))) pss_nil))) (so_must_span T.xs T.kc T.xm) rfl rfl rfl
theorem ok_must_span (T : Txt K mg) (C_is_span : CalF P w K mg base "is_span" 2 ["span"] f_is_span) {f : Addr} {fd : FuncData} (F : FnP K "must_span" s_must_span f fd) : FnOk P w K mg base (L2.CX P w) 3 f fd ["span"] (spF K f_must_span) :=
  fn_okG (b := e_must_span) F sc_must_span (t_must_span K) (fun cdv A outer s H E hr =>
    (pss_one (ps_if (pt_not (pt_val (pc_own C_is_span (hr.mono (by decide)) (by rfl) (pa_cons (pv 0) pa_nil)))) (pss_one (ps_raiseK T.x_NoSpan T.g_NoSpan rfl (takes_of rfl rfl rfl rfl) (by rfl))) pss_nil))) (so_must_span T.xs T.kc T.xm) rfl rfl rfl
theorem okN_must_spans (T : Txt K mg) (C_must_span : CalF P w K mg base "must_span" 3 ["span"] f_must_span) (CN_must_span : CalN P w K mg base "must_span" 3 ["span"] f_must_span) {f : Addr} {fd : FuncData} (F : FnP K "must_spans" s_must_spans f fd) : FnOk P w K mg base (L2N.CX P w) 4 f fd ["spans"] (spF K f_must_spans) :=
  fn_okG (b := e_must_spans) F sc_must_spans (t_must_spans K) (fun cdv A outer s H E hr =>
    (pss_one (ps_for (passes_of rfl) rfl (pi_list (pv 0)) (pg_name (i := 1) sc_must_spans.nd rfl (Or.inl rfl)) (pss_one (ps_expr (pc_ownN CN_must_span (L2N.takes_of rfl rfl rfl rfl) (hr.mono (by decide)) (by rfl) (pa_cons (pv 1) pa_nil))))))) (so_must_spans T.xs T.kc T.xm) rfl rfl rfl
theorem ok_must_spans (T : Txt K mg) (C_must_span : CalF P w K mg base "must_span" 3 ["span"] f_must_span) {f : Addr} {fd : FuncData} (F : FnP K "must_spans" s_must_spans f fd) : FnOk P w K mg base (L2.CX P w) 4 f fd ["spans"] (spF K f_must_spans) :=
  fn_okG (b := e_must_spans) F sc_must_spans (t_must_spans K) (fun cdv A outer s H E hr =>
    (pss_one (ps_for (passes_of rfl) rfl (pi_list (pv 0)) (pg_name (i := 1) sc_must_spans.nd rfl (Or.inl rfl)) (pss_one (ps_expr (pc_ownS C_must_span (takes_of rfl rfl rfl rfl) (hr.mono (by decide)) (by rfl) (pa_cons (pv 1) pa_nil))))))) (so_must_spans T.xs T.kc T.xm) rfl rfl rfl
theorem okN_must_cover (T : Txt K mg) (C_must_spans : CalF P w K mg base "must_spans" 4 ["spans"] f_must_spans) (CN_must_spans : CalN P w K mg base "must_spans" 4 ["spans"] f_must_spans) {f : Addr} {fd : FuncData} (F : FnP K "must_cover" s_must_cover f fd) : FnOk P w K mg base (L2N.CX P w) 5 f fd ["cover"] (spF K f_must_cover) :=
  fn_okG (b := e_must_cover) F sc_must_cover (t_must_cover K) (fun cdv A outer s H E hr =>
    (pss_cons (ps_expr (pc_ownN CN_must_spans (L2N.takes_of rfl rfl rfl rfl) (hr.mono (by decide)) (by rfl) (pa_cons (pv 0) pa_nil))) (pss_cons (ps_if (pt_cmpR op_gt (pe_callB call_len_seq (by rfl) T.n_len bt_len (pa_cons (pv 0) pa_nil)) (pe_const T.c_MOST_SPANS_covers (by rfl)) (nomark _)) (pss_one (ps_raiseKN T.x_NoCover T.g_NoCover rfl (L2N.takes_of rfl rfl rfl rfl) (by rfl))) pss_nil) (pss_one (ps_for (passes_of rfl) rfl (pi_zip (by rfl) T.n_zip (pa_cons (pv 0) (pa_cons (pe_slice sl_list (pv 0) (po_some pe_int) po_none) pa_nil))) (pg_tup (by rfl) (pgs_cons (pg_name (i := 1) sc_must_cover.nd rfl (Or.inl rfl)) (pgs_cons (pg_name (i := 2) sc_must_cover.nd rfl (Or.inl rfl)) pgs_nil))) (pss_one (ps_if (pt_cmpR op_le (pe_ix ix_tup (pv 2) pe_int (fun _ _ => rfl)) (pe_ix ix_tup (pv 1) pe_int (fun _ _ => rfl)) (nomark _)) (pss_one (ps_raiseKN T.x_NoCover T.g_NoCover rfl (L2N.takes_of rfl rfl rfl rfl) (by rfl))) pss_nil))))))) (so_must_cover T.xs T.kc T.xm) rfl rfl rfl
theorem ok_must_cover (T : Txt K mg) (C_must_spans : CalF P w K mg base "must_spans" 4 ["spans"] f_must_spans) {f : Addr} {fd : FuncData} (F : FnP K "must_cover" s_must_cover f fd) : FnOk P w K mg base (L2.CX P w) 5 f fd ["cover"] (spF K f_must_cover) :=
  fn_okG (b := e_must_cover) F sc_must_cover (t_must_cover K) (fun cdv A outer s H E hr =>
    (pss_cons (ps_expr (pc_ownS C_must_spans (takes_of rfl rfl rfl rfl) (hr.mono (by decide)) (by rfl) (pa_cons (pv 0) pa_nil))) (pss_cons (ps_if (pt_cmpR op_gt (pe_callB call_len_seq (by rfl) T.n_len bt_len (pa_cons (pv 0) pa_nil)) (pe_const T.c_MOST_SPANS_covers (by rfl)) (nomark _)) (pss_one (ps_raiseK T.x_NoCover T.g_NoCover rfl (takes_of rfl rfl rfl rfl) (by rfl))) pss_nil) (pss_one (ps_for (passes_of rfl) rfl (pi_zip (by rfl) T.n_zip (pa_cons (pv 0) (pa_cons (pe_slice sl_list (pv 0) (po_some pe_int) po_none) pa_nil))) (pg_tup (by rfl) (pgs_cons (pg_name (i := 1) sc_must_cover.nd rfl (Or.inl rfl)) (pgs_cons (pg_name (i := 2) sc_must_cover.nd rfl (Or.inl rfl)) pgs_nil))) (pss_one (ps_if (pt_cmpR op_le (pe_ix ix_tup (pv 2) pe_int (fun _ _ => rfl)) (pe_ix ix_tup (pv 1) pe_int (fun _ _ => rfl)) (nomark _)) (pss_one (ps_raiseK T.x_NoCover T.g_NoCover rfl (takes_of rfl rfl rfl rfl) (by rfl))) pss_nil))))))) (so_must_cover T.xs T.kc T.xm) rfl rfl rfl
theorem ok_read_cover (T : Txt K mg) (C_read_span : CalF P w K mg base "read_span" 3 ["text"] f_read_span) (C_must_cover : CalF P w K mg base "must_cover" 5 ["cover"] f_must_cover) (CN_must_cover : CalN P w K mg base "must_cover" 5 ["cover"] f_must_cover) {f : Addr} {fd : FuncData} (F : FnP K "read_cover" s_read_cover f fd) : FnOk P w K mg base (L2.CX P w) 6 f fd ["text"] (spF K f_read_cover_2) :=
  fn_okG (b := e_read_cover_2) F sc_read_cover (t_read_cover K) (fun cdv A outer s H E hr =>
    (pss_cons (ps_if (pt_cmpR op_eq (pv 0) pe_str (nomark _)) (pss_one (ps_ret (pe_lst pa_nil))) pss_nil) (pss_cons (ps_setLcX (i := 2) (own := [("word", 1)]) rfl sc_read_cover.nd rfl rfl (sw_true rfl rfl rfl (by decide +kernel)) rfl rfl (takes_of rfl rfl rfl rfl) (pi_list (pe_split (pv 0) pe_str)) (blkOk_by (own := [("word", 1)]) (N := N_read_cover) (sc := defScope s_read_cover) (by decide +kernel)) (fun _ _ _ _ _ => (pg_name (i := 1) sc_read_cover.nd rfl (Or.inl rfl))) (fun _ _ _ _ _ => pts_nil) (fun _ _ _ _ _ xe V pa => (pc_ownP C_read_span pa (hr.mono (by decide)) (by rfl) (pa_cons (pv 1) pa_nil)))) (pss_cons (L2H.ps_try_onlyX (c := .ref (ga K "NoCover")) (tb := fun W => (tDrop (tCallS (spF K f_must_cover) (WE W) (tCons (tVar 2) tNil)))) (ts := fun _ _ _ => (tRaise (fun cls d _ H' => E cls d H') (.ref (ga K "NoText")))) (Wout := fun cls d _ H' => E cls d H') rfl rfl ⟨rfl, by decide, .inl T.g_NoCover⟩ (L2H.passesAt_of rfl) (takes_of rfl rfl rfl rfl) (fun W pn xe tk _ po => (pss_one (ps_expr (pc_ownN CN_must_cover tk (hr.mono (by decide)) (by rfl) (pa_cons (pv 2) pa_nil))))) (fun a oe cls d pn _ _ tk hot => (pss_one (ps_raiseKH T.x_NoText T.g_NoText hot tk (by rfl))))) (pss_one (ps_ret (pv 2))))))) (so_read_cover T.xs T.kc T.xm) rfl rfl rfl
theorem ok_Shelf___init__ (T : Txt K mg) {f : Addr} {fd : FuncData} (F : FunD K "__init__" "Shelf.__init__" (defArgs s_Shelf___init__) (defBody s_Shelf___init__) (defScope s_Shelf___init__) [] [] f fd) : FnOk P w K mg base (L2.CX P w) 1 f fd ["self"] (spF K f_Shelf___init__) :=
  fn_okA (b := e_Shelf___init__) F sc_Shelf___init__ (t_Shelf___init__ K) (fun cdv A outer s H E hr =>
    (pss_cons (ps_fld (pv 0) pe_dnewK rfl) (pss_cons (ps_fld (pv 0) (pe_lst pa_nil) rfl) (pss_one (ps_fld (pv 0) (pe_lst pa_nil) rfl))))) (so_Shelf___init__ T.xs T.kc T.xm) rfl rfl rfl
theorem ok_is_name (T : Txt K mg) {f : Addr} {fd : FuncData} (F : FnP K "is_name" s_is_name f fd) : FnOk P w K mg base (L2.CX P w) 1 f fd ["text"] (spF K f_is_name) :=
  fn_okG (b := e_is_name) F sc_is_name (t_is_name K) (fun cdv A outer s H E hr =>
    (pss_one (ps_ret (pe_and (pe_chain op_le op_le pe_int (pe_callB call_len_str (by rfl) T.n_len bt_len (pa_cons (pv 0) pa_nil)) (pe_const T.c_MOST_LETTERS (by rfl))) (pe_one (pe_callB (cr_all rfl) (by rfl) T.n_all bt_all (pa_cons (pe_lc (own := [("sign", 1)]) (g := (gName 1)) (tt := tYes) rfl sc_is_name.nd (pi_str (pv 0)) (blkOk_by (own := [("sign", 1)]) (N := N_is_name) (sc := defScope s_is_name) (by decide +kernel)) (fun _ _ _ _ _ => (pg_name (i := 1) sc_is_name.nd rfl (Or.inl rfl))) (fun _ _ _ _ _ => pts_nil) (fun _ _ _ _ _ => (pe_cmpR op_in_sign (pv 1) (pe_constS T.c_LETTERS (by rfl)) (by rfl)))) pa_nil))))))) (so_is_name T.xs T.kc T.xm) rfl rfl rfl
theorem ok_read_shelf (T : Txt K mg) (C_Shelf___init__ : CalI P w K mg base "Shelf" 1 ["self"] f_Shelf___init__) (C_must : CalF P w K mg base "must" 1 ["fine"] f_must) (C_is_name : CalF P w K mg base "is_name" 1 ["text"] f_is_name) (C_read_number : CalF P w K mg base "read_number" 2 ["text"] f_read_number) (C_read_span : CalF P w K mg base "read_span" 3 ["text"] f_read_span) {f : Addr} {fd : FuncData} (F : FnP K "read_shelf" s_read_shelf f fd) : FnOk P w K mg base (L2.CX P w) 4 f fd ["text"] (spF K f_read_shelf) :=
  fn_okA (b := e_read_shelf) F sc_read_shelf (t_read_shelf K) (fun cdv A outer s H E hr =>
    (pss_cons (ps_set (i := 1) sc_read_shelf.nd rfl (Or.inl rfl) (pc_make0 C_Shelf___init__ (hr.mono (by decide)) (by rfl))) (pss_cons (ps_set (i := 2) sc_read_shelf.nd rfl (Or.inl rfl) pe_str) (pss_cons (ps_for (passes_of rfl) rfl (pi_list (pe_slice sl_list (pe_split (pv 0) pe_str) (po_some (pe_callTy call_int1 (by rfl) T.n_int bt_int (pa_cons (pe_cmpR op_eq (pv 0) pe_str (nomark _)) pa_nil))) po_none)) (pg_name (i := 3) sc_read_shelf.nd rfl (Or.inl rfl)) (pss_cons (ps_set (i := 4) sc_read_shelf.nd rfl (Or.inl rfl) (pe_split (pv 3) pe_str)) (pss_cons (ps_expr (pc_ownS C_must (takes_of rfl rfl rfl rfl) (hr.mono (by decide)) (by rfl) (pa_cons (pe_and (pe_cmpR op_eq (pe_callB call_len_seq (by rfl) T.n_len bt_len (pa_cons (pv 4) pa_nil)) pe_int (nomark _)) (pe_and (pc_own C_is_name (hr.mono (by decide)) (by rfl) (pa_cons (pe_ix ix_list (pv 4) pe_int (fun _ _ => rfl)) pa_nil)) (pe_one (pe_cmpR op_gt_str (pe_ix ix_list (pv 4) pe_int (fun _ _ => rfl)) (pv 2) (nomark _))))) pa_nil))) (pss_cons (ps_set (i := 2) sc_read_shelf.nd rfl (Or.inl rfl) (pe_ix ix_list (pv 4) pe_int (fun _ _ => rfl))) (pss_cons (ps_set (i := 5) sc_read_shelf.nd rfl (Or.inl rfl) (pc_ownS C_read_number (takes_of rfl rfl rfl rfl) (hr.mono (by decide)) (by rfl) (pa_cons (pe_ix ix_list (pv 4) pe_int (fun _ _ => rfl)) pa_nil))) (pss_cons (ps_expr (pc_ownS C_must (takes_of rfl rfl rfl rfl) (hr.mono (by decide)) (by rfl) (pa_cons (pe_chain op_le op_le pe_int (pv 5) (pe_const T.c_MOST_WEIGHT (by rfl))) pa_nil))) (pss_cons (ps_dput (hu1 hr) (pe_fld (pv 1) (by rfl)) (pv 2) (pe_tup (pa_cons (pc_ownS C_read_span (takes_of rfl rfl rfl rfl) (hr.mono (by decide)) (by rfl) (pa_cons (pe_ix ix_list (pv 4) pe_int (fun _ _ => rfl)) pa_nil)) (pa_cons (pv 5) pa_nil))) rfl) (pss_one (ps_expr (pc_ownS C_must (takes_of rfl rfl rfl rfl) (hr.mono (by decide)) (by rfl) (pa_cons (pe_cmpR op_le (pe_callB call_lenR (by rfl) T.n_len bt_len (pa_cons (pe_fld (pv 1) (by rfl)) pa_nil)) (pe_const T.c_MOST_SPANS_shelf (by rfl)) (nomark _)) pa_nil))))))))))) (pss_one (ps_ret (pv 1))))))) (so_read_shelf T.xs T.kc T.xm) rfl rfl rfl
theorem ok_law_asked (T : Txt K mg) (C_read_span : CalF P w K mg base "read_span" 3 ["text"] f_read_span) (C_read_cover : CalF P w K mg base "read_cover" 6 ["text"] f_read_cover_2) (C_read_shelf : CalF P w K mg base "read_shelf" 4 ["text"] f_read_shelf) (C_law_class : CalF P w K mg base "_law_class" 1 ["_law_caught"] f_law_class) (C_Shelf_names : CalM P w K mg base "Shelf" "names" 1 ["self"] f_Shelf_names) (C_Shelf_span : CalM P w K mg base "Shelf" "span" 2 ["self", "name"] f_Shelf_span) (C_Shelf_weight : CalM P w K mg base "Shelf" "weight" 2 ["self", "name"] f_Shelf_weight) {f : Addr} {fd : FuncData} (F : FnP K "_law_asked" s_law_asked f fd) : FnOk P w K mg base (L2.CX P w) 7 f fd ["_law_text", "_law_way"] (spF K f_law_asked_8) :=
  fn_okA (b := e_law_asked_8) F sc_law_asked (t_law_asked K) (fun cdv A outer s H E hr =>
    (pss_cons (ps_set (i := 2) sc_law_asked.nd rfl (Or.inl rfl) pe_non) (pss_cons (ps_set (i := 3) sc_law_asked.nd rfl (Or.inl rfl) pe_non) (pss_cons (ps_try_keep (i := 4) (j := 2) (c := .ref (ga K "ShelfError")) (tb := fun W => (tIfS (tTest (tOp rEq (tVar 1) (tC (.int 0)))) (tAsg (tCallS (spF K f_read_span) (WE W) (tCons (tVar 0) tNil)) (gName 3)) (tIfS (tTest (tOp rEq (tVar 1) (tC (.int 1)))) (tAsg (tCallS (spF K f_read_cover_2) (WE W) (tCons (tVar 0) tNil)) (gName 3)) (tAsg (tCallS (spF K f_read_shelf) (WE W) (tCons (tVar 0) tNil)) (gName 3))))) rfl rfl rfl sc_law_asked.nd rfl rfl ⟨rfl, by decide, .inl T.g_ShelfError⟩ (fun W pn xe tk po => (pss_one (ps_if (pt_cmpR op_eq (pv 1) pe_int (nomark _)) (pss_one (ps_set (i := 3) sc_law_asked.nd rfl (Or.inl rfl) (pc_ownS C_read_span tk (hr.mono (by decide)) (by rfl) (pa_cons (pv 0) pa_nil)))) (pss_one (ps_if (pt_cmpR op_eq (pv 1) pe_int (nomark _)) (pss_one (ps_set (i := 3) sc_law_asked.nd rfl (Or.inl rfl) (pc_ownS C_read_cover tk (hr.mono (by decide)) (by rfl) (pa_cons (pv 0) pa_nil)))) (pss_one (ps_set (i := 3) sc_law_asked.nd rfl (Or.inl rfl) (pc_ownS C_read_shelf tk (hr.mono (by decide)) (by rfl) (pa_cons (pv 0) pa_nil))))))))) (fun a oe pn => pss_one (ps_set (i := 2) sc_law_asked.nd rfl (Or.inl rfl) (pv 4)))) (pss_cons (ps_if (pt_cmpR op_notN (pv 2) pe_non (nomark _)) (pss_one (ps_ret (pc_own C_law_class (hr.mono (by decide)) (by rfl) (pa_cons (pv 2) pa_nil)))) pss_nil) (pss_cons (ps_if (pt_cmpR op_lt (pv 1) pe_int (nomark _)) (pss_one (ps_ret (pv 3))) pss_nil) (pss_cons (ps_set (i := 5) sc_law_asked.nd rfl (Or.inl rfl) pe_dnewK) (pss_cons (ps_for (passes_of rfl) rfl (pi_list (pc_meth0 C_Shelf_names T.kc.c_Shelf (hr.mono (by decide)) (pv 3))) (pg_name (i := 6) sc_law_asked.nd rfl (Or.inl rfl)) (pss_one (ps_dput (hu1 hr) (pv 5) (pv 6) (pe_tup (pa_cons (pc_methS C_Shelf_span T.kc.c_Shelf (takes_of rfl rfl rfl rfl) (hr.mono (by decide)) (pv 3) (pa_cons (pv 6) pa_nil)) (pa_cons (pc_methS C_Shelf_weight T.kc.c_Shelf (takes_of rfl rfl rfl rfl) (hr.mono (by decide)) (pv 3) (pa_cons (pv 6) pa_nil)) pa_nil))) rfl))) (pss_one (ps_ret (pv 5))))))))))) (so_law_asked T.xs T.kc T.xm) rfl rfl rfl
theorem ok_law_right (T : Txt K mg) (C_law_span_read : CalF P w K mg base "_law_span_read" 2 ["_law_text"] f_law_span_read) (C_law_cover_read : CalF P w K mg base "_law_cover_read" 3 ["_law_text"] f_law_cover_read) (C_law_shelf_read : CalF P w K mg base "_law_shelf_read" 4 ["_law_text"] f_law_shelf_read) (C_law_asked : CalF P w K mg base "_law_asked" 7 ["_law_text", "_law_way"] f_law_asked_8) {f : Addr} {fd : FuncData} (F : FnP K "_law_right" s_law_right f fd) : FnOk P w K mg base (L2.CX P w) 8 f fd ["_law_text"] (spF K f_law_right_14) :=
  fn_okG (b := e_law_right_14) F sc_law_right (t_law_right K) (fun cdv A outer s H E hr =>
    (pss_cons (ps_for (passes_of rfl) rfl (pi_list (pe_lst (pa_cons (pe_tup (pa_cons pe_int (pa_cons (pc_own C_law_span_read (hr.mono (by decide)) (by rfl) (pa_cons (pv 0) pa_nil)) pa_nil))) (pa_cons (pe_tup (pa_cons pe_int (pa_cons (pc_own C_law_cover_read (hr.mono (by decide)) (by rfl) (pa_cons (pv 0) pa_nil)) pa_nil))) (pa_cons (pe_tup (pa_cons pe_int (pa_cons (pc_own C_law_shelf_read (hr.mono (by decide)) (by rfl) (pa_cons (pv 0) pa_nil)) pa_nil))) pa_nil))))) (pg_tup (by rfl) (pgs_cons (pg_name (i := 1) sc_law_right.nd rfl (Or.inl rfl)) (pgs_cons (pg_name (i := 2) sc_law_right.nd rfl (Or.inl rfl)) pgs_nil))) (pss_cons (ps_if (pt_cmpR op_isN (pv 2) pe_non (nomark _)) (pss_one (ps_set (i := 2) sc_law_right.nd rfl (Or.inl rfl) pe_str)) pss_nil) (pss_one (ps_if (pt_cmpR (op_neX hr.units) (pc_ownS C_law_asked (takes_of rfl rfl rfl rfl) (hr.mono (by decide)) (by rfl) (pa_cons (pv 0) (pa_cons (pv 1) pa_nil))) (pv 2) (nomark _)) (pss_one (ps_ret pe_bl)) pss_nil)))) (pss_one (ps_ret pe_bl)))) (so_law_right T.xs T.kc T.xm) rfl rfl rfl
theorem ok_law_spoilt (T : Txt K mg) (C_law_draw : CalF P w K mg base "_law_draw" 2 ["_law_purse_here", "_law_out_of"] f_law_draw) {f : Addr} {fd : FuncData} (F : FnP K "_law_spoilt" s_law_spoilt f fd) : FnOk P w K mg base (L2.CX P w) 3 f fd ["_law_purse_here", "_law_text"] (spF K f_law_spoilt_2) :=
  fn_okG (b := e_law_spoilt_2) F sc_law_spoilt (t_law_spoilt K) (fun cdv A outer s H E hr =>
    (pss_cons (ps_set (i := 2) sc_law_spoilt.nd rfl (Or.inl rfl) (pc_own C_law_draw (hr.mono (by decide)) (by rfl) (pa_cons (pv 0) (pa_cons pe_int pa_nil)))) (pss_cons (ps_set (i := 3) sc_law_spoilt.nd rfl (Or.inl rfl) (pc_own C_law_draw (hr.mono (by decide)) (by rfl) (pa_cons (pv 0) (pa_cons (pe_op op_add (pe_callB call_len_str (by rfl) T.n_len bt_len (pa_cons (pv 1) pa_nil)) pe_int) pa_nil)))) (pss_cons (ps_set (i := 4) sc_law_spoilt.nd rfl (Or.inl rfl) (pe_split (pv 1) pe_str)) (pss_cons (ps_set (i := 5) sc_law_spoilt.nd rfl (Or.inl rfl) (pc_own C_law_draw (hr.mono (by decide)) (by rfl) (pa_cons (pv 0) (pa_cons (pe_callB call_len_seq (by rfl) T.n_len bt_len (pa_cons (pv 4) pa_nil)) pa_nil)))) (pss_cons (ps_set (i := 6) sc_law_spoilt.nd rfl (Or.inl rfl) (pe_op op_add_str pe_str pe_str)) (pss_cons (ps_if (pt_cmpR op_eq (pc_own C_law_draw (hr.mono (by decide)) (by rfl) (pa_cons (pv 0) (pa_cons pe_int pa_nil))) pe_int (nomark _)) (pss_one (ps_set (i := 6) sc_law_spoilt.nd rfl (Or.inl rfl) pe_str)) pss_nil) (pss_cons (ps_set (i := 7) sc_law_spoilt.nd rfl (Or.inl rfl) (pe_ix ix_str (pv 6) (pc_own C_law_draw (hr.mono (by decide)) (by rfl) (pa_cons (pv 0) (pa_cons (pe_callB call_len_str (by rfl) T.n_len bt_len (pa_cons (pv 6) pa_nil)) pa_nil))) (fun _ _ => rfl))) (pss_cons (ps_set (i := 8) sc_law_spoilt.nd rfl (Or.inl rfl) (pe_lst (pa_cons pe_str (pa_cons pe_str (pa_cons pe_str (pa_cons pe_str (pa_cons pe_str (pa_cons pe_str (pa_cons pe_str (pa_cons pe_str (pa_cons pe_str (pa_cons pe_str (pa_cons pe_str (pa_cons pe_str pa_nil)))))))))))))) (pss_cons (ps_set (i := 8) sc_law_spoilt.nd rfl (Or.inl rfl) (pe_op op_cat (pv 8) (pe_lst (pa_cons pe_str (pa_cons pe_str pa_nil))))) (pss_cons (ps_set (i := 8) sc_law_spoilt.nd rfl (Or.inl rfl) (pe_op op_cat (pv 8) (pe_lst (pa_cons pe_str (pa_cons pe_str (pa_cons pe_str (pa_cons pe_str (pa_cons pe_str (pa_cons pe_str (pa_cons pe_str pa_nil)))))))))) (pss_cons (ps_if (pt_cmpR op_eq (pv 2) pe_int (nomark _)) (pss_one (ps_ret (pe_op op_add_str (pe_slice sl_str (pv 1) po_none (po_some (pv 3))) (pe_slice sl_str (pv 1) (po_some (pe_op op_add (pv 3) pe_int)) po_none)))) pss_nil) (pss_cons (ps_if (pt_cmpR op_lt (pv 2) pe_int (nomark _)) (pss_one (ps_ret (pe_op op_add_str (pe_op op_add_str (pe_slice sl_str (pv 1) po_none (po_some (pv 3))) (pv 7)) (pe_slice sl_str (pv 1) (po_some (pv 3)) po_none)))) pss_nil) (pss_cons (ps_if (pt_cmpR op_eq (pv 2) pe_int (nomark _)) (pss_one (ps_ret (pe_op op_add_str (pe_op op_add_str (pe_slice sl_str (pv 1) po_none (po_some (pv 3))) (pv 7)) (pe_slice sl_str (pv 1) (po_some (pe_op op_add (pv 3) pe_int)) po_none)))) pss_nil) (pss_cons (ps_if (pt_cmpR op_eq (pv 2) pe_int (nomark _)) (pss_one (ps_ret (pe_join pe_str (pe_op op_cat (pe_op op_cat (pe_slice sl_list (pv 4) po_none (po_some (pv 5))) (pe_lst (pa_cons (pe_ix ix_list (pv 8) (pc_own C_law_draw (hr.mono (by decide)) (by rfl) (pa_cons (pv 0) (pa_cons (pe_callB call_len_seq (by rfl) T.n_len bt_len (pa_cons (pv 8) pa_nil)) pa_nil))) (fun _ _ => rfl)) pa_nil))) (pe_slice sl_list (pv 4) (po_some (pe_op op_add (pv 5) pe_int)) po_none))))) pss_nil) (pss_cons (ps_if (pt_cmpR op_eq (pv 2) pe_int (nomark _)) (pss_one (ps_ret (pe_join pe_str (pe_op op_cat (pe_op op_cat (pe_slice sl_list (pv 4) po_none (po_some (pv 5))) (pe_lst (pa_cons (pe_ix ix_list (pv 4) (pv 5) (fun _ _ => rfl)) pa_nil))) (pe_slice sl_list (pv 4) (po_some (pv 5)) po_none))))) pss_nil) (pss_cons (ps_if (pt_cmpR op_eq (pv 2) pe_int (nomark _)) (pss_one (ps_ret (pe_join pe_str (pe_revL (pe_split (pv 1) pe_str))))) pss_nil) (pss_one (ps_ret (pe_op op_add_str (pe_op op_add_str (pv 1) (pe_ix ix_list (pe_lst (pa_cons pe_str (pa_cons pe_str pa_nil))) (pe_op op_mod (pv 3) pe_int) (fun _ _ => rfl))) (pv 1))))))))))))))))))))) (so_law_spoilt T.xs T.kc T.xm) rfl rfl rfl
theorem ok_law_span (T : Txt K mg) (C_law_end : CalF P w K mg base "_law_end" 4 ["_law_purse_here", "_law_ends", "_law_most"] f_law_end) {f : Addr} {fd : FuncData} (F : FnP K "_law_span" s_law_span f fd) : FnOk P w K mg base (L2.CX P w) 5 f fd ["_law_purse_here", "_law_ends", "_law_most"] (spF K f_law_span) :=
  fn_okG (b := e_law_span) F sc_law_span (t_law_span K) (fun cdv A outer s H E hr =>
    (pss_cons (ps_set (i := 3) sc_law_span.nd rfl (Or.inl rfl) (pc_own C_law_end (hr.mono (by decide)) (by rfl) (pa_cons (pv 0) (pa_cons (pv 1) (pa_cons (pv 2) pa_nil))))) (pss_cons (ps_set (i := 4) sc_law_span.nd rfl (Or.inl rfl) (pc_own C_law_end (hr.mono (by decide)) (by rfl) (pa_cons (pv 0) (pa_cons (pe_op op_cat (pv 1) (pe_lst (pa_cons (pv 3) pa_nil))) (pa_cons (pv 2) pa_nil))))) (pss_cons (ps_set (i := 5) sc_law_span.nd rfl (Or.inl rfl) (pe_callB (call_min3Nu rfl) (by rfl) T.n_min bt_min (pa_cons (pv 3) (pa_cons (pv 4) (pa_cons (pe_op op_sub (pv 2) pe_int) pa_nil))))) (pss_cons (ps_set (i := 6) sc_law_span.nd rfl (Or.inl rfl) (pe_callB (call_max3Nu rfl) (by rfl) T.n_max bt_max (pa_cons (pv 3) (pa_cons (pv 4) (pa_cons (pe_op op_add (pv 5) pe_int) pa_nil))))) (pss_cons (ps_expr (pe_bm PySem.F.plainAttrs_list PySem.F.slot_list_append PySem.F.type_list_append mt_append (pv 1) (pa_cons (pv 5) pa_nil))) (pss_cons (ps_expr (pe_bm PySem.F.plainAttrs_list PySem.F.slot_list_append PySem.F.type_list_append mt_append (pv 1) (pa_cons (pv 6) pa_nil))) (pss_one (ps_ret (pe_tup (pa_cons (pv 5) (pa_cons (pv 6) pa_nil)))))))))))) (so_law_span T.xs T.kc T.xm) rfl rfl rfl
theorem ok_law (T : Txt K mg) (C_law_names : CalF P w K mg base "_law_names" 3 ["_law_purse_here", "_law_many"] f_law_names) (C_law_purse : CalF P w K mg base "_law_purse" 2 ["_law_script", "_law_at_here"] f_law_purse) (C_law_draw : CalF P w K mg base "_law_draw" 2 ["_law_purse_here", "_law_out_of"] f_law_draw) (C_law_span : CalF P w K mg base "_law_span" 5 ["_law_purse_here", "_law_ends", "_law_most"] f_law_span) (C_law_cover : CalF P w K mg base "_law_cover" 5 ["_law_purse_here", "_law_many"] f_law_cover_4) (C_law_shelf_text : CalF P w K mg base "_law_shelf_text" 2 ["_law_kept"] f_law_shelf_text) (C_law_span_text : CalF P w K mg base "_law_span_text" 1 ["_law_span_here"] f_law_span_text) (C_law_right : CalF P w K mg base "_law_right" 8 ["_law_text"] f_law_right_14) (C_law_spoilt : CalF P w K mg base "_law_spoilt" 3 ["_law_purse_here", "_law_text"] f_law_spoilt_2) {f : Addr} {fd : FuncData} (F : FnP K "law" s_law f fd) : FnOk P w K mg base CX0 9 f fd ["_law_script"] (spF K f_law_k79) :=
  fn_okG (b := e_law_k79) F sc_law (t_law K) (fun cdv A outer s H E hr =>
    (pss_cons (ps_set (i := 1) sc_law.nd rfl (Or.inl rfl) (pc_own C_law_names (hr.mono (by decide)) (by rfl) (pa_cons (pc_own C_law_purse (hr.mono (by decide)) (by rfl) (pa_cons (pv 0) (pa_cons pe_int pa_nil))) (pa_cons pe_int pa_nil)))) (pss_cons (ps_for (passes_of rfl) rfl (pi_range2 (by rfl) T.n_range (pa_cons pe_int (pa_cons pe_int pa_nil))) (pg_name (i := 2) sc_law.nd rfl (Or.inl rfl)) (pss_cons (ps_set (i := 3) sc_law.nd rfl (Or.inl rfl) (pc_own C_law_purse (hr.mono (by decide)) (by rfl) (pa_cons (pv 0) (pa_cons (pv 2) pa_nil)))) (pss_cons (ps_set (i := 4) sc_law.nd rfl (Or.inl rfl) pe_dnewK) (pss_cons (ps_for (passes_of rfl) rfl (pi_list (pe_slice sl_list (pv 1) po_none (po_some (pc_own C_law_draw (hr.mono (by decide)) (by rfl) (pa_cons (pv 3) (pa_cons pe_int pa_nil)))))) (pg_name (i := 5) sc_law.nd rfl (Or.inl rfl)) (pss_one (ps_dput (hu1 hr) (pv 4) (pv 5) (pe_tup (pa_cons (pc_own C_law_span (hr.mono (by decide)) (by rfl) (pa_cons (pv 3) (pa_cons (pe_lst pa_nil) (pa_cons (pe_ix ix_list (pe_lst (pa_cons pe_int (pa_cons (pe_op op_sub (pe_op op_pow pe_int pe_int) pe_int) pa_nil))) (pc_own C_law_draw (hr.mono (by decide)) (by rfl) (pa_cons (pv 3) (pa_cons pe_int pa_nil))) (fun _ _ => rfl)) pa_nil)))) (pa_cons (pc_own C_law_draw (hr.mono (by decide)) (by rfl) (pa_cons (pv 3) (pa_cons (pe_op op_add (pe_op op_pow pe_int pe_int) pe_int) pa_nil))) pa_nil))) rfl))) (pss_cons (ps_set (i := 6) sc_law.nd rfl (Or.inl rfl) (pc_own C_law_cover (hr.mono (by decide)) (by rfl) (pa_cons (pv 3) (pa_cons (pc_own C_law_draw (hr.mono (by decide)) (by rfl) (pa_cons (pv 3) (pa_cons pe_int pa_nil))) pa_nil)))) (pss_cons (ps_set (i := 8) sc_law.nd rfl (Or.inl rfl) (pe_lst (pa_cons (pc_own C_law_shelf_text (hr.mono (by decide)) (by rfl) (pa_cons (pv 4) pa_nil)) (pa_cons (pe_join pe_str (pe_lc (own := [("_law_span_here", 7)]) (g := (gName 7)) (tt := tYes) rfl sc_law.nd (pi_list (pv 6)) (blkOk_by (own := [("_law_span_here", 7)]) (N := N_law) (sc := defScope s_law) (by decide +kernel)) (fun _ _ _ _ _ => (pg_name (i := 7) sc_law.nd rfl (Or.inl rfl))) (fun _ _ _ _ _ => pts_nil) (fun _ _ _ _ _ => (pc_own C_law_span_text (hr.mono (by decide)) (by rfl) (pa_cons (pv 7) pa_nil))))) pa_nil)))) (pss_cons (ps_expr (pe_bm PySem.F.plainAttrs_list PySem.F.slot_list_append PySem.F.type_list_append mt_append (pv 8) (pa_cons (pc_own C_law_span_text (hr.mono (by decide)) (by rfl) (pa_cons (pc_own C_law_span (hr.mono (by decide)) (by rfl) (pa_cons (pv 3) (pa_cons (pe_lst pa_nil) (pa_cons (pe_op op_sub (pe_op op_pow pe_int pe_int) pe_int) pa_nil)))) pa_nil)) pa_nil))) (pss_cons (ps_set (i := 9) sc_law.nd rfl (Or.inl rfl) (pe_ix ix_list (pv 8) (pc_own C_law_draw (hr.mono (by decide)) (by rfl) (pa_cons (pv 3) (pa_cons pe_int pa_nil))) (fun _ _ => rfl))) (pss_cons (ps_if (pt_not (pt_val (pc_own C_law_right (hr.mono (by decide)) (by rfl) (pa_cons (pv 9) pa_nil)))) (pss_one (ps_ret pe_bl)) pss_nil) (pss_one (ps_for (passes_of rfl) rfl (pi_range1 (by rfl) T.n_range (pa_cons (pe_op op_add pe_int (pc_own C_law_draw (hr.mono (by decide)) (by rfl) (pa_cons (pv 3) (pa_cons pe_int pa_nil)))) pa_nil)) (pg_name (i := 10) sc_law.nd rfl (Or.inl rfl)) (pss_cons (ps_set (i := 9) sc_law.nd rfl (Or.inl rfl) (pc_own C_law_spoilt (hr.mono (by decide)) (by rfl) (pa_cons (pv 3) (pa_cons (pv 9) pa_nil)))) (pss_one (ps_if (pt_not (pt_val (pc_own C_law_right (hr.mono (by decide)) (by rfl) (pa_cons (pv 9) pa_nil)))) (pss_one (ps_ret pe_bl)) pss_nil)))))))))))))) (pss_cons (ps_set (i := 11) sc_law.nd rfl (Or.inr rfl) pe_str) (pss_cons (ps_setLc (i := 13) (own := [("_law_k", 12)]) rfl sc_law.nd rfl rfl (sw_true rfl rfl rfl (by decide +kernel)) (pi_range1 (by rfl) T.n_range (pa_cons pe_int pa_nil)) (blkOk_by (own := [("_law_k", 12)]) (N := N_law) (sc := defScope s_law) (by decide +kernel)) (fun _ _ _ _ _ => (pg_name (i := 12) sc_law.nd rfl (Or.inl rfl))) (fun _ _ _ _ _ => pts_nil) (fun _ _ _ _ _ => (pe_op op_add_str (pe_op op_add_str (pe_ix ix_str (pv 11) (pe_op op_fdivW (pv 12) pe_int) (fun _ _ => rfl)) (pe_ix ix_str (pv 11) (pe_op op_mod (pv 12) pe_int) (fun _ _ => rfl))) pe_str))) (pss_cons (ps_setLc (i := 14) (own := [("_law_k", 12)]) rfl sc_law.nd rfl rfl (sw_true rfl rfl rfl (by decide +kernel)) (pi_range1 (by rfl) T.n_range (pa_cons pe_int pa_nil)) (blkOk_by (own := [("_law_k", 12)]) (N := N_law) (sc := defScope s_law) (by decide +kernel)) (fun _ _ _ _ _ => (pg_name (i := 12) sc_law.nd rfl (Or.inl rfl))) (fun _ _ _ _ _ => pts_nil) (fun _ _ _ _ _ => (pe_op op_add_str (pe_op op_add_str (pe_callTy call_str_int (by rfl) T.n_str bt_str (pa_cons (pe_op op_mul pe_int (pv 12)) pa_nil)) pe_str) (pe_callTy call_str_int (by rfl) T.n_str bt_str (pa_cons (pe_op op_add (pe_op op_mul pe_int (pv 12)) pe_int) pa_nil))))) (pss_cons (ps_for (passes_of rfl) rfl (pi_list (pe_lst (pa_cons pe_str (pa_cons (pe_join pe_str (pv 13)) (pa_cons (pe_join pe_str (pe_slice sl_list (pv 13) po_none (po_some pe_int))) (pa_cons (pe_join pe_str (pv 14)) (pa_cons (pe_join pe_str (pe_slice sl_list (pv 14) po_none (po_some pe_int))) pa_nil))))))) (pg_name (i := 9) sc_law.nd rfl (Or.inl rfl)) (pss_one (ps_if (pt_not (pt_val (pc_own C_law_right (hr.mono (by decide)) (by rfl) (pa_cons (pv 9) pa_nil)))) (pss_one (ps_ret pe_bl)) pss_nil))) (pss_one (ps_ret pe_bl))))))))) (so_law T.xs T.kc T.xm) rfl rfl rfl
end
theorem facts {P : Program} {w : World} {K : PySem.W.Frag} {h : Heap} {mg : Str → Option Value} {f : Addr} (X : K.In h) (G : h.Ns mainGlobals mg) (hfa : mg ("law" : Str) = some (.ref f)) (c : He.SaysD fa fn K) (xs : Xs K xnames) (xm : XM K) :
    ∃ fd : FuncData, (∀ (s : Shared) (v : Value), BindsTo s fd ⟨[v], []⟩ [("_law_script", v)]) ∧ ∀ base : Heap, K.In base → base.Ns mainGlobals mg → FnOk P w K mg base CX0 9 f fd ["_law_script"] (spF K f_law_k79) := by
  have T : Txt K mg := ⟨He.free_ok X G (c.fact 38 (f := .free "range") rfl), He.free_ok X G (c.fact 39 (f := .free "len") rfl), He.free_ok X G (c.fact 40 (f := .free "max") rfl), He.free_ok X G (c.fact 41 (f := .free "min") rfl), He.free_ok X G (c.fact 42 (f := .free "sorted") rfl), He.free_ok X G (c.fact 43 (f := .free "set") rfl), He.free_ok X G (c.fact 44 (f := .free "str") rfl), He.free_ok X G (c.fact 45 (f := .free "int") rfl), He.free_ok X G (c.fact 46 (f := .free "zip") rfl), He.free_ok X G (c.fact 47 (f := .free "isinstance") rfl), He.free_ok X G (c.fact 48 (f := .free "ValueError") rfl), He.free_ok X G (c.fact 49 (f := .free "all") rfl), He.int_ok X G (c.fact 50 rfl), He.str_ok X G (c.fact 51 rfl), He.int_ok X G (c.fact 52 rfl), He.int_ok X G (c.fact 53 rfl), He.int_ok X G (c.fact 54 rfl), He.str_ok X G (c.fact 55 rfl), He.int_ok X G (c.fact 56 rfl), He.int_ok X G (c.fact 57 rfl), xs, ⟨He.cls_ok (c.fact 59 (f := .cls "Shelf") rfl), He.noat_ok (c.fact 60 (f := .noat "Shelf" "kept") rfl), He.noat_ok (c.fact 61 (f := .noat "Shelf" "behind") rfl), He.noat_ok (c.fact 62 (f := .noat "Shelf" "ahead") rfl)⟩, xm, xs.up, xs.up.mg X G, xs.one "NoSpan" (.head _), (xs.one "NoSpan" (.head _)).mg X G, xs.one "NoPlace" (.tail _ (.head _)), (xs.one "NoPlace" (.tail _ (.head _))).mg X G, xs.one "NoCover" (.tail _ (.tail _ (.head _))), (xs.one "NoCover" (.tail _ (.tail _ (.head _)))).mg X G, xs.one "NoWeight" (.tail _ (.tail _ (.tail _ (.head _)))), (xs.one "NoWeight" (.tail _ (.tail _ (.tail _ (.head _))))).mg X G, xs.one "NoCount" (.tail _ (.tail _ (.tail _ (.tail _ (.head _))))), (xs.one "NoCount" (.tail _ (.tail _ (.tail _ (.tail _ (.head _)))))).mg X G, xs.one "NoName" (.tail _ (.tail _ (.tail _ (.tail _ (.tail _ (.head _)))))), (xs.one "NoName" (.tail _ (.tail _ (.tail _ (.tail _ (.tail _ (.head _))))))).mg X G, xs.one "Twice" (.tail _ (.tail _ (.tail _ (.tail _ (.tail _ (.tail _ (.head _))))))), (xs.one "Twice" (.tail _ (.tail _ (.tail _ (.tail _ (.tail _ (.tail _ (.head _)))))))).mg X G, xs.one "Full" (.tail _ (.tail _ (.tail _ (.tail _ (.tail _ (.tail _ (.tail _ (.head _)))))))), (xs.one "Full" (.tail _ (.tail _ (.tail _ (.tail _ (.tail _ (.tail _ (.tail _ (.head _))))))))).mg X G, xs.one "Bare" (.tail _ (.tail _ (.tail _ (.tail _ (.tail _ (.tail _ (.tail _ (.tail _ (.head _))))))))), (xs.one "Bare" (.tail _ (.tail _ (.tail _ (.tail _ (.tail _ (.tail _ (.tail _ (.tail _ (.head _)))))))))).mg X G, xs.one "NoDeed" (.tail _ (.tail _ (.tail _ (.tail _ (.tail _ (.tail _ (.tail _ (.tail _ (.tail _ (.head _)))))))))), (xs.one "NoDeed" (.tail _ (.tail _ (.tail _ (.tail _ (.tail _ (.tail _ (.tail _ (.tail _ (.tail _ (.head _))))))))))).mg X G, xs.one "NoText" (.tail _ (.tail _ (.tail _ (.tail _ (.tail _ (.tail _ (.tail _ (.tail _ (.tail _ (.tail _ (.head _))))))))))), (xs.one "NoText" (.tail _ (.tail _ (.tail _ (.tail _ (.tail _ (.tail _ (.tail _ (.tail _ (.tail _ (.tail _ (.head _)))))))))))).mg X G, xs.one "NoLine" (.tail _ (.tail _ (.tail _ (.tail _ (.tail _ (.tail _ (.tail _ (.tail _ (.tail _ (.tail _ (.tail _ (.head _)))))))))))), (xs.one "NoLine" (.tail _ (.tail _ (.tail _ (.tail _ (.tail _ (.tail _ (.tail _ (.tail _ (.tail _ (.tail _ (.tail _ (.head _))))))))))))).mg X G⟩
  obtain ⟨fd_law_mixed, F_law_mixed⟩ := c.def_ 0 (d := d_law_mixed) rfl
  obtain ⟨fd_law_draw, F_law_draw⟩ := c.def_ 1 (d := d_law_draw) rfl
  obtain ⟨fd_law_names, F_law_names⟩ := c.def_ 2 (d := d_law_names) rfl
  obtain ⟨fd_law_at, F_law_at⟩ := c.def_ 3 (d := d_law_at) rfl
  obtain ⟨fd_law_purse, F_law_purse⟩ := c.def_ 4 (d := d_law_purse) rfl
  obtain ⟨fd_law_number, F_law_number⟩ := c.def_ 5 (d := d_law_number) rfl
  obtain ⟨fd_law_end, F_law_end⟩ := c.def_ 6 (d := d_law_end) rfl
  obtain ⟨fd_law_cover, F_law_cover⟩ := c.def_ 7 (d := d_law_cover) rfl
  obtain ⟨fd_law_span_text, F_law_span_text⟩ := c.def_ 8 (d := d_law_span_text) rfl
  obtain ⟨fd_law_shelf_text, F_law_shelf_text⟩ := c.def_ 9 (d := d_law_shelf_text) rfl
  obtain ⟨fd_law_number_read, F_law_number_read⟩ := c.def_ 10 (d := d_law_number_read) rfl
  obtain ⟨fd_law_span_read, F_law_span_read⟩ := c.def_ 11 (d := d_law_span_read) rfl
  obtain ⟨fd_law_cover_read, F_law_cover_read⟩ := c.def_ 12 (d := d_law_cover_read) rfl
  obtain ⟨fd_law_row_read, F_law_row_read⟩ := c.def_ 13 (d := d_law_row_read) rfl
  obtain ⟨fd_law_shelf_read, F_law_shelf_read⟩ := c.def_ 14 (d := d_law_shelf_read) rfl
  obtain ⟨fd_Shelf_names, F_Shelf_names⟩ := c.def_ 15 (d := d_Shelf_names) rfl
  obtain ⟨fd_law_class, F_law_class⟩ := c.def_ 16 (d := d_law_class) rfl
  obtain ⟨fd_must, F_must⟩ := c.def_ 17 (d := d_must) rfl
  obtain ⟨fd_is_number, F_is_number⟩ := c.def_ 18 (d := d_is_number) rfl
  obtain ⟨fd_read_number, F_read_number⟩ := c.def_ 19 (d := d_read_number) rfl
  obtain ⟨fd_is_place, F_is_place⟩ := c.def_ 20 (d := d_is_place) rfl
  obtain ⟨fd_is_span, F_is_span⟩ := c.def_ 21 (d := d_is_span) rfl
  obtain ⟨fd_read_span, F_read_span⟩ := c.def_ 22 (d := d_read_span) rfl
  obtain ⟨fd_Shelf_must_have, F_Shelf_must_have⟩ := c.def_ 23 (d := d_Shelf_must_have) rfl
  obtain ⟨fd_Shelf_span, F_Shelf_span⟩ := c.def_ 24 (d := d_Shelf_span) rfl
  obtain ⟨fd_Shelf_weight, F_Shelf_weight⟩ := c.def_ 25 (d := d_Shelf_weight) rfl
  obtain ⟨fd_must_span, F_must_span⟩ := c.def_ 26 (d := d_must_span) rfl
  obtain ⟨fd_must_spans, F_must_spans⟩ := c.def_ 27 (d := d_must_spans) rfl
  obtain ⟨fd_must_cover, F_must_cover⟩ := c.def_ 28 (d := d_must_cover) rfl
  obtain ⟨fd_read_cover, F_read_cover⟩ := c.def_ 29 (d := d_read_cover) rfl
  obtain ⟨fd_Shelf___init__, F_Shelf___init__⟩ := c.def_ 30 (d := d_Shelf___init__) rfl
  obtain ⟨fd_is_name, F_is_name⟩ := c.def_ 31 (d := d_is_name) rfl
  obtain ⟨fd_read_shelf, F_read_shelf⟩ := c.def_ 32 (d := d_read_shelf) rfl
  obtain ⟨fd_law_asked, F_law_asked⟩ := c.def_ 33 (d := d_law_asked) rfl
  obtain ⟨fd_law_right, F_law_right⟩ := c.def_ 34 (d := d_law_right) rfl
  obtain ⟨fd_law_spoilt, F_law_spoilt⟩ := c.def_ 35 (d := d_law_spoilt) rfl
  obtain ⟨fd_law_span, F_law_span⟩ := c.def_ 36 (d := d_law_span) rfl
  obtain ⟨fd_law, F_law⟩ := c.def_ 37 (d := d_law) rfl
  have e := hfa.symm.trans (He.glo_ok X G (c.fact 37 (f := .glo "law") rfl))
  cases e
  have b := FunD.bindsA (ps := ["_law_script"]) F_law fun _ _ _ _ _ _ us hl => match us, hl with | [_], _ => rfl
  refine ⟨fd_law, fun s v => b s [v] rfl, fun base _ _ => ?_⟩
  have C_law_mixed : CalF P w K mg base "_law_mixed" 1 ["_law_cell", "_law_k"] f_law_mixed := ⟨_, ok_law_mixed T F_law_mixed, FunD.bindsN F_law_mixed fun _ _ _ _ _ _ us hl => match us, hl with | [_, _], _ => rfl, F_law_mixed.kp, He.glo_ok X G (c.fact 0 (f := .glo "_law_mixed") rfl)⟩
  have C_law_draw : CalF P w K mg base "_law_draw" 2 ["_law_purse_here", "_law_out_of"] f_law_draw := ⟨_, ok_law_draw T C_law_mixed F_law_draw, FunD.bindsN F_law_draw fun _ _ _ _ _ _ us hl => match us, hl with | [_, _], _ => rfl, F_law_draw.kp, He.glo_ok X G (c.fact 1 (f := .glo "_law_draw") rfl)⟩
  have C_law_names : CalF P w K mg base "_law_names" 3 ["_law_purse_here", "_law_many"] f_law_names := ⟨_, ok_law_names T C_law_draw F_law_names, FunD.bindsN F_law_names fun _ _ _ _ _ _ us hl => match us, hl with | [_, _], _ => rfl, F_law_names.kp, He.glo_ok X G (c.fact 2 (f := .glo "_law_names") rfl)⟩
  have C_law_at : CalF P w K mg base "_law_at" 1 ["_law_script", "_law_k"] f_law_at := ⟨_, ok_law_at T F_law_at, FunD.bindsN F_law_at fun _ _ _ _ _ _ us hl => match us, hl with | [_, _], _ => rfl, F_law_at.kp, He.glo_ok X G (c.fact 3 (f := .glo "_law_at") rfl)⟩
  have C_law_purse : CalF P w K mg base "_law_purse" 2 ["_law_script", "_law_at_here"] f_law_purse := ⟨_, ok_law_purse T C_law_at F_law_purse, FunD.bindsN F_law_purse fun _ _ _ _ _ _ us hl => match us, hl with | [_, _], _ => rfl, F_law_purse.kp, He.glo_ok X G (c.fact 4 (f := .glo "_law_purse") rfl)⟩
  have C_law_number : CalF P w K mg base "_law_number" 3 ["_law_purse_here", "_law_most"] f_law_number := ⟨_, ok_law_number T C_law_draw F_law_number, FunD.bindsN F_law_number fun _ _ _ _ _ _ us hl => match us, hl with | [_, _], _ => rfl, F_law_number.kp, He.glo_ok X G (c.fact 5 (f := .glo "_law_number") rfl)⟩
  have C_law_end : CalF P w K mg base "_law_end" 4 ["_law_purse_here", "_law_ends", "_law_most"] f_law_end := ⟨_, ok_law_end T C_law_draw C_law_number F_law_end, FunD.bindsN F_law_end fun _ _ _ _ _ _ us hl => match us, hl with | [_, _, _], _ => rfl, F_law_end.kp, He.glo_ok X G (c.fact 6 (f := .glo "_law_end") rfl)⟩
  have C_law_cover : CalF P w K mg base "_law_cover" 5 ["_law_purse_here", "_law_many"] f_law_cover_4 := ⟨_, ok_law_cover T C_law_end F_law_cover, FunD.bindsN F_law_cover fun _ _ _ _ _ _ us hl => match us, hl with | [_, _], _ => rfl, F_law_cover.kp, He.glo_ok X G (c.fact 7 (f := .glo "_law_cover") rfl)⟩
  have C_law_span_text : CalF P w K mg base "_law_span_text" 1 ["_law_span_here"] f_law_span_text := ⟨_, ok_law_span_text T F_law_span_text, FunD.bindsN F_law_span_text fun _ _ _ _ _ _ us hl => match us, hl with | [_], _ => rfl, F_law_span_text.kp, He.glo_ok X G (c.fact 8 (f := .glo "_law_span_text") rfl)⟩
  have C_law_shelf_text : CalF P w K mg base "_law_shelf_text" 2 ["_law_kept"] f_law_shelf_text := ⟨_, ok_law_shelf_text T C_law_span_text F_law_shelf_text, FunD.bindsN F_law_shelf_text fun _ _ _ _ _ _ us hl => match us, hl with | [_], _ => rfl, F_law_shelf_text.kp, He.glo_ok X G (c.fact 9 (f := .glo "_law_shelf_text") rfl)⟩
  have C_law_number_read : CalF P w K mg base "_law_number_read" 1 ["_law_text"] f_law_number_read := ⟨_, ok_law_number_read T F_law_number_read, FunD.bindsN F_law_number_read fun _ _ _ _ _ _ us hl => match us, hl with | [_], _ => rfl, F_law_number_read.kp, He.glo_ok X G (c.fact 10 (f := .glo "_law_number_read") rfl)⟩
  have C_law_span_read : CalF P w K mg base "_law_span_read" 2 ["_law_text"] f_law_span_read := ⟨_, ok_law_span_read T C_law_number_read F_law_span_read, FunD.bindsN F_law_span_read fun _ _ _ _ _ _ us hl => match us, hl with | [_], _ => rfl, F_law_span_read.kp, He.glo_ok X G (c.fact 11 (f := .glo "_law_span_read") rfl)⟩
  have C_law_cover_read : CalF P w K mg base "_law_cover_read" 3 ["_law_text"] f_law_cover_read := ⟨_, ok_law_cover_read T C_law_span_read F_law_cover_read, FunD.bindsN F_law_cover_read fun _ _ _ _ _ _ us hl => match us, hl with | [_], _ => rfl, F_law_cover_read.kp, He.glo_ok X G (c.fact 12 (f := .glo "_law_cover_read") rfl)⟩
  have C_law_row_read : CalF P w K mg base "_law_row_read" 3 ["_law_row"] f_law_row_read := ⟨_, ok_law_row_read T C_law_span_read C_law_number_read F_law_row_read, FunD.bindsN F_law_row_read fun _ _ _ _ _ _ us hl => match us, hl with | [_], _ => rfl, F_law_row_read.kp, He.glo_ok X G (c.fact 13 (f := .glo "_law_row_read") rfl)⟩
  have C_law_shelf_read : CalF P w K mg base "_law_shelf_read" 4 ["_law_text"] f_law_shelf_read := ⟨_, ok_law_shelf_read T C_law_row_read F_law_shelf_read, FunD.bindsN F_law_shelf_read fun _ _ _ _ _ _ us hl => match us, hl with | [_], _ => rfl, F_law_shelf_read.kp, He.glo_ok X G (c.fact 14 (f := .glo "_law_shelf_read") rfl)⟩
  have C_Shelf_names : CalM P w K mg base "Shelf" "names" 1 ["self"] f_Shelf_names := ⟨_, ok_Shelf_names T F_Shelf_names, FunD.bindsN F_Shelf_names fun _ _ _ _ _ _ us hl => match us, hl with | [_], _ => rfl, He.meth_ok (c.fact 15 (f := .meth "Shelf" "names") rfl)⟩
  have C_law_class : CalF P w K mg base "_law_class" 1 ["_law_caught"] f_law_class := ⟨_, ok_law_class T F_law_class, FunD.bindsN F_law_class fun _ _ _ _ _ _ us hl => match us, hl with | [_], _ => rfl, F_law_class.kp, He.glo_ok X G (c.fact 16 (f := .glo "_law_class") rfl)⟩
  have C_must : CalF P w K mg base "must" 1 ["fine"] f_must := ⟨_, ok_must T F_must, FunD.bindsN F_must fun _ _ _ _ _ _ us hl => match us, hl with | [_], _ => rfl, F_must.kp, He.glo_ok X G (c.fact 17 (f := .glo "must") rfl)⟩
  have C_is_number : CalF P w K mg base "is_number" 1 ["text"] f_is_number := ⟨_, ok_is_number T F_is_number, FunD.bindsN F_is_number fun _ _ _ _ _ _ us hl => match us, hl with | [_], _ => rfl, F_is_number.kp, He.glo_ok X G (c.fact 18 (f := .glo "is_number") rfl)⟩
  have C_read_number : CalF P w K mg base "read_number" 2 ["text"] f_read_number := ⟨_, ok_read_number T C_must C_is_number F_read_number, FunD.bindsN F_read_number fun _ _ _ _ _ _ us hl => match us, hl with | [_], _ => rfl, F_read_number.kp, He.glo_ok X G (c.fact 19 (f := .glo "read_number") rfl)⟩
  have C_is_place : CalF P w K mg base "is_place" 1 ["number"] f_is_place := ⟨_, ok_is_place T F_is_place, FunD.bindsN F_is_place fun _ _ _ _ _ _ us hl => match us, hl with | [_], _ => rfl, F_is_place.kp, He.glo_ok X G (c.fact 20 (f := .glo "is_place") rfl)⟩
  have C_is_span : CalF P w K mg base "is_span" 2 ["span"] f_is_span := ⟨_, ok_is_span T C_is_place F_is_span, FunD.bindsN F_is_span fun _ _ _ _ _ _ us hl => match us, hl with | [_], _ => rfl, F_is_span.kp, He.glo_ok X G (c.fact 21 (f := .glo "is_span") rfl)⟩
  have C_read_span : CalF P w K mg base "read_span" 3 ["text"] f_read_span := ⟨_, ok_read_span T C_read_number C_must C_is_span F_read_span, FunD.bindsN F_read_span fun _ _ _ _ _ _ us hl => match us, hl with | [_], _ => rfl, F_read_span.kp, He.glo_ok X G (c.fact 22 (f := .glo "read_span") rfl)⟩
  have C_Shelf_must_have : CalM P w K mg base "Shelf" "must_have" 1 ["self", "name"] f_Shelf_must_have := ⟨_, ok_Shelf_must_have T F_Shelf_must_have, FunD.bindsN F_Shelf_must_have fun _ _ _ _ _ _ us hl => match us, hl with | [_, _], _ => rfl, He.meth_ok (c.fact 23 (f := .meth "Shelf" "must_have") rfl)⟩
  have C_Shelf_span : CalM P w K mg base "Shelf" "span" 2 ["self", "name"] f_Shelf_span := ⟨_, ok_Shelf_span T C_Shelf_must_have F_Shelf_span, FunD.bindsN F_Shelf_span fun _ _ _ _ _ _ us hl => match us, hl with | [_, _], _ => rfl, He.meth_ok (c.fact 24 (f := .meth "Shelf" "span") rfl)⟩
  have C_Shelf_weight : CalM P w K mg base "Shelf" "weight" 2 ["self", "name"] f_Shelf_weight := ⟨_, ok_Shelf_weight T C_Shelf_must_have F_Shelf_weight, FunD.bindsN F_Shelf_weight fun _ _ _ _ _ _ us hl => match us, hl with | [_, _], _ => rfl, He.meth_ok (c.fact 25 (f := .meth "Shelf" "weight") rfl)⟩
  have CN_must_span : CalN P w K mg base "must_span" 3 ["span"] f_must_span := ⟨_, okN_must_span T C_is_span F_must_span, FunD.bindsN F_must_span fun _ _ _ _ _ _ us hl => match us, hl with | [_], _ => rfl, F_must_span.kp, He.glo_ok X G (c.fact 26 (f := .glo "must_span") rfl)⟩
  have C_must_span : CalF P w K mg base "must_span" 3 ["span"] f_must_span := ⟨_, ok_must_span T C_is_span F_must_span, FunD.bindsN F_must_span fun _ _ _ _ _ _ us hl => match us, hl with | [_], _ => rfl, F_must_span.kp, He.glo_ok X G (c.fact 26 (f := .glo "must_span") rfl)⟩
  have CN_must_spans : CalN P w K mg base "must_spans" 4 ["spans"] f_must_spans := ⟨_, okN_must_spans T C_must_span CN_must_span F_must_spans, FunD.bindsN F_must_spans fun _ _ _ _ _ _ us hl => match us, hl with | [_], _ => rfl, F_must_spans.kp, He.glo_ok X G (c.fact 27 (f := .glo "must_spans") rfl)⟩
  have C_must_spans : CalF P w K mg base "must_spans" 4 ["spans"] f_must_spans := ⟨_, ok_must_spans T C_must_span F_must_spans, FunD.bindsN F_must_spans fun _ _ _ _ _ _ us hl => match us, hl with | [_], _ => rfl, F_must_spans.kp, He.glo_ok X G (c.fact 27 (f := .glo "must_spans") rfl)⟩
  have CN_must_cover : CalN P w K mg base "must_cover" 5 ["cover"] f_must_cover := ⟨_, okN_must_cover T C_must_spans CN_must_spans F_must_cover, FunD.bindsN F_must_cover fun _ _ _ _ _ _ us hl => match us, hl with | [_], _ => rfl, F_must_cover.kp, He.glo_ok X G (c.fact 28 (f := .glo "must_cover") rfl)⟩
  have C_must_cover : CalF P w K mg base "must_cover" 5 ["cover"] f_must_cover := ⟨_, ok_must_cover T C_must_spans F_must_cover, FunD.bindsN F_must_cover fun _ _ _ _ _ _ us hl => match us, hl with | [_], _ => rfl, F_must_cover.kp, He.glo_ok X G (c.fact 28 (f := .glo "must_cover") rfl)⟩
  have C_read_cover : CalF P w K mg base "read_cover" 6 ["text"] f_read_cover_2 := ⟨_, ok_read_cover T C_read_span C_must_cover CN_must_cover F_read_cover, FunD.bindsN F_read_cover fun _ _ _ _ _ _ us hl => match us, hl with | [_], _ => rfl, F_read_cover.kp, He.glo_ok X G (c.fact 29 (f := .glo "read_cover") rfl)⟩
  have C_Shelf___init__ : CalI P w K mg base "Shelf" 1 ["self"] f_Shelf___init__ := ⟨_, ok_Shelf___init__ T F_Shelf___init__, FunD.bindsN F_Shelf___init__ fun _ _ _ _ _ _ us hl => match us, hl with | [_], _ => rfl, He.mkr_ok (c.fact 30 (f := .mkr "Shelf") rfl), He.glo_ok X G (c.fact 58 (f := .glo "Shelf") rfl)⟩
  have C_is_name : CalF P w K mg base "is_name" 1 ["text"] f_is_name := ⟨_, ok_is_name T F_is_name, FunD.bindsN F_is_name fun _ _ _ _ _ _ us hl => match us, hl with | [_], _ => rfl, F_is_name.kp, He.glo_ok X G (c.fact 31 (f := .glo "is_name") rfl)⟩
  have C_read_shelf : CalF P w K mg base "read_shelf" 4 ["text"] f_read_shelf := ⟨_, ok_read_shelf T C_Shelf___init__ C_must C_is_name C_read_number C_read_span F_read_shelf, FunD.bindsN F_read_shelf fun _ _ _ _ _ _ us hl => match us, hl with | [_], _ => rfl, F_read_shelf.kp, He.glo_ok X G (c.fact 32 (f := .glo "read_shelf") rfl)⟩
  have C_law_asked : CalF P w K mg base "_law_asked" 7 ["_law_text", "_law_way"] f_law_asked_8 := ⟨_, ok_law_asked T C_read_span C_read_cover C_read_shelf C_law_class C_Shelf_names C_Shelf_span C_Shelf_weight F_law_asked, FunD.bindsN F_law_asked fun _ _ _ _ _ _ us hl => match us, hl with | [_, _], _ => rfl, F_law_asked.kp, He.glo_ok X G (c.fact 33 (f := .glo "_law_asked") rfl)⟩
  have C_law_right : CalF P w K mg base "_law_right" 8 ["_law_text"] f_law_right_14 := ⟨_, ok_law_right T C_law_span_read C_law_cover_read C_law_shelf_read C_law_asked F_law_right, FunD.bindsN F_law_right fun _ _ _ _ _ _ us hl => match us, hl with | [_], _ => rfl, F_law_right.kp, He.glo_ok X G (c.fact 34 (f := .glo "_law_right") rfl)⟩
  have C_law_spoilt : CalF P w K mg base "_law_spoilt" 3 ["_law_purse_here", "_law_text"] f_law_spoilt_2 := ⟨_, ok_law_spoilt T C_law_draw F_law_spoilt, FunD.bindsN F_law_spoilt fun _ _ _ _ _ _ us hl => match us, hl with | [_, _], _ => rfl, F_law_spoilt.kp, He.glo_ok X G (c.fact 35 (f := .glo "_law_spoilt") rfl)⟩
  have C_law_span : CalF P w K mg base "_law_span" 5 ["_law_purse_here", "_law_ends", "_law_most"] f_law_span := ⟨_, ok_law_span T C_law_end F_law_span, FunD.bindsN F_law_span fun _ _ _ _ _ _ us hl => match us, hl with | [_, _, _], _ => rfl, F_law_span.kp, He.glo_ok X G (c.fact 36 (f := .glo "_law_span") rfl)⟩
  exact ok_law T C_law_names C_law_purse C_law_draw C_law_span C_law_cover C_law_shelf_text C_law_span_text C_law_right C_law_spoilt F_law
end LW
open PySem PySem.W PySem.Calls PyProof.Rows
set_option maxRecDepth 100000 in
set_option maxHeartbeats 0 in
theorem PySem.Challenge.cw_spanshelf_k79_texts_of_nothing_holds : PySem.Challenge.rw_spanshelf_k79_texts_of_nothing.Holds := by
  w_on; o_law
  refine HandSHeadRun.head_any (r := OpenLaw.row PySem.Challenge.rw_spanshelf_k79_texts_of_nothing) (q := view (OpenLaw.row PySem.Challenge.rw_spanshelf_k79_texts_of_nothing).prog [65]) (H := LW.hk) (ob := LW.ob) (M := 40000) (loose := LW.loose) (d := HandSHeadRun.topDef (OpenLaw.row PySem.Challenge.rw_spanshelf_k79_texts_of_nothing).prog 65) (kwd := []) LW.ob_eq
    (by kernel_rfl) (fun s => by kernel_rfl) LW.run (by kernel_rfl) (by kernel_rfl) (by kernel_rfl) (by rfl) (by first | assumption | decide +kernel) (by decide +kernel) ⟨rfl, rfl, rfl, rfl, rfl, by decide +kernel⟩ ?hw ?hc
  case hw => w_witness2
  case hc =>
    refine L2.walk_ofE (l := PySem.Challenge.rw_spanshelf_k79_texts_of_nothing) (n := 63) (k := 9) (x := "_law_script") (CX := L2.CX0) rfl (by decide) (by kernel_rfl) ⟨rfl, by decide, by decide⟩ ?F (fun _ _ _ _ z => z)
    intro w mg fa h Y G hmg0
    obtain ⟨K, KX, c, hx⟩ := Y
    obtain ⟨hx, hxm⟩ := Bool.and_eq_true_iff.mp hx
    have hmg : mg ("law" : PySem.Str) = some (.ref fa) := by
      have e : (HandSHeadRun.topDef (OpenLaw.row PySem.Challenge.rw_spanshelf_k79_texts_of_nothing).prog 65).name = ("law" : PySem.Str) := by kernel_rfl
      rw [← e]
      exact hmg0
    obtain ⟨fd, hb, hF⟩ := LW.facts (P := (PySem.Challenge.rw_spanshelf_k79_texts_of_nothing).prog) (w := w) KX G hmg c (DL.xsB_ok hx) (LW.xm_ok hxm)
    refine ⟨K, fd, DL.spF K DL.f_law_k79, KX, hb, fun H a ns hl _ hS => ?_, hF⟩
    obtain ⟨m', hm⟩ := DL.law_true ns hl
    exact DL.law_startF hS hm
