import PyProof.Rows.All
import Wide.All
import OpenK.AllK
import Wide.FinOn
import HandS.ForMost
import HandS.ForExc
import HandS.ExcValue
import HandS.ExcIs
import HandS.IsInst
import HandS.Evl
import HandS.HeadHook1
import HandS.Flt
import HandS.Wide
import HandS.WideBits
import HandS.Defaults
import HandS.Style
import HandS.TupLe
import HandS.HeadEnd
import HandS.HeadHook2
import HandS.Head0
import HandS.Head1
import HandS.Head2
import HandS.SortInts
import HandS.SortRule
import HandS.SetFor
import HandS.Conv
import HandS.Sort
import HandS.NoneIn
import HandS.More
import PySem.Challenge.RW_spanshelf_k90_refusals_made
set_option Elab.async false
set_option linter.all false
set_option maxRecDepth 100000
set_option maxHeartbeats 4000000
/-! Errors kept as values: an error that a clause has caught is put by a name and stays tracked; it may be asked for its class later. -/
namespace DL
open PySem PySem.Spec PyProof.Rows L2
/-- an exception object of the class cls at a (it may have been raised) -/
def ExV (cls : Value) (a : Addr) : HO := .ext fun h => ∃ (oe : Obj) (vs : Array Value), h.get? a = some oe ∧ Zc cls none oe ∧ oe.data = .fields vs
/-- an object that nobody tracked, younger than the entry, is tracked from now on -/
theorem inv_track {X : Cx} {pins : List (Addr × Obj)} {σ : L2.St} {H : Hp} {s : Shared} {a : Addr} {oe : Obj} {o : HO} (I : Inv X pins σ H s) (ha : s.heap.get? a = some oe) (na : H a = none) (nL : a ≠ X.env.locals)
    (nC : ∀ x c, X.env.cells.lookup x = some c → c ≠ a) (n0 : X.s_0.heap.get? a = none) (np : ∀ p ∈ X.pn ++ pins, p.1 ≠ a) (new : ObjOk X.prog X.w (upd H a o) s.heap a o) : Inv X pins σ (upd H a o) s := by
  have young : ∀ b u, X.s_0.heap.get? b = some u → b ≠ a := fun b u e z => by rw [z, n0] at e; cases e
  have same : ∀ b u, H b = some u → upd H a o b = some u := fun b u e => by rw [upd_ne (ne_of_none e na)]; exact e
  refine ⟨I.ok, I.os, I.bare, ⟨I.base.keep, I.base.slot, ?_, I.base.there, fun b xs e => same _ _ (I.base.tups b xs e), fun b u w e => same _ _ (I.base.frzs b u w e), ?_⟩, I.loc, I.cell, ?_, ?_, ?_, ?_, I.len⟩
  · intro b u e n hx
    rw [upd_ne (young b u e)]
    exact I.base.free b u e n hx
  · intro b ps e
    obtain ⟨more, q⟩ := I.base.tbls b ps e
    exact ⟨more, same _ _ q⟩
  · rw [upd_ne (Ne.symm nL)]
    exact I.free
  · intro x c e
    rw [upd_ne (nC x c e)]
    exact I.freeC x c e
  · intro p hp
    have q := I.pin p hp
    exact ⟨q.1, by rw [upd_ne (np p hp)]; exact q.2.1, q.2.2⟩
  · intro b u e
    by_cases hb : b = a
    · subst hb
      rw [upd_same] at e
      cases e
      exact new
    · rw [upd_ne hb] at e
      exact (I.hok b u e).stay (fun _ _ _ q => q) (fun c q => same _ _ q) fun c xs q => same _ _ q
/-- what a clause that keeps the error wishes: i the clause's name, j the name that holds it behind -/
def wKeep (K : PySem.W.Frag) (c : Value) (i j : Nat) (D : Ends) : WX := fun cls d σ H =>
  PySem.W.exmOne K cls c = some true ∧ d = none ∧ ∀ a, H a = none → D.nx (((σ.set i (some (.ref a))).set j (some (.ref a))).set i none) (upd H a (ExV cls a))
section
variable {X : Cx} {x n : Str} {c : Value} {i j : Nat} {body : List Stmt} {sj : Stmt} {p1 p2 p3 : Pos} {tb : WX → TS}
theorem ps_try_keep (hst : X.stack = X.env :: X.outer) (hfm : X.env.frame = some X.env.locals) (hex : X.ex = []) (nd : X.N.Nodup) (hi : X.N[i]? = some n) (hk : X.env.kindOf n = some .local) (hcl : Names X x c)
    (hB : ∀ (W : WX) (pn : List (Addr × Obj)) (xe : Value → Shared → Prop), Takes (X.tr pn xe) W → PassesOwn (model X.prog X.w) X.A X.env xe → PSs (X.tr pn xe) body (tb W))
    (hS : ∀ (a : Addr) (oe : Obj) (pn : List (Addr × Obj)), PSs (X.suite a ((a, oe) :: pn)) [sj] (tAsg (tVar i) (gName j))) :
    PS X (.Try body [.ExceptHandler (some (.Name x p1)) (some n) [sj] p2] [] [] p3) (fun D σ H => tb (wKeep X.K c i j D) D σ H) := by
  refine ⟨fun pins s σ H D I0 wish => wpAny_Try_except ?_⟩
  have okX := I0.ok
  have frs0 : X.A.frames = some (X.env :: X.outer) := okX.frames.trans (congrArg some hst)
  let catching : Value → Shared → Prop := fun e s1 => wpAny (model X.prog X.w) X.A (noteFrame e X.env) (fun _ s2 => wpAny (model X.prog X.w) X.A (setFlight e none) (fun _ s3 =>
    wpAny (model X.prog X.w) X.A (handleBy e X.env [.ExceptHandler (some (.Name x p1)) (some n) [sj] p2]) (SP X pins D) X.xe s3) X.xe s2) X.xe s1
  have caught : Takes (X.tr (X.pn ++ pins) catching) (wKeep X.K c i j D) := by
    rintro u sA ⟨a, B, sI, _, τ, G, cls, d, rfl, I1, ground, upS, sky, freeA, osE, gensE, isC, rfl, go⟩
    have I2 : Inv X pins τ G sI := I1.ofTry okX
    show catching (.ref a) sA
    refine Sky.land Zc.steady frs0 hfm (hst ▸ sky) fun hp3 fly3 up3 => ?_
    obtain ⟨o3, v3, get3, z3, data3⟩ := fly3.there
    have offFrames : a ∉ frs (X.env :: X.outer) := fun hm => by
      obtain ⟨_, o', e', nf⟩ := fly3.2.2.1.mem hm
      rw [get3] at e'
      cases e'
      exact nf _ data3
    have offL : a ≠ X.env.locals := fun z => offFrames (List.mem_filterMap.mpr ⟨X.env, List.mem_cons_self, hfm.trans (congrArg some z.symm)⟩)
    have offF : a ∉ X.fs := fun hm => by
      obtain ⟨e, he, q⟩ := List.mem_filterMap.mp hm
      exact offFrames (List.mem_filterMap.mpr ⟨e, .tail _ he, q⟩)
    have gone1 : sI.heap.get? a = none := by
      cases q : sI.heap.get? a with
      | none => rfl
      | some o =>
        have z := ground a o q (hst ▸ offFrames)
        rw [fly3.2.1] at z
        cases z
    have gone0 : X.s_0.heap.get? a = none := by
      cases q : X.s_0.heap.get? a with
      | none => rfl
      | some o =>
        obtain ⟨_, z⟩ := I2.base.there a o q (by rw [hex]; exact fun y => nomatch y)
        rw [gone1] at z
        cases z
    have I3 : Inv X pins τ G { sA with heap := hp3 } := I2.landed ground fly3.1 (upS.trans up3) osE gensE
    have C3 := I3.suite get3 data3 freeA offL offF
    refine wpAny_handleBy_cons (codeAny_handlers_test ?_) (fun q => nomatch q)
    have looks := PySem.W.exm_one (M := model X.prog X.w) I3.kIn (fun _ _ _ _ k q => wpAny_typeOf_ref (k _ _ get3) (z3.1.symm ▸ q)) isC
    have named : ∀ {Q : Value → Shared → Prop} {E : Value → Shared → Prop}, Q c { sA with heap := hp3 } → wpAny (model X.prog X.w) (X.A.mark (some (.ref a))) (eval (.Name x p1) X.env) Q E { sA with heap := hp3 } := by
      intro Q E q
      rcases hcl with ⟨g1, g2, g3 | ⟨g3, g4, g5⟩⟩
      · exact ld_glob (X := X.suite a ((a, o3) :: (X.pn ++ pins))) C3 g1 g3 q g2
      · exact ld_blt (X := X.suite a ((a, o3) :: (X.pn ++ pins))) C3 g1 g3 g4 q g5 g2
    refine named (looks.here (codeAny_handlers_suite_as (HandSPX.lands_againZ fly3 fun hp4 fly4 up4 => ?_)))
    obtain ⟨o4, v4, get4, z4, data4⟩ := fly4.there
    have C4 := (I2.landed (s' := { sA with heap := hp4 }) ground fly4.1 ((upS.trans up3).trans up4) osE gensE).suite get4 data4 freeA offL offF
    refine store_ok (X := X.suite a ((a, o4) :: (X.pn ++ pins))) (v := .ref a) C4 nd hi (.inl hk) rfl (fun s5 C5 => ?_) (.inr hk)
    have hlt : i < τ.length := by rw [I2.len]; exact (List.getElem?_eq_some_iff.mp hi).1
    refine wpAny_mono ((hS a o4 (X.pn ++ pins)).run [] s5 _ G { nx := fun σ6 H6 => H6 = G ∧ σ6 = (τ.set i (some (.ref a))).set j (some (.ref a)), rt := fun _ _ => False } C5 ⟨.ref a, List.getElem?_set_self hlt, rfl, rfl⟩) ?_ (fun _ _ z => z.elim)
    rintro (_ | _ | _ | _) s6 fin
    case next =>
      obtain ⟨_, _, C6, rfl, rfl⟩ := fin
      refine gone_ok (X := X.suite a ((a, o4) :: (X.pn ++ pins))) C6 nd hi hk fun s7 C7 => ?_
      obtain ⟨get7, free7, _, _, notCell⟩ := C7.pin (a, o4) (List.mem_append_left _ (.head _))
      have I7 : Inv X pins _ _ s7 := C7.unsuite okX
      refine ⟨_, _, inv_track (a := a) (o := ExV cls a) I7 get7 free7 offL (fun y cc e z => ?_) gone0 (fun p hp z => ?_) ⟨⟨o4, v4, get7, z4, data4⟩, ⟨o4, get7⟩, fun _ _ ⟨o, v, q, r⟩ k => ⟨o, v, k o q, r⟩⟩, go a freeA⟩
      · obtain ⟨v, o, ho, hd⟩ := I7.cell y cc e
        rw [z, get7] at ho
        cases ho
        exact notCell v hd
      · have q := (I2.pin p hp).1
        rw [z, gone1] at q
        cases q
    all_goals
      first
        | (obtain ⟨_, _, _, z⟩ := fin; exact z.elim)
        | (obtain ⟨_, _, _, _, _, z⟩ := fin; exact z.elim)
  refine wpAny_mono ((hB _ _ catching caught PassesOwn.looking).run [] s σ H D (I0.toTry _) wish) ?_ (fun _ _ z => z)
  rintro (_ | _ | _ | _) s1 fin
  case next =>
    obtain ⟨σ1, H1, J1, q⟩ := fin
    exact wpAny_execs_nil ⟨σ1, H1, J1.ofTry okX, q⟩
  all_goals
    first
      | (obtain ⟨σ1, H1, J1, q⟩ := fin; exact ⟨σ1, H1, J1.ofTry okX, q⟩)
      | (obtain ⟨v1, σ1, H1, J1, rv, q⟩ := fin; exact ⟨v1, σ1, H1, J1.ofTry okX, rv, q⟩)
end
end DL
/-! The data layer: what readings make of plain data (D) and of cells (mutable lists, instances, dicts by number), heaps hidden. -/
namespace DL
open PySem PySem.Spec PyProof.Rows L2

inductive D where
  | non | bl (b : Bool) | int (i : Int) | str (x : Str) | lst (xs : List D) | tup (xs : List D) | cell (k : Nat) | scr (ns : List Int) | exc (x : Str)

inductive Cell where
  | lst (xs : List D)
  | ins (C : Addr) (fs : List (Str × D))
  | dK (kvs : List (Key × D))
  | gone
abbrev Store := List Cell
abbrev En := List (Option D)

def live (m : Store) (k : Nat) : Prop := ∃ c, m[k]? = some c ∧ c ≠ .gone

mutual
inductive Rep (K : PySem.W.Frag) (r : List Addr) (F : Hp) : V → D → Prop
  | non : Rep K r F .non .non
  | bl (b : Bool) : Rep K r F (.bl b) (.bl b)
  | int (i : Int) : Rep K r F (.int i) (.int i)
  | str (x : Str) : Rep K r F (.str x) (.str x)
  | lst {a : Addr} {xs : List V} {ds : List D} : F a = some (.lst xs) → RepAll K r F xs ds → Rep K r F (.ref a) (.lst ds)
  | tup {a : Addr} {xs : List V} {ds : List D} : F a = some (.tup xs) → RepAll K r F xs ds → Rep K r F (.ref a) (.tup ds)
  | cell {k : Nat} {a : Addr} : r[k]? = some a → Rep K r F (.ref a) (.cell k)
  | scr {a : Addr} {ns : List Int} : SqL K F a (ns.map V.int) → Rep K r F (.ref a) (.scr ns)
  | exc {a : Addr} {x : Str} : (F a = some (ExV (.ref (He.ga K x)) a) ∨ F a = some (ExO (.ref (He.ga K x)) a)) → Rep K r F (.ref a) (.exc x)
inductive RepAll (K : PySem.W.Frag) (r : List Addr) (F : Hp) : List V → List D → Prop
  | nil : RepAll K r F [] []
  | cons {v : V} {vs : List V} {d : D} {ds : List D} : Rep K r F v d → RepAll K r F vs ds → RepAll K r F (v :: vs) (d :: ds)
end

theorem sqT_same {K : PySem.W.Frag} {H H' : Hp} {a : Addr} {xs : List V} (e : Same H H') (h : SqT K H a xs) : SqT K H' a xs := by
  rcases h with (h | ⟨o, h⟩) | h
  · exact .inl (.inl (e _ _ h))
  · exact .inl (.inr ⟨o, e _ _ h⟩)
  · exact .inr h

def Pre (r r' : List Addr) : Prop := ∀ (k : Nat) a, r[k]? = some a → r'[k]? = some a
theorem Pre.refl (r : List Addr) : Pre r r := fun _ _ h => h
theorem Pre.trans {a b c : List Addr} (x : Pre a b) (y : Pre b c) : Pre a c := fun k z h => y k z (x k z h)
theorem Pre.app (r m : List Addr) : Pre r (r ++ m) := fun k a h => by
  have hk : k < r.length := (List.getElem?_eq_some_iff.mp h).1
  rw [List.getElem?_append_left hk]; exact h

section
variable {K : PySem.W.Frag} {r r' : List Addr} {F F' : Hp}
mutual
theorem Rep.mono (p : Pre r r') (e : Same F F') : ∀ {v : V} {d : D}, Rep K r F v d → Rep K r' F' v d
  | _, _, .non => .non
  | _, _, .bl b => .bl b
  | _, _, .int i => .int i
  | _, _, .str x => .str x
  | _, _, .lst s h => .lst (e _ _ s) (RepAll.mono p e h)
  | _, _, .tup s h => .tup (e _ _ s) (RepAll.mono p e h)
  | _, _, .cell h => .cell (p _ _ h)
  | _, _, .scr h => .scr (e.seq h)
  | _, _, .exc h => .exc (h.imp (e _ _) (e _ _))
theorem RepAll.mono (p : Pre r r') (e : Same F F') : ∀ {vs : List V} {ds : List D}, RepAll K r F vs ds → RepAll K r' F' vs ds
  | _, _, .nil => .nil
  | _, _, .cons h t => .cons (Rep.mono p e h) (RepAll.mono p e t)
end
end

mutual
/-- no cell stands in it -/
def D.pure : D → Bool
  | .lst xs => D.pures xs
  | .tup xs => D.pures xs
  | .cell _ => false
  | .exc _ => false
  | _ => true
def D.pures : List D → Bool
  | [] => true
  | d :: ds => D.pure d && D.pures ds
end
theorem pures_map {α : Type} {f : α → D} (h : ∀ x, (f x).pure = true) : ∀ xs : List α, D.pures (xs.map f) = true
  | [] => rfl
  | x :: xs => by
    show ((f x).pure && D.pures (xs.map f)) = true
    rw [h x, pures_map h xs]; rfl
section
variable {K : PySem.W.Frag} {r r' : List Addr} {F : Hp}
mutual
theorem Rep.pure : ∀ {v : V} {d : D}, d.pure = true → Rep K r F v d → Rep K r' F v d
  | _, _, _, .non => .non
  | _, _, _, .bl b => .bl b
  | _, _, _, .int i => .int i
  | _, _, _, .str x => .str x
  | _, _, p, .lst s h => .lst s (RepAll.pure p h)
  | _, _, p, .tup s h => .tup s (RepAll.pure p h)
  | _, _, p, .cell h => nomatch p
  | _, _, _, .scr h => .scr h
  | _, _, p, .exc h => nomatch p
theorem RepAll.pure : ∀ {vs : List V} {ds : List D}, D.pures ds = true → RepAll K r F vs ds → RepAll K r' F vs ds
  | _, _, _, .nil => .nil
  | _, _, p, .cons h t =>
    have q : (D.pure _ && D.pures _) = true := p
    .cons (Rep.pure (Bool.and_eq_true_iff.mp q).1 h) (RepAll.pure (Bool.and_eq_true_iff.mp q).2 t)
end
end

section
variable {K : PySem.W.Frag} {r : List Addr} {F : Hp}
theorem RepAll.len : ∀ {vs : List V} {ds : List D}, RepAll K r F vs ds → vs.length = ds.length
  | _, _, .nil => rfl
  | _, _, .cons _ t => congrArg Nat.succ t.len
theorem RepAll.get : ∀ {vs : List V} {ds : List D} {i : Nat} {d : D}, RepAll K r F vs ds → ds[i]? = some d → ∃ v, vs[i]? = some v ∧ Rep K r F v d
  | _, _, _, _, .nil, e => by simp at e
  | _, _, 0, _, .cons h _, e => by simp at e; subst e; exact ⟨_, rfl, h⟩
  | _, _, i + 1, d, .cons _ t, e => by
    obtain ⟨u, h1, h2⟩ := RepAll.get (i := i) (d := d) t (by simpa using e)
    exact ⟨u, by simpa using h1, h2⟩
theorem RepAll.getV : ∀ {vs : List V} {ds : List D} {i : Nat} {v : V}, RepAll K r F vs ds → vs[i]? = some v → ∃ d, ds[i]? = some d ∧ Rep K r F v d
  | _, _, _, _, .nil, e => by simp at e
  | _, _, 0, _, .cons h _, e => by simp at e; subst e; exact ⟨_, rfl, h⟩
  | _, _, i + 1, d, .cons _ t, e => by
    obtain ⟨u, h1, h2⟩ := RepAll.getV (i := i) (v := d) t (by simpa using e)
    exact ⟨u, by simpa using h1, h2⟩
theorem RepAll.app : ∀ {vs ws : List V} {ds es : List D}, RepAll K r F vs ds → RepAll K r F ws es → RepAll K r F (vs ++ ws) (ds ++ es)
  | _, _, _, _, .nil, h => h
  | _, _, _, _, .cons h t, h' => .cons h (t.app h')
theorem RepAll.one {v : V} {d : D} (h : Rep K r F v d) : RepAll K r F [v] [d] := .cons h .nil
theorem RepAll.set {v : V} {d : D} (h : Rep K r F v d) : ∀ {vs : List V} {ds : List D} (i : Nat), RepAll K r F vs ds → RepAll K r F (vs.set i v) (ds.set i d)
  | _, _, _, .nil => .nil
  | _, _, 0, .cons _ t => .cons h t
  | _, _, i + 1, .cons q t => .cons q (RepAll.set h i t)
theorem RepAll.take : ∀ {vs : List V} {ds : List D} (n : Nat), RepAll K r F vs ds → RepAll K r F (vs.take n) (ds.take n)
  | _, _, 0, _ => .nil
  | _, _, _ + 1, .nil => .nil
  | _, _, n + 1, .cons h t => .cons h (RepAll.take n t)
theorem RepAll.drop : ∀ {vs : List V} {ds : List D} (n : Nat), RepAll K r F vs ds → RepAll K r F (vs.drop n) (ds.drop n)
  | _, _, 0, h => h
  | _, _, _ + 1, .nil => .nil
  | _, _, n + 1, .cons _ t => RepAll.drop n t
theorem RepAll.rev : ∀ {vs : List V} {ds : List D}, RepAll K r F vs ds → RepAll K r F vs.reverse ds.reverse
  | _, _, .nil => .nil
  | _, _, .cons h t => by rw [List.reverse_cons, List.reverse_cons]; exact (RepAll.rev t).app (.one h)
theorem RepAll.rep {v : V} {d : D} (h : Rep K r F v d) : ∀ n : Nat, RepAll K r F (List.replicate n v) (List.replicate n d)
  | 0 => .nil
  | n + 1 => .cons h (RepAll.rep h n)
theorem RepAll.ints : ∀ {vs : List V} {ns : List Int}, RepAll K r F vs (ns.map D.int) → vs = ns.map V.int
  | _, [], .nil => rfl
  | _, _ :: _, .cons h t => by cases h; rw [RepAll.ints t]; rfl
theorem RepAll.ofInts : ∀ (ns : List Int), RepAll K r F (ns.map V.int) (ns.map D.int)
  | [] => .nil
  | n :: ns => .cons (.int n) (RepAll.ofInts ns)
theorem RepAll.bls : ∀ {vs : List V} {ns : List Bool}, RepAll K r F vs (ns.map D.bl) → vs = ns.map V.bl
  | _, [], .nil => rfl
  | _, _ :: _, .cons h t => by cases h; rw [RepAll.bls t]; rfl
end

/-! ### the heap -/
def RepF (K : PySem.W.Frag) (r : List Addr) (F : Hp) : List (Str × V) → List (Str × D) → Prop
  | [], [] => True
  | (x, v) :: gs, (y, d) :: fs => x = y ∧ Rep K r F v d ∧ RepF K r F gs fs
  | _, _ => False
def RepK (K : PySem.W.Frag) (r : List Addr) (F : Hp) : List (Key × V) → List (Key × D) → Prop
  | [], [] => True
  | (x, v) :: gs, (y, d) :: fs => x = y ∧ Rep K r F v d ∧ RepK K r F gs fs
  | _, _ => False
section
variable {K : PySem.W.Frag} {r r' : List Addr} {F F' : Hp}
theorem RepF.mono (p : Pre r r') (e : Same F F') : ∀ {gs : List (Str × V)} {fs : List (Str × D)}, RepF K r F gs fs → RepF K r' F' gs fs
  | [], [], _ => trivial
  | (x, v) :: gs, (y, d) :: fs, h => ⟨h.1, h.2.1.mono p e, RepF.mono p e h.2.2⟩
  | [], _ :: _, h => h.elim
  | _ :: _, [], h => h.elim
theorem RepK.mono (p : Pre r r') (e : Same F F') : ∀ {gs : List (Key × V)} {fs : List (Key × D)}, RepK K r F gs fs → RepK K r' F' gs fs
  | [], [], _ => trivial
  | (x, v) :: gs, (y, d) :: fs, h => ⟨h.1, h.2.1.mono p e, RepK.mono p e h.2.2⟩
  | [], _ :: _, h => h.elim
  | _ :: _, [], h => h.elim
end

def CellOk (K : PySem.W.Frag) (r : List Addr) (F H : Hp) (a : Addr) : Cell → Prop
  | .lst xs => ∃ vs, H a = some (.lst vs) ∧ RepAll K r F vs xs
  | .ins C fs => ∃ dx gs, H a = some (.ins C dx gs) ∧ H dx = some (.own a) ∧ RepF K r F gs fs
  | .dK kvs => ∃ gs, H a = some (.dK gs) ∧ RepK K r F gs kvs
  | .gone => True

structure HR (K : PySem.W.Frag) (r : List Addr) (F H : Hp) (m : Store) : Prop where
  len : r.length = m.length
  sub : Same F H
  cell : ∀ (k : Nat) a c, r[k]? = some a → m[k]? = some c → c ≠ .gone → F a = none ∧ CellOk K r F H a c
  inj : ∀ (k l : Nat) a, r[k]? = some a → r[l]? = some a → live m k → live m l → k = l

structure Ext (r : List Addr) (F H : Hp) (m : Store) (r' : List Addr) (F' H' : Hp) (m' : Store) : Prop where
  pre : Pre r r'
  sub : Same F F'
  keep : ∀ a o, H a = some o → (∀ (k : Nat), live m k → r[k]? ≠ some a) → H' a = some o
  new : ∀ a, F a = none → F' a ≠ none → H a = none ∨ ∃ k : Nat, live m k ∧ r[k]? = some a
  fresh : ∀ (k : Nat) a, m.length ≤ k → r'[k]? = some a → H a = none
  dead : ∀ k : Nat, k < m.length → live m' k → live m k
  mlen : m.length ≤ m'.length
  trk : ∀ a o, H a = some o → ∃ o', H' a = some o'

theorem live_lt {m : Store} {k : Nat} (h : live m k) : k < m.length := by
  obtain ⟨c, h, _⟩ := h
  exact (List.getElem?_eq_some_iff.mp h).1

section
variable {K : PySem.W.Frag} {r r1 r2 : List Addr} {F H F1 H1 F2 H2 : Hp} {m m1 m2 : Store}
theorem HR.at_some (h : HR K r F H m) {k : Nat} {a : Addr} (l : live m k) (e : r[k]? = some a) : ∃ o, H a = some o := by
  obtain ⟨c, hc, ng⟩ := l
  have q := (h.cell k a c e hc ng).2
  cases c with
  | lst xs => obtain ⟨vs, q, _⟩ := q; exact ⟨_, q⟩
  | ins C fs => obtain ⟨_, _, q, _⟩ := q; exact ⟨_, q⟩
  | dK kvs => obtain ⟨_, q, _⟩ := q; exact ⟨_, q⟩
  | gone => exact absurd rfl ng
theorem Ext.refl (h : HR K r F H m) : Ext r F H m r F H m where
  pre := Pre.refl r
  sub := Same.refl F
  keep := fun _ _ e _ => e
  new := fun _ n e => absurd n e
  fresh := fun k a hk e => by
    have := (List.getElem?_eq_some_iff.mp e).1
    rw [h.len] at this
    exact absurd this (Nat.not_lt.mpr hk)
  dead := fun _ _ l => l
  mlen := Nat.le_refl _
  trk := fun _ o e => ⟨o, e⟩
theorem Ext.trans (hl : r1.length = m1.length) (hl0 : r.length = m.length) (x : Ext r F H m r1 F1 H1 m1) (y : Ext r1 F1 H1 m1 r2 F2 H2 m2) : Ext r F H m r2 F2 H2 m2 := by
  have back : ∀ a o, H a = some o → (∀ (k : Nat), live m k → r[k]? ≠ some a) → ∀ (k : Nat), live m1 k → r1[k]? ≠ some a := fun a o e n k l q => by
    by_cases hk : k < m.length
    · have l0 := x.dead k hk l
      have hr : k < r.length := by rw [hl0]; exact hk
      have e1 : r[k]? = some r[k] := List.getElem?_eq_getElem hr
      have e2 := x.pre k _ e1
      rw [q] at e2
      exact n k l0 (by rw [e1, ← e2])
    · have := x.fresh k a (Nat.not_lt.mp hk) q
      rw [e] at this; cases this
  refine ⟨x.pre.trans y.pre, x.sub.trans y.sub, fun a o e n => y.keep a o (x.keep a o e n) (back a o e n), fun a n e => ?_, fun k a hk e => ?_, fun k hk l => x.dead k hk (y.dead k (Nat.lt_of_lt_of_le hk x.mlen) l), Nat.le_trans x.mlen y.mlen, fun a o e => let ⟨o1, e1⟩ := x.trk a o e; y.trk a o1 e1⟩
  · cases q : F1 a with
    | some o => exact x.new a n (by rw [q]; exact fun z => nomatch z)
    | none =>
      rcases y.new a q e with z | ⟨k, l, z⟩
      · cases w : H a with
        | none => exact .inl rfl
        | some o =>
          by_cases hn : ∀ (k : Nat), live m k → r[k]? ≠ some a
          · rw [x.keep a o w hn] at z; cases z
          · refine .inr ?_
            have ⟨k, hk⟩ := Classical.not_forall.mp hn
            have ⟨l, hk⟩ := Classical.not_imp.mp hk
            exact ⟨k, l, Classical.not_not.mp hk⟩
      · by_cases hk : k < m.length
        · have l0 := x.dead k hk l
          have hr : k < r.length := by rw [hl0]; exact hk
          have e1 : r[k]? = some r[k] := List.getElem?_eq_getElem hr
          have e2 := x.pre k _ e1
          rw [z] at e2
          exact .inr ⟨k, l0, by rw [e1, ← e2]⟩
        · exact .inl (x.fresh k a (Nat.not_lt.mp hk) z)
  · by_cases hk1 : m1.length ≤ k
    · have := y.fresh k a hk1 e
      cases w : H a with
      | none => rfl
      | some o =>
        obtain ⟨o1, e1⟩ := x.trk a o w
        rw [e1] at this; cases this
    · have hr : k < r1.length := by rw [hl]; omega
      have e1 : r1[k]? = some r1[k] := List.getElem?_eq_getElem hr
      have e2 := y.pre k _ e1
      rw [e] at e2
      exact x.fresh k a hk (by rw [e1, ← e2])
end
end DL
namespace DL
open PySem PySem.Spec PyProof.Rows L2

section
variable {K : PySem.W.Frag} {r r' : List Addr} {F F' H H' : Hp} {m m' : Store}
theorem CellOk.mono (p : Pre r r') (e : Same F F') {a : Addr} : ∀ {c : Cell}, CellOk K r F H a c → CellOk K r' F' H a c
  | .lst xs, ⟨vs, h, q⟩ => ⟨vs, h, q.mono p e⟩
  | .ins C fs, ⟨dx, gs, h, h2, q⟩ => ⟨dx, gs, h, h2, q.mono p e⟩
  | .dK kvs, ⟨gs, h, q⟩ => ⟨gs, h, q.mono p e⟩
  | .gone, _ => trivial
/-- the heap around the cell's own object may change -/
theorem CellOk.heap {a : Addr} (k : ∀ b o, H b = some o → (b = a ∨ o = .own a) → H' b = some o) : ∀ {c : Cell}, CellOk K r F H a c → CellOk K r F H' a c
  | .lst xs, ⟨vs, h, q⟩ => ⟨vs, k _ _ h (.inl rfl), q⟩
  | .ins C fs, ⟨dx, gs, h, h2, q⟩ => ⟨dx, gs, k _ _ h (.inl rfl), k _ _ h2 (.inr rfl), q⟩
  | .dK kvs, ⟨gs, h, q⟩ => ⟨gs, k _ _ h (.inl rfl), q⟩
  | .gone, _ => trivial

theorem HR.ne_new (h : HR K r F H m) {p : Addr} (hp : H p = none) {k : Nat} {a : Addr} (l : live m k) (e : r[k]? = some a) : a ≠ p := by
  obtain ⟨o, q⟩ := h.at_some l e
  exact ne_of_none q hp
/-- new data at a new place -/
theorem HR.laid (h : HR K r F H m) {p : Addr} {o : HO} (hp : H p = none) : HR K r (upd F p o) (upd H p o) m := by
  have fp : F p = none := h.sub.free hp
  have s1 : Same F (upd F p o) := fun b u e => by rw [upd_ne (ne_of_none e fp)]; exact e
  refine ⟨h.len, fun b u e => ?_, fun k a c e1 e2 ng => ?_, h.inj⟩
  · by_cases hb : b = p
    · subst hb; rw [upd_same] at e ⊢; exact e
    · rw [upd_ne hb] at e ⊢; exact h.sub b u e
  · have ne : a ≠ p := h.ne_new hp ⟨c, e2, ng⟩ e1
    obtain ⟨q1, q2⟩ := h.cell k a c e1 e2 ng
    refine ⟨by rw [upd_ne ne]; exact q1, (q2.mono (Pre.refl r) s1).heap fun b o' hb _ => ?_⟩
    rw [upd_ne (ne_of_none hb hp)]; exact hb
theorem Ext.laid (h : HR K r F H m) {p : Addr} {o : HO} (hp : H p = none) : Ext r F H m r (upd F p o) (upd H p o) m where
  pre := Pre.refl r
  sub := fun b u e => by rw [upd_ne (ne_of_none e (h.sub.free hp))]; exact e
  keep := fun a u e _ => by rw [upd_ne (ne_of_none e hp)]; exact e
  new := fun a n e => by
    by_cases ha : a = p
    · subst ha; exact .inl hp
    · rw [upd_ne ha] at e; exact absurd n e
  fresh := fun k a hk e => (Ext.refl h).fresh k a hk e
  dead := fun _ _ l => l
  mlen := Nat.le_refl _
  trk := fun a u e => ⟨u, by rw [upd_ne (ne_of_none e hp)]; exact e⟩
/-- a new place that is tracked, neither data nor cell -/
theorem HR.side (h : HR K r F H m) {p : Addr} {o : HO} (hp : H p = none) : HR K r F (upd H p o) m := by
  refine ⟨h.len, fun b u e => ?_, fun k a c e1 e2 ng => ?_, h.inj⟩
  · rw [upd_ne (ne_of_none (h.sub b u e) hp)]; exact h.sub b u e
  · obtain ⟨q1, q2⟩ := h.cell k a c e1 e2 ng
    exact ⟨q1, q2.heap fun b o' hb _ => by rw [upd_ne (ne_of_none hb hp)]; exact hb⟩
theorem Ext.side (h : HR K r F H m) {p : Addr} {o : HO} (hp : H p = none) : Ext r F H m r F (upd H p o) m where
  pre := Pre.refl r
  sub := Same.refl F
  keep := fun a u e _ => by rw [upd_ne (ne_of_none e hp)]; exact e
  new := fun a n e => absurd n e
  fresh := fun k a hk e => (Ext.refl h).fresh k a hk e
  dead := fun _ _ l => l
  mlen := Nat.le_refl _
  trk := fun a u e => ⟨u, by rw [upd_ne (ne_of_none e hp)]; exact e⟩
/-- a side place (neither data nor cell) changes -/
theorem HR.sideSet (h : HR K r F H m) {p : Addr} {o : HO} (fp : F p = none) (np : ∀ (k : Nat), live m k → r[k]? ≠ some p) (no : ∀ b, H p ≠ some (.own b)) : HR K r F (upd H p o) m := by
  refine ⟨h.len, fun b u e => ?_, fun k a c e1 e2 ng => ?_, h.inj⟩
  · rw [upd_ne (ne_of_none e fp)]; exact h.sub b u e
  · obtain ⟨q1, q2⟩ := h.cell k a c e1 e2 ng
    have na : a ≠ p := fun z => np k ⟨c, e2, ng⟩ (by rw [e1, z])
    refine ⟨q1, q2.heap fun b o' hb w => ?_⟩
    have : b ≠ p := by
      rintro rfl
      rcases w with w | w
      · exact na w.symm
      · subst w; exact no _ hb
    rw [upd_ne this]; exact hb
/-- what stands apart becomes data -/
theorem HR.freeze (h : HR K r F H m) {p : Addr} {o : HO} (fp : F p = none) (np : ∀ (k : Nat), live m k → r[k]? ≠ some p) (hp : H p = some o) : HR K r (upd F p o) H m := by
  have s1 : Same F (upd F p o) := fun b u e => by rw [upd_ne (ne_of_none e fp)]; exact e
  refine ⟨h.len, fun b u e => ?_, fun k a c e1 e2 ng => ?_, h.inj⟩
  · by_cases hb : b = p
    · subst hb; rw [upd_same] at e; rw [hp]; exact e
    · rw [upd_ne hb] at e; exact h.sub b u e
  · have na : a ≠ p := fun z => np k ⟨c, e2, ng⟩ (by rw [e1, z])
    obtain ⟨q1, q2⟩ := h.cell k a c e1 e2 ng
    exact ⟨by rw [upd_ne na]; exact q1, q2.mono (Pre.refl r) s1⟩
/-- .. becomes a cell -/
theorem live_app {m : Store} {c : Cell} {k : Nat} (l : live (m ++ [c]) k) : live m k ∨ k = m.length := by
  obtain ⟨c', e, ng⟩ := l
  by_cases hk : k < m.length
  · rw [List.getElem?_append_left hk] at e; exact .inl ⟨c', e, ng⟩
  · have : k < (m ++ [c]).length := (List.getElem?_eq_some_iff.mp e).1
    rw [List.length_append] at this
    have : k < m.length + 1 := this
    exact .inr (by omega)
theorem HR.toCell (h : HR K r F H m) {p : Addr} {c : Cell} (fp : F p = none) (np : ∀ (k : Nat), live m k → r[k]? ≠ some p) (hc : CellOk K r F H p c) : HR K (r ++ [p]) F H (m ++ [c]) := by
  have pr : Pre r (r ++ [p]) := Pre.app r [p]
  have last : (r ++ [p])[m.length]? = some p := by rw [← h.len]; simp
  have low : ∀ (k : Nat) a, k < m.length → (r ++ [p])[k]? = some a → r[k]? = some a := fun k a hk e => by
    rw [List.getElem?_append_left (by rw [h.len]; exact hk)] at e; exact e
  refine ⟨by simp [h.len], h.sub, fun k a c' e1 e2 ng => ?_, fun k l a e1 e2 l1 l2 => ?_⟩
  · rcases live_app ⟨c', e2, ng⟩ with l | rfl
    · have hk := live_lt l
      rw [List.getElem?_append_left hk] at e2
      obtain ⟨q1, q2⟩ := h.cell k a c' (low k a hk e1) e2 ng
      exact ⟨q1, q2.mono pr (Same.refl F)⟩
    · rw [last] at e1; cases e1
      have : (m ++ [c])[m.length]? = some c := by simp
      rw [this] at e2; cases e2
      exact ⟨fp, hc.mono pr (Same.refl F)⟩
  · rcases live_app l1 with z1 | rfl
    · have k1 := low k a (live_lt z1) e1
      rcases live_app l2 with z2 | rfl
      · exact h.inj k l a k1 (low l a (live_lt z2) e2) z1 z2
      · rw [last] at e2; cases e2; exact absurd k1 (np k z1)
    · rw [last] at e1; cases e1
      rcases live_app l2 with z2 | rfl
      · exact absurd (low l _ (live_lt z2) e2) (np l z2)
      · rfl
/-- a cell is written -/
theorem live_set {m : Store} {k l : Nat} {c : Cell} (hk : live m k) (h : live (m.set k c) l) : live m l := by
  by_cases e : k = l
  · subst e; exact hk
  · obtain ⟨c', e1, ng⟩ := h
    rw [List.getElem?_set_ne e] at e1
    exact ⟨c', e1, ng⟩
theorem HR.put (h : HR K r F H m) {k : Nat} {a : Addr} {c : Cell} {o : HO} (l : live m k) (e : r[k]? = some a) (no : ∀ b, H a ≠ some (.own b)) (hc : CellOk K r F (upd H a o) a c) : HR K r F (upd H a o) (m.set k c) := by
  obtain ⟨c0, e0, ng0⟩ := l
  have fa := (h.cell k a c0 e e0 ng0).1
  have hkl : k < m.length := live_lt ⟨c0, e0, ng0⟩
  refine ⟨by simp [h.len], fun b u q => ?_, fun l b c' e1 e2 ng => ?_, fun i j b e1 e2 l1 l2 => h.inj i j b e1 e2 (live_set ⟨c0, e0, ng0⟩ l1) (live_set ⟨c0, e0, ng0⟩ l2)⟩
  · rw [upd_ne (ne_of_none q fa)]; exact h.sub b u q
  · by_cases hl : k = l
    · subst hl
      rw [e] at e1; cases e1
      rw [List.getElem?_set_self hkl] at e2; cases e2
      exact ⟨fa, hc⟩
    · rw [List.getElem?_set_ne hl] at e2
      obtain ⟨q1, q2⟩ := h.cell l b c' e1 e2 ng
      have nb : b ≠ a := fun z => hl (h.inj k l a e (by rw [e1, z]) ⟨c0, e0, ng0⟩ ⟨c', e2, ng⟩)
      refine ⟨q1, q2.heap fun x o' hx w => ?_⟩
      have : x ≠ a := by
        rintro rfl
        rcases w with w | w
        · exact nb w.symm
        · subst w; exact no _ hx
      rw [upd_ne this]; exact hx
theorem Ext.put (h : HR K r F H m) {k : Nat} {a : Addr} {c : Cell} {o : HO} (l : live m k) (e : r[k]? = some a) : Ext r F H m r F (upd H a o) (m.set k c) where
  pre := Pre.refl r
  sub := Same.refl F
  keep := fun b u q n => by rw [upd_ne (fun z => n k l (by rw [e, z]))]; exact q
  new := fun a n e => absurd n e
  fresh := fun k a hk e => (Ext.refl h).fresh k a hk e
  dead := fun j _ z => live_set l z
  mlen := by simp
  trk := fun b u q => by
    by_cases hb : b = a
    · subst hb; exact ⟨_, upd_same⟩
    · exact ⟨u, by rw [upd_ne hb]; exact q⟩
/-- behind the work a place that was new becomes data, or a cell -/
theorem Ext.freeze (x : Ext r F H m r' F' H' m') {p : Addr} {o : HO} (fp : F' p = none) (n : H p = none) : Ext r F H m r' (upd F' p o) H' m' where
  pre := x.pre
  sub := fun b u e => by rw [upd_ne (ne_of_none (x.sub b u e) fp)]; exact x.sub b u e
  keep := x.keep
  new := fun a n' e => by
    by_cases ha : a = p
    · subst ha; exact .inl n
    · rw [upd_ne ha] at e; exact x.new a n' e
  fresh := x.fresh
  dead := x.dead
  mlen := x.mlen
  trk := x.trk
theorem Ext.toCell (x : Ext r F H m r' F' H' m') (hl : r'.length = m'.length) {p : Addr} {c : Cell} (n : H p = none) : Ext r F H m (r' ++ [p]) F' H' (m' ++ [c]) where
  pre := x.pre.trans (Pre.app _ _)
  sub := x.sub
  keep := x.keep
  new := x.new
  fresh := fun k a hk e => by
    by_cases hk1 : k < r'.length
    · rw [List.getElem?_append_left hk1] at e; exact x.fresh k a hk e
    · rw [List.getElem?_append_right (by omega)] at e
      have : a = p := by
        cases q : k - r'.length with
        | zero => rw [q] at e; simp at e; exact e.symm
        | succ j => rw [q] at e; simp at e
      rw [this]; exact n
  dead := fun k hk l => by
    rcases live_app l with z | rfl
    · exact x.dead k hk z
    · exact absurd x.mlen (by omega)
  mlen := by simp; exact Nat.le_succ_of_le x.mlen
  trk := x.trk
end

/-! ### the judgements -/
def ER (K : PySem.W.Frag) (r : List Addr) (F : Hp) (σ : L2.St) (δ : En) : Prop := σ.length = δ.length ∧ ∀ (i : Nat) d, δ[i]? = some (some d) → ∃ v, σ[i]? = some (some v) ∧ Rep K r F v d
theorem ER.mono {K : PySem.W.Frag} {r r' : List Addr} {F F' : Hp} {σ : L2.St} {δ : En} (p : Pre r r') (e : Same F F') (h : ER K r F σ δ) : ER K r' F' σ δ := ⟨h.1, fun i d q => let ⟨v, a, b⟩ := h.2 i d q; ⟨v, a, b.mono p e⟩⟩
theorem ER.ext {K : PySem.W.Frag} {r r' : List Addr} {F F' H H' : Hp} {m m' : Store} {σ : L2.St} {δ : En} (x : Ext r F H m r' F' H' m') (h : ER K r F σ δ) : ER K r' F' σ δ := h.mono x.pre x.sub
theorem ER.set {K : PySem.W.Frag} {r : List Addr} {F : Hp} {σ : L2.St} {δ : En} {v : V} {d : D} (h : ER K r F σ δ) (i : Nat) (q : Rep K r F v d) : ER K r F (σ.set i (some v)) (δ.set i (some d)) := by
  refine ⟨by simp [h.1], fun j e he => ?_⟩
  by_cases hj : i = j
  · subst hj
    have hl : i < (δ.set i (some d)).length := (List.getElem?_eq_some_iff.mp he).1
    rw [List.length_set] at hl
    rw [List.getElem?_set_self hl] at he
    cases he
    exact ⟨v, by rw [List.getElem?_set_self (by rw [h.1]; exact hl)], q⟩
  · rw [List.getElem?_set_ne hj] at he ⊢
    exact h.2 j e he
/-- what is forgotten -/
def Weak (δ δ' : En) : Prop := δ.length = δ'.length ∧ ∀ (i : Nat) d, δ'[i]? = some (some d) → δ[i]? = some (some d)
theorem ER.weak {K : PySem.W.Frag} {r : List Addr} {F : Hp} {σ : L2.St} {δ δ' : En} (h : ER K r F σ δ) (w : Weak δ δ') : ER K r F σ δ' := ⟨h.1.trans w.1, fun i d q => h.2 i d (w.2 i d q)⟩

theorem le5 {n : Nat} (h : Nat.ble n 100000 = true) : n ≤ 100000 := Nat.le_of_ble_eq_true h
abbrev Post1 (K : PySem.W.Frag) (r : List Addr) (F H : Hp) (m : Store) (d : D) (m' : Store) (Q : VK) : Prop := ∀ v r' F' H', HR K r' F' H' m' → Ext r F H m r' F' H' m' → Rep K r' F' v d → Q v H'
/-- a new list that nothing else holds -/
abbrev PostN (K : PySem.W.Frag) (r : List Addr) (F H : Hp) (m : Store) (ds : List D) (m' : Store) (Q : VK) : Prop := ∀ p vs r' F' H', HR K r' F' H' m' → Ext r F H m r' F' H' m' → H p = none → F' p = none → (∀ (k : Nat), live m' k → r'[k]? ≠ some p) → H' p = some (.lst vs) → RepAll K r' F' vs ds → Q (.ref p) H'
def YE (K : PySem.W.Frag) (t : TE) (δ : En) (m : Store) (d : D) (m' : Store) : Prop := ∀ r F H σ, HR K r F H m → ER K r F σ δ → ∀ Q : VK, Post1 K r F H m d m' Q → t σ H Q
def YN (K : PySem.W.Frag) (t : TE) (δ : En) (m : Store) (ds : List D) (m' : Store) : Prop := ∀ r F H σ, HR K r F H m → ER K r F σ δ → ∀ Q : VK, PostN K r F H m ds m' Q → t σ H Q
def YT (K : PySem.W.Frag) (t : TT) (δ : En) (m : Store) (b : Bool) (m' : Store) : Prop := ∀ r F H σ, HR K r F H m → ER K r F σ δ → ∀ Q : Bool → Hp → Prop, (∀ r' F' H', HR K r' F' H' m' → Ext r F H m r' F' H' m' → Q b H') → t σ H Q
def YA (K : PySem.W.Frag) (t : TA) (δ : En) (m : Store) (ds : List D) (m' : Store) : Prop := ∀ r F H σ, HR K r F H m → ER K r F σ δ → ∀ Q : List V → Hp → Prop, (∀ vs r' F' H', HR K r' F' H' m' → Ext r F H m r' F' H' m' → RepAll K r' F' vs ds → Q vs H') → t σ H Q
def YO (K : PySem.W.Frag) (t : TO) (δ : En) (m : Store) (o : Option Int) (m' : Store) : Prop := ∀ r F H σ, HR K r F H m → ER K r F σ δ → ∀ Q : Option Int → Hp → Prop, (∀ r' F' H', HR K r' F' H' m' → Ext r F H m r' F' H' m' → Q o H') → t σ H Q
/-- on values -/
def Y2 (K : PySem.W.Frag) (rr : R2) (d e : D) (m : Store) (z : D) (m' : Store) : Prop := ∀ r F H x y, HR K r F H m → Rep K r F x d → Rep K r F y e → ∀ Q : VK, Post1 K r F H m z m' Q → rr x y H Q
def Y2N (K : PySem.W.Frag) (rr : R2) (d e : D) (m : Store) (zs : List D) (m' : Store) : Prop := ∀ r F H x y, HR K r F H m → Rep K r F x d → Rep K r F y e → ∀ Q : VK, PostN K r F H m zs m' Q → rr x y H Q
def Y1 (K : PySem.W.Frag) (rr : V → Hp → VK → Prop) (d : D) (m : Store) (z : D) (m' : Store) : Prop := ∀ r F H x, HR K r F H m → Rep K r F x d → ∀ Q : VK, Post1 K r F H m z m' Q → rr x H Q
def YC (K : PySem.W.Frag) (rr : List V → Hp → VK → Prop) (ds : List D) (m : Store) (z : D) (m' : Store) : Prop := ∀ r F H vs, HR K r F H m → RepAll K r F vs ds → ∀ Q : VK, Post1 K r F H m z m' Q → rr vs H Q
def YCN (K : PySem.W.Frag) (rr : List V → Hp → VK → Prop) (ds : List D) (m : Store) (zs : List D) (m' : Store) : Prop := ∀ r F H vs, HR K r F H m → RepAll K r F vs ds → ∀ Q : VK, PostN K r F H m zs m' Q → rr vs H Q
def YM (K : PySem.W.Frag) (T : String) (rr : V → List V → Hp → VK → Prop) (d : D) (ds : List D) (m : Store) (z : D) (m' : Store) : Prop := ∀ r F H x vs, HR K r F H m → Rep K r F x d → RepAll K r F vs ds → ∀ Q : VK, Post1 K r F H m z m' Q → rr x vs H Q
def YMN (K : PySem.W.Frag) (T : String) (rr : V → List V → Hp → VK → Prop) (d : D) (ds : List D) (m : Store) (zs : List D) (m' : Store) : Prop := ∀ r F H x vs, HR K r F H m → Rep K r F x d → RepAll K r F vs ds → ∀ Q : VK, PostN K r F H m zs m' Q → rr x vs H Q

section
variable {K : PySem.W.Frag} {t ta tb tc : TE} {tt tu : TT} {tas : TA} {δ : En} {m m1 m2 m3 : Store} {d d1 d2 d3 : D} {ds : List D} {rr : R2}
/-- a new list taken as data, as a cell -/
theorem YN.data (h : YN K t δ m ds m1) : YE K t δ m (.lst ds) m1 := fun r F H σ hr er Q q => h r F H σ hr er Q fun p vs r' F' H' hr' x np fp nc hp ra => by
  have s1 : Same F' (upd F' p (.lst vs)) := fun b u e => by rw [upd_ne (ne_of_none e fp)]; exact e
  refine q (.ref p) r' (upd F' p (.lst vs)) H' (hr'.freeze fp nc hp) (x.freeze fp np) (.lst upd_same (ra.mono (Pre.refl _) s1))
theorem YN.cell (h : YN K t δ m ds m1) : YE K t δ m (.cell m1.length) (m1 ++ [.lst ds]) := fun r F H σ hr er Q q => h r F H σ hr er Q fun p vs r' F' H' hr' x np fp nc hp ra => by
  refine q (.ref p) (r' ++ [p]) F' H' (hr'.toCell fp nc ⟨vs, hp, ra⟩) (x.toCell hr'.len np) (.cell ?_)
  rw [← hr'.len]; simp
theorem ye_var {i : Nat} (h : δ[i]? = some (some d)) : YE K (tVar i) δ m d m := fun r F H σ hr er Q q => by
  obtain ⟨v, e, p⟩ := er.2 i d h
  exact ⟨v, e, q v r F H hr (Ext.refl hr) p⟩
theorem ye_int {i : Int} : YE K (tC (.int i)) δ m (.int i) m := fun r F H σ hr er Q q => q _ r F H hr (Ext.refl hr) (.int i)
theorem ye_bl {b : Bool} : YE K (tC (.bl b)) δ m (.bl b) m := fun r F H σ hr er Q q => q _ r F H hr (Ext.refl hr) (.bl b)
theorem ye_non : YE K (tC .non) δ m .non m := fun r F H σ hr er Q q => q _ r F H hr (Ext.refl hr) .non
theorem ye_str {x : Str} : YE K (tC (.str x)) δ m (.str x) m := fun r F H σ hr er Q q => q _ r F H hr (Ext.refl hr) (.str x)
theorem ye_op (ha : YE K ta δ m d1 m1) (hb : YE K tb δ m1 d2 m2) (h2 : Y2 K rr d1 d2 m2 d3 m3) : YE K (tOp rr ta tb) δ m d3 m3 := fun r F H σ hr er Q q =>
  ha r F H σ hr er _ fun x r1 F1 H1 hr1 x1 p1 => hb r1 F1 H1 σ hr1 (er.ext x1) _ fun y r2 F2 H2 hr2 x2 p2 =>
    h2 r2 F2 H2 x y hr2 (p1.mono x2.pre x2.sub) p2 Q fun v r3 F3 H3 hr3 x3 p3 => q v r3 F3 H3 hr3 ((x1.trans hr1.len hr.len x2).trans hr2.len hr.len x3) p3
theorem yn_op {zs : List D} (ha : YE K ta δ m d1 m1) (hb : YE K tb δ m1 d2 m2) (h2 : Y2N K rr d1 d2 m2 zs m3) : YN K (tOp rr ta tb) δ m zs m3 := fun r F H σ hr er Q q =>
  ha r F H σ hr er _ fun x r1 F1 H1 hr1 x1 p1 => hb r1 F1 H1 σ hr1 (er.ext x1) _ fun y r2 F2 H2 hr2 x2 p2 =>
    h2 r2 F2 H2 x y hr2 (p1.mono x2.pre x2.sub) p2 Q fun p vs r3 F3 H3 hr3 x3 np fp nc hp ra => q p vs r3 F3 H3 hr3 ((x1.trans hr1.len hr.len x2).trans hr2.len hr.len x3) (by
      cases e : H p with
      | none => rfl
      | some o =>
        obtain ⟨o', e'⟩ := (x1.trans hr1.len hr.len x2).trk p o e
        rw [e'] at np; cases np) fp nc hp ra
theorem ye_un {ru : V → Hp → VK → Prop} (ha : YE K ta δ m d1 m1) (h1 : Y1 K ru d1 m1 d2 m2) : YE K (tUn ru ta) δ m d2 m2 := fun r F H σ hr er Q q =>
  ha r F H σ hr er _ fun x r1 F1 H1 hr1 x1 p1 => h1 r1 F1 H1 x hr1 p1 Q fun v r2 F2 H2 hr2 x2 p2 => q v r2 F2 H2 hr2 (x1.trans hr1.len hr.len x2) p2
theorem ya_nil : YA K tNil δ m [] m := fun r F H σ hr er Q q => q [] r F H hr (Ext.refl hr) .nil
theorem ya_cons (ha : YE K ta δ m d m1) (hs : YA K tas δ m1 ds m2) : YA K (tCons ta tas) δ m (d :: ds) m2 := fun r F H σ hr er Q q =>
  ha r F H σ hr er _ fun x r1 F1 H1 hr1 x1 p1 => hs r1 F1 H1 σ hr1 (er.ext x1) _ fun vs r2 F2 H2 hr2 x2 p2 => q _ r2 F2 H2 hr2 (x1.trans hr1.len hr.len x2) (.cons (p1.mono x2.pre x2.sub) p2)
theorem ye_cb {rc : List V → Hp → VK → Prop} (ha : YA K tas δ m ds m1) (hc : YC K rc ds m1 d m2) : YE K (tCB rc tas) δ m d m2 := fun r F H σ hr er Q q =>
  ha r F H σ hr er _ fun vs r1 F1 H1 hr1 x1 p1 => hc r1 F1 H1 vs hr1 p1 Q fun v r2 F2 H2 hr2 x2 p2 => q v r2 F2 H2 hr2 (x1.trans hr1.len hr.len x2) p2
theorem trk_back {r r' : List Addr} {F H F' H' : Hp} {m m' : Store} (x : Ext r F H m r' F' H' m') {p : Addr} (np : H' p = none) : H p = none := by
  cases e : H p with
  | none => rfl
  | some o =>
    obtain ⟨o', e'⟩ := x.trk p o e
    rw [e'] at np; cases np
theorem yn_cb {rc : List V → Hp → VK → Prop} {zs : List D} (ha : YA K tas δ m ds m1) (hc : YCN K rc ds m1 zs m2) : YN K (tCB rc tas) δ m zs m2 := fun r F H σ hr er Q q =>
  ha r F H σ hr er _ fun vs r1 F1 H1 hr1 x1 p1 => hc r1 F1 H1 vs hr1 p1 Q fun p ws r2 F2 H2 hr2 x2 np fp nc hp ra => q p ws r2 F2 H2 hr2 (x1.trans hr1.len hr.len x2) (trk_back x1 np) fp nc hp ra
theorem ye_tup (ha : YA K tas δ m ds m1) (hl : ds.length ≤ 100000) : YE K (tTup tas) δ m (.tup ds) m1 := fun r F H σ hr er Q q =>
  ha r F H σ hr er _ fun vs r1 F1 H1 hr1 x1 p1 => ⟨Evl.sz_of (by rw [p1.len]; exact hl), fun p hp => q _ r1 _ _ (hr1.laid hp) (x1.trans hr1.len hr.len (Ext.laid hr1 hp)) (.tup upd_same (p1.mono (Pre.refl _) (Ext.laid hr1 hp).sub))⟩
theorem yn_lst (ha : YA K tas δ m ds m1) (hl : ds.length ≤ 100000) : YN K (tLst tas) δ m ds m1 := fun r F H σ hr er Q q =>
  ha r F H σ hr er _ fun vs r1 F1 H1 hr1 x1 p1 => ⟨Evl.sz_of (by rw [p1.len]; exact hl), fun p hp => q p vs r1 F1 _ (hr1.side hp) (x1.trans hr1.len hr.len (Ext.side hr1 hp)) (trk_back x1 hp) (hr1.sub.free hp) (fun k l e => (hr1.ne_new hp l e) rfl) upd_same p1⟩
theorem ye_andV {a b : Bool} (h1 : YE K ta δ m (.bl a) m1) (h2 : a = true → YE K tb δ m1 (.bl b) m1) : YE K (tAndV ta tb) δ m (.bl (a && b)) m1 := fun r F H σ hr er Q q =>
  h1 r F H σ hr er _ fun x r1 F1 H1 hr1 x1 p1 => by
    cases p1
    refine ⟨a, rfl, ?_⟩
    cases a with
    | true => exact h2 rfl r1 F1 H1 σ hr1 (er.ext x1) Q fun v r2 F2 H2 hr2 x2 p2 => q v r2 F2 H2 hr2 (x1.trans hr1.len hr.len x2) p2
    | false => exact q _ r1 F1 H1 hr1 x1 (.bl _)
theorem ye_orV {a b : Bool} (h1 : YE K ta δ m (.bl a) m1) (h2 : a = false → YE K tb δ m1 (.bl b) m1) : YE K (tOrV ta tb) δ m (.bl (a || b)) m1 := fun r F H σ hr er Q q =>
  h1 r F H σ hr er _ fun x r1 F1 H1 hr1 x1 p1 => by
    cases p1
    refine ⟨a, rfl, ?_⟩
    cases a with
    | false => exact h2 rfl r1 F1 H1 σ hr1 (er.ext x1) Q fun v r2 F2 H2 hr2 x2 p2 => q v r2 F2 H2 hr2 (x1.trans hr1.len hr.len x2) p2
    | true => exact q _ r1 F1 H1 hr1 x1 (.bl _)
theorem ye_notV {a : Bool} (h1 : YE K ta δ m (.bl a) m1) : YE K (tNotV ta) δ m (.bl (!a)) m1 := fun r F H σ hr er Q q =>
  h1 r F H σ hr er _ fun x r1 F1 H1 hr1 x1 p1 => by
    cases p1
    exact ⟨a, rfl, q _ r1 F1 H1 hr1 x1 (.bl _)⟩
theorem yt_test {a : Bool} (h1 : YE K ta δ m (.bl a) m1) : YT K (tTest ta) δ m a m1 := fun r F H σ hr er Q q =>
  h1 r F H σ hr er _ fun x r1 F1 H1 hr1 x1 p1 => by
    cases p1
    exact ⟨a, rfl, q r1 F1 H1 hr1 x1⟩
theorem yt_B {a : Bool} (h1 : YE K ta δ m (.bl a) m1) : YT K (tB ta) δ m a m1 := fun r F H σ hr er Q q =>
  h1 r F H σ hr er _ fun x r1 F1 H1 hr1 x1 p1 => by
    cases p1
    exact ⟨a, rfl, q r1 F1 H1 hr1 x1⟩
/-- and, or in tests: the second side's store by what the first tells -/
theorem yt_and {a b : Bool} (h1 : YT K tt δ m a m1) (h2 : a = true → YT K tu δ m1 b m2) (hf : a = false → m1 = m2) : YT K (tAnd tt tu) δ m (a && b) m2 := fun r F H σ hr er Q q =>
  h1 r F H σ hr er _ fun r1 F1 H1 hr1 x1 => by
    cases a with
    | true => exact h2 rfl r1 F1 H1 σ hr1 (er.ext x1) Q fun r2 F2 H2 hr2 x2 => q r2 F2 H2 hr2 (x1.trans hr1.len hr.len x2)
    | false => cases hf rfl; exact q r1 F1 H1 hr1 x1
theorem yt_or {a b : Bool} (h1 : YT K tt δ m a m1) (h2 : a = false → YT K tu δ m1 b m2) (hf : a = true → m1 = m2) : YT K (tOr tt tu) δ m (a || b) m2 := fun r F H σ hr er Q q =>
  h1 r F H σ hr er _ fun r1 F1 H1 hr1 x1 => by
    cases a with
    | false => exact h2 rfl r1 F1 H1 σ hr1 (er.ext x1) Q fun r2 F2 H2 hr2 x2 => q r2 F2 H2 hr2 (x1.trans hr1.len hr.len x2)
    | true => cases hf rfl; exact q r1 F1 H1 hr1 x1
theorem yt_not {a : Bool} (h1 : YT K tt δ m a m1) : YT K (tNot tt) δ m (!a) m1 := fun r F H σ hr er Q q =>
  h1 r F H σ hr er _ fun r1 F1 H1 hr1 x1 => q r1 F1 H1 hr1 x1
theorem ye_if {b : Bool} (h : YT K tt δ m b m1) (h1 : b = true → YE K ta δ m1 d m2) (h2 : b = false → YE K tb δ m1 d m2) : YE K (tIf tt ta tb) δ m d m2 := fun r F H σ hr er Q q =>
  h r F H σ hr er _ fun r1 F1 H1 hr1 x1 => by
    cases b with
    | true => exact h1 rfl r1 F1 H1 σ hr1 (er.ext x1) Q fun v r2 F2 H2 hr2 x2 p => q v r2 F2 H2 hr2 (x1.trans hr1.len hr.len x2) p
    | false => exact h2 rfl r1 F1 H1 σ hr1 (er.ext x1) Q fun v r2 F2 H2 hr2 x2 p => q v r2 F2 H2 hr2 (x1.trans hr1.len hr.len x2) p
theorem ye_chain {r1' r2' : R2} {a b : Bool} (ha : YE K ta δ m d1 m1) (hb : YE K tb δ m1 d2 m2) (h1 : Y2 K r1' d1 d2 m2 (.bl a) m2) (hc : a = true → YE K tc δ m2 d3 m2) (h2 : a = true → Y2 K r2' d2 d3 m2 (.bl b) m2) : YE K (tChain r1' r2' ta tb tc) δ m (.bl (a && b)) m2 := fun r F H σ hr er Q q =>
  ha r F H σ hr er _ fun x r1 F1 H1 hr1 x1 p1 => hb r1 F1 H1 σ hr1 (er.ext x1) _ fun y r2 F2 H2 hr2 x2 p2 =>
    h1 r2 F2 H2 x y hr2 (p1.mono x2.pre x2.sub) p2 _ fun z r3 F3 H3 hr3 x3 p3 => by
      cases p3
      have x13 := (x1.trans hr1.len hr.len x2).trans hr2.len hr.len x3
      refine ⟨a, rfl, ?_⟩
      cases a with
      | false => exact q _ r3 F3 H3 hr3 x13 (.bl _)
      | true =>
        show tc σ H3 fun w H4 => r2' y w H4 Q
        exact hc rfl r3 F3 H3 σ hr3 (er.ext x13) _ fun w r4 F4 H4 hr4 x4 p4 => h2 rfl r4 F4 H4 y w hr4 (p2.mono (x3.pre.trans x4.pre) (x3.sub.trans x4.sub)) p4 Q fun z r5 F5 H5 hr5 x5 p5 => q z r5 F5 H5 hr5 ((x13.trans hr3.len hr.len x4).trans hr4.len hr.len x5) p5
end
end DL
namespace DL
open PySem PySem.Spec PyProof.Rows L2

/-! ### data and PyData -/
mutual
def D.toPy : D → PyData
  | .non => .none
  | .bl b => .bool b
  | .int i => .int i
  | .str x => .str x
  | .lst xs => .list (D.toPys xs)
  | .tup xs => .tuple (D.toPys xs)
  | .cell _ => .none
  | .scr ns => .list (ns.map PyData.int)
  | .exc _ => .none
def D.toPys : List D → List PyData
  | [] => []
  | d :: ds => D.toPy d :: D.toPys ds
end
theorem dp_ints {K : PySem.W.Frag} {H : Hp} : ∀ ns : List Int, DpAll K H (ns.map V.int) (ns.map PyData.int)
  | [] => .nil
  | n :: ns => .cons (.int n) (dp_ints ns)
section
variable {K : PySem.W.Frag} {r : List Addr} {F H : Hp}
mutual
theorem Rep.dp (s : Same F H) : ∀ {v : V} {d : D}, d.pure = true → Rep K r F v d → Dp K H v d.toPy
  | _, _, _, .non => .non
  | _, _, _, .bl b => .bl b
  | _, _, _, .int i => .int i
  | _, _, _, .str x => .str x
  | _, _, p, .lst h t => .lst (SqL.of (s _ _ h)) (RepAll.dp s p t)
  | _, _, p, .tup h t => .tup (SqT.of (s _ _ h)) (RepAll.dp s p t)
  | _, _, p, .cell h => nomatch p
  | _, _, _, .scr h => .lst (s.seq h) (dp_ints _)
  | _, _, p, .exc h => nomatch p
theorem RepAll.dp (s : Same F H) : ∀ {vs : List V} {ds : List D}, D.pures ds = true → RepAll K r F vs ds → DpAll K H vs (D.toPys ds)
  | _, _, _, .nil => .nil
  | _, _, p, .cons h t =>
    have q : (D.pure _ && D.pures _) = true := p
    .cons (Rep.dp s (Bool.and_eq_true_iff.mp q).1 h) (RepAll.dp s (Bool.and_eq_true_iff.mp q).2 t)
end
end
def D.isNon : D → Bool
  | .non => true
  | _ => false

section
variable {K : PySem.W.Frag} {m : Store} {d e : D} {i j : Int}
/-- an answer that makes nothing -/
theorem post1 {r : List Addr} {F H : Hp} {v : V} {z : D} {Q : VK} (hr : HR K r F H m) (q : Post1 K r F H m z m Q) (p : Rep K r F v z) : Q v H := q v r F H hr (Ext.refl hr) p
theorem y_add : Y2 K (rI0 fun i j => .int (i + j)) (.int i) (.int j) m (.int (i + j)) m := fun r F H x y hr p1 p2 Q q => by
  cases p1; cases p2; exact ⟨i, j, rfl, rfl, post1 hr q (.int _)⟩
theorem y_sub : Y2 K (rI0 fun i j => .int (i - j)) (.int i) (.int j) m (.int (i - j)) m := fun r F H x y hr p1 p2 Q q => by
  cases p1; cases p2; exact ⟨i, j, rfl, rfl, post1 hr q (.int _)⟩
theorem y_mul (h : CMul i j) : Y2 K (rI CMul fun i j => .int (i * j)) (.int i) (.int j) m (.int (i * j)) m := fun r F H x y hr p1 p2 Q q => by
  cases p1; cases p2; exact ⟨i, j, rfl, rfl, h, post1 hr q (.int _)⟩
theorem y_fdiv (h : CDivW i j) : Y2 K (rI CDivW fun i j => .int (i / j)) (.int i) (.int j) m (.int (i / j)) m := fun r F H x y hr p1 p2 Q q => by
  cases p1; cases p2; exact ⟨i, j, rfl, rfl, h, post1 hr q (.int _)⟩
theorem y_mod (h : 0 < j) : Y2 K (rI (fun _ j => 0 < j) fun i j => .int (i % j)) (.int i) (.int j) m (.int (i % j)) m := fun r F H x y hr p1 p2 Q q => by
  cases p1; cases p2; exact ⟨i, j, rfl, rfl, h, post1 hr q (.int _)⟩
theorem y_pow {n : Nat} (h : CPow i (n : Int)) : Y2 K (rI CPow fun i j => .int (i ^ j.toNat)) (.int i) (.int (n : Int)) m (.int (i ^ n)) m := fun r F H x y hr p1 p2 Q q => by
  cases p1; cases p2; exact ⟨i, n, rfl, rfl, h, post1 hr q (.int _)⟩
theorem y_lt : Y2 K (rI0 fun i j => .bl (decide (i < j))) (.int i) (.int j) m (.bl (decide (i < j))) m := fun r F H x y hr p1 p2 Q q => by
  cases p1; cases p2; exact ⟨i, j, rfl, rfl, post1 hr q (.bl _)⟩
theorem y_le : Y2 K (rI0 fun i j => .bl (decide (i ≤ j))) (.int i) (.int j) m (.bl (decide (i ≤ j))) m := fun r F H x y hr p1 p2 Q q => by
  cases p1; cases p2; exact ⟨i, j, rfl, rfl, post1 hr q (.bl _)⟩
theorem y_gt : Y2 K (rI0 fun i j => .bl (decide (j < i))) (.int i) (.int j) m (.bl (decide (j < i))) m := fun r F H x y hr p1 p2 Q q => by
  cases p1; cases p2; exact ⟨i, j, rfl, rfl, post1 hr q (.bl _)⟩
theorem y_ge : Y2 K (rI0 fun i j => .bl (decide (j ≤ i))) (.int i) (.int j) m (.bl (decide (j ≤ i))) m := fun r F H x y hr p1 p2 Q q => by
  cases p1; cases p2; exact ⟨i, j, rfl, rfl, post1 hr q (.bl _)⟩
theorem dec_int (i j : Int) : decide (V.int i = V.int j) = decide (i = j) := by
  by_cases h : i = j
  · subst h; simp
  · rw [decide_eq_false h, decide_eq_false (fun q => h (V.int.inj q))]
theorem dec_bl (i j : Bool) : decide (V.bl i = V.bl j) = decide (i = j) := by
  by_cases h : i = j
  · subst h; simp
  · rw [decide_eq_false h, decide_eq_false (fun q => h (V.bl.inj q))]
theorem dec_str (i j : Str) : decide (V.str i = V.str j) = decide (i = j) := by
  by_cases h : i = j
  · subst h; simp
  · rw [decide_eq_false h, decide_eq_false (fun q => h (V.str.inj q))]
theorem y_eqI : Y2 K rEq (.int i) (.int j) m (.bl (decide (i = j))) m := fun r F H x y hr p1 p2 Q q => by
  cases p1; cases p2; refine ⟨rfl, ?_⟩; rw [dec_int]; exact post1 hr q (.bl _)
theorem y_neI : Y2 K rNe (.int i) (.int j) m (.bl (!decide (i = j))) m := fun r F H x y hr p1 p2 Q q => by
  cases p1; cases p2; refine ⟨rfl, ?_⟩; rw [dec_int]; exact post1 hr q (.bl _)
theorem y_eqB {a b : Bool} : Y2 K rEq (.bl a) (.bl b) m (.bl (decide (a = b))) m := fun r F H x y hr p1 p2 Q q => by
  cases p1; cases p2; refine ⟨rfl, ?_⟩; rw [dec_bl]; exact post1 hr q (.bl _)
theorem y_neB {a b : Bool} : Y2 K rNe (.bl a) (.bl b) m (.bl (!decide (a = b))) m := fun r F H x y hr p1 p2 Q q => by
  cases p1; cases p2; refine ⟨rfl, ?_⟩; rw [dec_bl]; exact post1 hr q (.bl _)
theorem y_eqS {a b : Str} : Y2 K rEq (.str a) (.str b) m (.bl (decide (a = b))) m := fun r F H x y hr p1 p2 Q q => by
  cases p1; cases p2; refine ⟨rfl, ?_⟩; rw [dec_str]; exact post1 hr q (.bl _)
theorem y_neS {a b : Str} : Y2 K rNe (.str a) (.str b) m (.bl (!decide (a = b))) m := fun r F H x y hr p1 p2 Q q => by
  cases p1; cases p2; refine ⟨rfl, ?_⟩; rw [dec_str]; exact post1 hr q (.bl _)
theorem y_isN : Y2 K (fun x y H Q => y = .non ∧ Q (.bl (decide (x = .non))) H) d .non m (.bl d.isNon) m := fun r F H x y hr p1 p2 Q q => by
  cases p2
  refine ⟨rfl, ?_⟩
  have : decide (x = V.non) = d.isNon := by cases p1 <;> rfl
  rw [this]; exact post1 hr q (.bl _)
theorem y_notN : Y2 K (fun x y H Q => y = .non ∧ Q (.bl (!decide (x = .non))) H) d .non m (.bl (!d.isNon)) m := fun r F H x y hr p1 p2 Q q => by
  cases p2
  refine ⟨rfl, ?_⟩
  have : decide (x = V.non) = d.isNon := by cases p1 <;> rfl
  rw [this]; exact post1 hr q (.bl _)
/-- == of data at any depth, of pure data or of what cells hold -/
inductive Pd (m : Store) : D → PyData → Prop
  | pure {d : D} : d.pure = true → Pd m d d.toPy
  | cell {k : Nat} {xs : List D} : m[k]? = some (.lst xs) → D.pures xs = true → Pd m (.cell k) (.list (D.toPys xs))
theorem Pd.dp {r : List Addr} {F H : Hp} {v : V} {p : PyData} (hr : HR K r F H m) (h : Pd m d p) (q : Rep K r F v d) : Dp K H v p := by
  cases h with
  | pure hp => exact q.dp hr.sub hp
  | cell hk hp =>
    cases q with
    | cell e =>
      obtain ⟨_, vs, h1, h2⟩ := hr.cell _ _ _ e hk (fun z => nomatch z)
      exact .lst (SqL.of h1) (h2.dp hr.sub hp)
theorem y_eqD {p q : PyData} (h1 : Pd m d p) (h2 : Pd m e q) (s1 : SeqAt.shaped p = true) (s2 : SeqAt.shaped q = true) : Y2 K (rEqD K) d e m (.bl (PyData.eqv p q)) m := fun r F H x y hr p1 p2 Q k =>
  ⟨_, _, h1.dp hr p1, h2.dp hr p2, s1, s2, post1 hr k (.bl _)⟩
theorem y_neD {p q : PyData} (h1 : Pd m d p) (h2 : Pd m e q) (s1 : SeqAt.shaped p = true) (s2 : SeqAt.shaped q = true) : Y2 K (rNeD K) d e m (.bl (!PyData.eqv p q)) m := fun r F H x y hr p1 p2 Q k =>
  ⟨_, _, h1.dp hr p1, h2.dp hr p2, s1, s2, post1 hr k (.bl _)⟩

/-! ### items -/
theorem atI_len {α β : Type} {xs : List α} {ys : List β} (h : xs.length = ys.length) {i : Int} {y : β} (e : atI ys i = some y) : ∃ j : Nat, ys[j]? = some y ∧ atI xs i = xs[j]? := by
  unfold atI at e ⊢
  rw [h]
  cases q : ixN ys.length i with
  | none => rw [q] at e; cases e
  | some j => rw [q] at e; exact ⟨j, e, rfl⟩
theorem RepAll.atI {r : List Addr} {F : Hp} {vs : List V} {ds : List D} {i : Int} (h : RepAll K r F vs ds) (e : L2.atI ds i = some d) : ∃ v, L2.atI vs i = some v ∧ Rep K r F v d := by
  obtain ⟨j, e1, e2⟩ := atI_len h.len e
  obtain ⟨v, e3, p⟩ := h.get e1
  exact ⟨v, by rw [e2, e3], p⟩
theorem y_ixT {ds : List D} (h : L2.atI ds i = some d) : Y2 K (rIxT K) (.tup ds) (.int i) m d m := fun r F H x y hr p1 p2 Q q => by
  cases p2
  cases p1 with
  | tup hs ha =>
    obtain ⟨v, e, p⟩ := ha.atI h
    exact ⟨_, _, i, v, rfl, rfl, SqT.of (hr.sub _ _ hs), e, post1 hr q p⟩
theorem y_ixL {ds : List D} (h : L2.atI ds i = some d) : Y2 K (rIxL K) (.lst ds) (.int i) m d m := fun r F H x y hr p1 p2 Q q => by
  cases p2
  cases p1 with
  | lst hs ha =>
    obtain ⟨v, e, p⟩ := ha.atI h
    exact ⟨_, _, i, v, rfl, rfl, SqL.of (hr.sub _ _ hs), e, post1 hr q p⟩
theorem y_ixC {k : Nat} {ds : List D} (hk : m[k]? = some (.lst ds)) (h : L2.atI ds i = some d) : Y2 K (rIxL K) (.cell k) (.int i) m d m := fun r F H x y hr p1 p2 Q q => by
  cases p2
  cases p1 with
  | cell ea =>
    obtain ⟨_, vs, h1, h2⟩ := hr.cell _ _ _ ea hk (fun z => nomatch z)
    obtain ⟨v, e, p⟩ := h2.atI h
    exact ⟨_, _, i, v, rfl, rfl, SqL.of h1, e, post1 hr q p⟩
theorem y_ixS {ns : List Int} {n : Int} (h : L2.atI ns i = some n) : Y2 K (rIxL K) (.scr ns) (.int i) m (.int n) m := fun r F H x y hr p1 p2 Q q => by
  cases p2
  cases p1 with
  | scr hs =>
    obtain ⟨j, e1, e2⟩ := atI_len (xs := ns.map V.int) (by simp) h
    refine ⟨_, _, i, .int n, rfl, rfl, hr.sub.seq hs, ?_, post1 hr q (.int n)⟩
    rw [e2, List.getElem?_map, e1]; rfl

/-! ### built-ins on values -/
theorem y_max2 : YC K (fun xs H Q => ∃ i j, xs = [.int i, .int j] ∧ Q (.int (if j > i then j else i)) H) [.int i, .int j] m (.int (max i j)) m := fun r F H vs hr p Q q => by
  cases p with
  | cons p1 p => cases p with
    | cons p2 p => cases p; cases p1; cases p2
                   have e : (if j > i then j else i) = max i j := by split <;> omega
                   refine ⟨i, j, rfl, ?_⟩; rw [e]; exact post1 hr q (.int _)
theorem y_min2 : YC K (fun xs H Q => ∃ i j, xs = [.int i, .int j] ∧ Q (.int (if j < i then j else i)) H) [.int i, .int j] m (.int (min i j)) m := fun r F H vs hr p Q q => by
  cases p with
  | cons p1 p => cases p with
    | cons p2 p => cases p; cases p1; cases p2
                   have e : (if j < i then j else i) = min i j := by split <;> omega
                   refine ⟨i, j, rfl, ?_⟩; rw [e]; exact post1 hr q (.int _)
theorem nu_max (i j : Int) : nuMax2 (.int i) (.int j) = some (.int (max i j)) := by
  unfold nuMax2
  show (nuLt (.int i) (.int j)).map _ = _
  have : nuLt (.int i) (.int j) = some (decide (i < j)) := rfl
  rw [this]
  show some (if decide (i < j) = true then V.int j else V.int i) = _
  by_cases h : i < j
  · rw [decide_eq_true h, if_pos rfl, show max i j = j by omega]
  · rw [decide_eq_false h, if_neg Bool.false_ne_true, show max i j = i by omega]
theorem nu_min (i j : Int) : nuMin2 (.int i) (.int j) = some (.int (min i j)) := by
  unfold nuMin2
  show (nuLt (.int j) (.int i)).map _ = _
  have : nuLt (.int j) (.int i) = some (decide (j < i)) := rfl
  rw [this]
  show some (if decide (j < i) = true then V.int j else V.int i) = _
  by_cases h : j < i
  · rw [decide_eq_true h, if_pos rfl, show min i j = j by omega]
  · rw [decide_eq_false h, if_neg Bool.false_ne_true, show min i j = i by omega]
theorem y_max3 {k : Int} : YC K (rNuC3 nuMax3) [.int i, .int j, .int k] m (.int (max (max i j) k)) m := fun r F H vs hr p Q q => by
  cases p with
  | cons p1 p => cases p with
    | cons p2 p => cases p with
      | cons p3 p => cases p; cases p1; cases p2; cases p3
                     refine ⟨_, _, _, .int (max (max i j) k), rfl, ?_, post1 hr q (.int _)⟩
                     unfold nuMax3
                     rw [nu_max]
                     show nuMax2 _ _ = _
                     rw [nu_max]
theorem y_min3 {k : Int} : YC K (rNuC3 nuMin3) [.int i, .int j, .int k] m (.int (min (min i j) k)) m := fun r F H vs hr p Q q => by
  cases p with
  | cons p1 p => cases p with
    | cons p2 p => cases p with
      | cons p3 p => cases p; cases p1; cases p2; cases p3
                     refine ⟨_, _, _, .int (min (min i j) k), rfl, ?_, post1 hr q (.int _)⟩
                     unfold nuMin3
                     rw [nu_min]
                     show nuMin2 _ _ = _
                     rw [nu_min]
theorem y_lenL {ds : List D} : YC K (Evl.rLenS K) [.lst ds] m (.int ds.length) m := fun r F H vs hr p Q q => by
  cases p with
  | cons p1 p => cases p; cases p1 with
    | lst hs ha =>
      refine ⟨_, _, rfl, .inl (SqL.of (hr.sub _ _ hs)), ?_⟩
      rw [ha.len]; exact post1 hr q (.int _)
theorem y_lenT {ds : List D} : YC K (Evl.rLenS K) [.tup ds] m (.int ds.length) m := fun r F H vs hr p Q q => by
  cases p with
  | cons p1 p => cases p; cases p1 with
    | tup hs ha =>
      refine ⟨_, _, rfl, .inr (SqT.of (hr.sub _ _ hs)), ?_⟩
      rw [ha.len]; exact post1 hr q (.int _)
theorem y_lenC {k : Nat} {ds : List D} (hk : m[k]? = some (.lst ds)) : YC K (Evl.rLenS K) [.cell k] m (.int ds.length) m := fun r F H vs hr p Q q => by
  cases p with
  | cons p1 p => cases p; cases p1 with
    | cell ea =>
      obtain ⟨_, vs, h1, h2⟩ := hr.cell _ _ _ ea hk (fun z => nomatch z)
      refine ⟨_, _, rfl, .inl (SqL.of h1), ?_⟩
      rw [h2.len]; exact post1 hr q (.int _)
theorem y_lenS {ns : List Int} : YC K (Evl.rLenS K) [.scr ns] m (.int ns.length) m := fun r F H vs hr p Q q => by
  cases p with
  | cons p1 p => cases p; cases p1 with
    | scr hs =>
      refine ⟨_, _, rfl, .inl (hr.sub.seq hs), ?_⟩
      rw [List.length_map]; exact post1 hr q (.int _)
theorem ye_bits {te : TE} {δ : En} {m1 : Store} (h : YE K te δ m (.int i) m1) : YE K (tBits te) δ m (.int (Builtin.Int.intBits i : Nat)) m1 := fun r F H σ hr er Q q =>
  h r F H σ hr er _ fun x r1 F1 H1 hr1 x1 p1 => by
    cases p1
    exact ⟨i, rfl, q _ r1 F1 H1 hr1 x1 (.int _)⟩
end

/-! ### the lists of two, joined; repeated; slices -/
section
variable {K : PySem.W.Frag} {m : Store} {d e : D} {i j : Int}
/-- what is read as a list of H: data, or a cell's -/
inductive IsL (m : Store) : D → List D → Prop
  | lst {ds : List D} : IsL m (.lst ds) ds
  | cell {k : Nat} {ds : List D} : m[k]? = some (.lst ds) → IsL m (.cell k) ds
theorem IsL.get {r : List Addr} {F H : Hp} {v : V} {ds : List D} (h : IsL m d ds) (hr : HR K r F H m) (p : Rep K r F v d) : ∃ a vs, v = .ref a ∧ H a = some (.lst vs) ∧ RepAll K r F vs ds := by
  cases h with
  | lst => cases p with
    | lst hs ha => exact ⟨_, _, rfl, hr.sub _ _ hs, ha⟩
  | cell hk => cases p with
    | cell ea =>
      obtain ⟨_, vs, h1, h2⟩ := hr.cell _ _ _ ea hk (fun z => nomatch z)
      exact ⟨_, _, rfl, h1, h2⟩
theorem postN {r : List Addr} {F H : Hp} {zs : List D} {vs : List V} {Q : VK} {p : Addr} (hr : HR K r F H m) (q : PostN K r F H m zs m Q) (hp : H p = none) (ra : RepAll K r F vs zs) : Q (.ref p) (upd H p (.lst vs)) :=
  q p vs r F _ (hr.side hp) (Ext.side hr hp) hp (hr.sub.free hp) (fun k l e => (hr.ne_new hp l e) rfl) upd_same ra
theorem y_cat {xs ys : List D} (h1 : IsL m d xs) (h2 : IsL m e ys) (hl : xs.length + ys.length ≤ 100000) : Y2N K rCat d e m (xs ++ ys) m := fun r F H x y hr p1 p2 Q q => by
  obtain ⟨a, vs, rfl, e1, r1⟩ := h1.get hr p1
  obtain ⟨b, ws, rfl, e2, r2⟩ := h2.get hr p2
  exact ⟨a, b, vs, ws, rfl, rfl, e1, e2, Evl.sz_of (by rw [r1.len, r2.len]; exact hl), fun p hp => postN hr q hp (r1.app r2)⟩
theorem lenD {xs : List D} (h1 : IsL m d xs) : YC K (Evl.rLenS K) [d] m (.int xs.length) m := by
  cases h1 with
  | lst => exact y_lenL
  | cell hk => exact y_lenC hk
end
end DL
namespace DL
open PySem PySem.Spec PyProof.Rows L2

/-! ### statements -/
inductive Out where
  | nx (δ : En) (m : Store)
  | rt (d : D) (m : Store)
  | bk (δ : En) (m : Store)
  | ct (δ : En) (m : Store)
  | ex (C : Value) (δ : En) (m : Store)
def OutOk (K : PySem.W.Frag) (W : WX) (r : List Addr) (F H : Hp) (m : Store) (D : Ends) : Out → Prop
  | .nx δ' m' => ∀ σ' r' F' H', HR K r' F' H' m' → ER K r' F' σ' δ' → Ext r F H m r' F' H' m' → D.nx σ' H'
  | .rt d m' => ∀ v r' F' H', HR K r' F' H' m' → Ext r F H m r' F' H' m' → Rep K r' F' v d → D.rt v H'
  | .bk δ' m' => ∀ σ' r' F' H', HR K r' F' H' m' → ER K r' F' σ' δ' → Ext r F H m r' F' H' m' → D.bk σ' H'
  | .ct δ' m' => ∀ σ' r' F' H', HR K r' F' H' m' → ER K r' F' σ' δ' → Ext r F H m r' F' H' m' → D.ct σ' H'
  | .ex C δ' m' => ∀ σ' r' F' H', HR K r' F' H' m' → ER K r' F' σ' δ' → Ext r F H m r' F' H' m' → W C none σ' H'
def YS (K : PySem.W.Frag) (W : WX) (t : TS) (δ : En) (m : Store) (o : Out) : Prop := ∀ r F H σ D, HR K r F H m → ER K r F σ δ → OutOk K W r F H m D o → t D σ H
/-- a target: the slots change, the heap does not -/
def YG (K : PySem.W.Frag) (g : TG) (d : D) (δ δ' : En) : Prop := ∀ r F H m σ v, HR K r F H m → ER K r F σ δ → Rep K r F v d → ∀ Q : L2.St → Hp → Prop, (∀ σ', ER K r F σ' δ' → Q σ' H) → g v σ H Q
def YGs (K : PySem.W.Frag) (g : TGs) (ds : List D) (δ δ' : En) : Prop := ∀ r F H m σ vs, HR K r F H m → ER K r F σ δ → RepAll K r F vs ds → ∀ Q : L2.St → Hp → Prop, (∀ σ', ER K r F σ' δ' → Q σ' H) → g vs σ H Q

section
variable {K : PySem.W.Frag} {W : WX} {te ta tb : TE} {tt : TT} {t u : TS} {g : TG} {gs : TGs} {δ δ1 δ2 : En} {m m1 m2 m3 : Store} {d e : D} {o : Out}
theorem OutOk.ext {r r1 : List Addr} {F H F1 H1 : Hp} {D : Ends} (hr : r.length = m.length) (hr1 : r1.length = m1.length) (x : Ext r F H m r1 F1 H1 m1) : ∀ {o : Out}, OutOk K W r F H m D o → OutOk K W r1 F1 H1 m1 D o
  | .nx _ _, q => fun σ' r' F' H' h e y => q σ' r' F' H' h e (x.trans hr1 hr y)
  | .rt _ _, q => fun v r' F' H' h y p => q v r' F' H' h (x.trans hr1 hr y) p
  | .bk _ _, q => fun σ' r' F' H' h e y => q σ' r' F' H' h e (x.trans hr1 hr y)
  | .ct _ _, q => fun σ' r' F' H' h e y => q σ' r' F' H' h e (x.trans hr1 hr y)
  | .ex _ _ _, q => fun σ' r' F' H' h e y => q σ' r' F' H' h e (x.trans hr1 hr y)
theorem YS.of_eq {o' : Out} (h : YS K W t δ m o) (e : o = o') : YS K W t δ m o' := e ▸ h
theorem ys_next : YS K W tNext δ m (.nx δ m) := fun r F H σ D hr er q => q σ r F H hr er (Ext.refl hr)
theorem ys_seq (h1 : YS K W t δ m (.nx δ1 m1)) (h2 : YS K W u δ1 m1 o) : YS K W (tSeq t u) δ m o := fun r F H σ D hr er q =>
  h1 r F H σ { D with nx := u D } hr er fun σ1 r1 F1 H1 hr1 er1 x1 => h2 r1 F1 H1 σ1 D hr1 er1 (q.ext hr.len hr1.len x1)
/-- the first statement leaves -/
def Out.leaves : Out → Bool
  | .nx _ _ => false
  | _ => true
theorem ys_seqX (h1 : YS K W t δ m o) (hl : o.leaves = true) : YS K W (tSeq t u) δ m o := fun r F H σ D hr er q =>
  h1 r F H σ { D with nx := u D } hr er (by cases o with
    | nx _ _ => cases hl
    | rt _ _ => exact q
    | bk _ _ => exact q
    | ct _ _ => exact q
    | ex _ _ _ => exact q)
theorem yg_name {i : Nat} : YG K (gName i) d δ (δ.set i (some d)) := fun r F H m σ v hr er p Q q => q _ (er.set i p)
theorem ygs_nil : YGs K gNil [] δ δ := fun r F H m σ vs hr er p Q q => by cases p; exact ⟨rfl, q σ er⟩
theorem ygs_cons {ds : List D} (h : YG K g d δ δ1) (hs : YGs K gs ds δ1 δ2) : YGs K (gCons g gs) (d :: ds) δ δ2 := fun r F H m σ vs hr er p Q q => by
  cases p with
  | cons p1 p2 => exact ⟨_, _, rfl, h r F H m σ _ hr er p1 _ fun σ1 er1 => hs r F H m σ1 _ hr er1 p2 Q q⟩
theorem yg_tup {ds : List D} {n : Nat} (hl : ds.length = n) (h : YGs K gs ds δ δ1) : YG K (gTup K n gs) (.tup ds) δ δ1 := fun r F H m σ v hr er p Q q => by
  cases p with
  | tup hs ha => exact ⟨_, _, rfl, SqT.of (hr.sub _ _ hs), ha.len.trans hl, h r F H m σ _ hr er ha Q q⟩
theorem ys_asg (he : YE K te δ m d m1) (hg : YG K g d δ δ1) : YS K W (tAsg te g) δ m (.nx δ1 m1) := fun r F H σ D hr er q =>
  he r F H σ hr er _ fun v r1 F1 H1 hr1 x1 p1 => hg r1 F1 H1 m1 σ v hr1 (er.ext x1) p1 _ fun σ1 er1 => q σ1 r1 F1 H1 hr1 er1 x1
theorem ys_set {i : Nat} (he : YE K te δ m d m1) : YS K W (tAsg te (gName i)) δ m (.nx (δ.set i (some d)) m1) := ys_asg he yg_name
theorem ys_expr (he : YE K te δ m d m1) : YS K W (tDrop te) δ m (.nx δ m1) := fun r F H σ D hr er q =>
  he r F H σ hr er _ fun v r1 F1 H1 hr1 x1 p1 => q σ r1 F1 H1 hr1 (er.ext x1) x1
theorem ys_ret (he : YE K te δ m d m1) : YS K W (tRet te) δ m (.rt d m1) := fun r F H σ D hr er q =>
  he r F H σ hr er _ fun v r1 F1 H1 hr1 x1 p1 => q v r1 F1 H1 hr1 x1 p1
theorem ys_retN : YS K W tRetN δ m (.rt .non m) := fun r F H σ D hr er q => q .non r F H hr (Ext.refl hr) .non
theorem ys_break : YS K W tBreak δ m (.bk δ m) := fun r F H σ D hr er q => q σ r F H hr er (Ext.refl hr)
theorem ys_cont : YS K W tCont δ m (.ct δ m) := fun r F H σ D hr er q => q σ r F H hr er (Ext.refl hr)
theorem ys_if {b : Bool} (h : YT K tt δ m b m1) (h1 : b = true → YS K W t δ m1 o) (h2 : b = false → YS K W u δ m1 o) : YS K W (tIfS tt t u) δ m o := fun r F H σ D hr er q =>
  h r F H σ hr er _ fun r1 F1 H1 hr1 x1 => by
    cases b with
    | true => exact h1 rfl r1 F1 H1 σ D hr1 (er.ext x1) (q.ext hr.len hr1.len x1)
    | false => exact h2 rfl r1 F1 H1 σ D hr1 (er.ext x1) (q.ext hr.len hr1.len x1)
theorem ys_ifT (h : YT K tt δ m true m1) (h1 : YS K W t δ m1 o) : YS K W (tIfS tt t u) δ m o := ys_if h (fun _ => h1) (fun z => nomatch z)
theorem ys_ifF (h : YT K tt δ m false m1) (h1 : YS K W u δ m1 o) : YS K W (tIfS tt t u) δ m o := ys_if h (fun z => nomatch z) (fun _ => h1)
/-- both ways, told by the test -/
theorem ys_ite {b : Bool} {o1 o2 : Out} (h : YT K tt δ m b m1) (h1 : b = true → YS K W t δ m1 o1) (h2 : b = false → YS K W u δ m1 o2) : YS K W (tIfS tt t u) δ m (if b = true then o1 else o2) := by
  cases b with
  | true => exact ys_ifT h (h1 rfl)
  | false => exact ys_ifF h (h2 rfl)
theorem YS.weak {δ' : En} (h : YS K W t δ m (.nx δ1 m1)) (w : Weak δ1 δ') : YS K W t δ m (.nx δ' m1) := fun r F H σ D hr er q =>
  h r F H σ D hr er fun σ' r' F' H' h1 e1 x => q σ' r' F' H' h1 (e1.weak w) x
theorem YS.pre {δ' : En} (w : Weak δ' δ) (h : YS K W t δ m o) : YS K W t δ' m o := fun r F H σ D hr er q => h r F H σ D hr (er.weak w) q
/-- xs[i] = e of a cell -/
theorem ixN_get {n : Nat} {i : Int} {j : Nat} (h : ixN n i = some j) : j < n := by
  unfold ixN at h
  split at h
  · split at h
    · cases h; omega
    · cases h
  · split at h
    · cases h; omega
    · cases h
theorem ys_setC {to ti : TE} {k : Nat} {i : Int} {j : Nat} {xs : List D} (he : YE K te δ m d m1) (ho : YE K to δ m1 (.cell k) m2) (hi : YE K ti δ m2 (.int i) m3) (hk : m3[k]? = some (.lst xs)) (hj : ixN xs.length i = some j) :
    YS K W (tAsg te (gSub to ti rSetL)) δ m (.nx δ (m3.set k (.lst (xs.set j d)))) := fun r F H σ D hr er q =>
  he r F H σ hr er _ fun v r1 F1 H1 hr1 x1 p1 => ho r1 F1 H1 σ hr1 (er.ext x1) _ fun ov r2 F2 H2 hr2 x2 p2 => hi r2 F2 H2 σ hr2 ((er.ext x1).ext x2) _ fun iv r3 F3 H3 hr3 x3 p3 => by
    cases p3
    have x13 := (x1.trans hr1.len hr.len x2).trans hr2.len hr.len x3
    have p2' := p2.mono x3.pre x3.sub
    have p1' := (p1.mono x2.pre x2.sub).mono x3.pre x3.sub
    cases p2' with
    | cell ea =>
      obtain ⟨_, vs, h1, h2⟩ := hr3.cell _ _ _ ea hk (fun z => nomatch z)
      have lv : live m3 k := ⟨_, hk, fun z => nomatch z⟩
      refine ⟨_, vs, i, j, rfl, rfl, h1, by rw [h2.len]; exact hj, ?_⟩
      refine q σ r3 F3 _ (hr3.put lv ea (fun b z => by rw [h1] at z; cases z) ⟨_, upd_same, h2.set p1' j⟩) (er.ext x13) (x13.trans hr3.len hr.len (Ext.put hr3 lv ea))
/-- xs.append(e) of a cell -/
theorem ye_append {to : TE} {k : Nat} {xs ys : List D} (ho : YE K to δ m (.cell k) m1) (hk0 : m1[k]? = some (.lst ys)) (he : YE K te δ m1 d m2) (hk : m2[k]? = some (.lst xs)) (hl : xs.length < 100000) :
    YE K (tBM K "list" rAppend to (tCons te tNil)) δ m .non (m2.set k (.lst (xs ++ [d]))) := fun r F H σ hr er Q q =>
  ho r F H σ hr er _ fun ov r1 F1 H1 hr1 x1 p1 => by
    have tyv : tyV K "list" ov H1 := by
      cases p1 with
      | cell ea =>
        obtain ⟨_, vs, h1, h2⟩ := hr1.cell _ _ _ ea hk0 (fun z => nomatch z)
        exact .inl ⟨rfl, vs, SqL.of h1⟩
    refine ⟨tyv, ?_⟩
    refine he r1 F1 H1 σ hr1 (er.ext x1) _ fun v r2 F2 H2 hr2 x2 p2 => ?_
    have p1' := p1.mono x2.pre x2.sub
    have x12 := x1.trans hr1.len hr.len x2
    cases p1' with
    | cell ea =>
      obtain ⟨_, vs, h1, h2⟩ := hr2.cell _ _ _ ea hk (fun z => nomatch z)
      have lv : live m2 k := ⟨_, hk, fun z => nomatch z⟩
      refine ⟨_, vs, v, rfl, rfl, h1, Evl.sz_lt (by rw [h2.len]; exact hl), ?_⟩
      exact q _ r2 F2 _ (hr2.put lv ea (fun b z => by rw [h1] at z; cases z) ⟨_, upd_same, h2.app (.one p2)⟩) (x12.trans hr2.len hr.len (Ext.put hr2 lv ea)) .non
end

/-! ### what is walked -/
/-- the iterator J yields xs, one by one, while C holds of the store -/
def ItOk (K : PySem.W.Frag) (C : Store → Prop) (J : It) (r : List Addr) (F : Hp) (xs : List D) : Prop := ∀ r' F' H' m', Pre r r' → Same F F' → HR K r' F' H' m' → C m' → ∀ i : Nat,
  (∀ d, xs[i]? = some d → J.go i H' ∧ ∀ x H'', J.yld i H' x H'' → ∃ F'', HR K r' F'' H'' m' ∧ Ext r' F' H' m' r' F'' H'' m' ∧ Rep K r' F'' x d) ∧ (xs.length ≤ i → J.stop i H')
def YI (K : PySem.W.Frag) (C : Store → Prop) (wi : TI) (δ : En) (m : Store) (xs : List D) (m' : Store) : Prop := ∀ r F H σ, HR K r F H m → ER K r F σ δ → ∀ R : It → Hp → Prop,
  (∀ J r' F' H', HR K r' F' H' m' → Ext r F H m r' F' H' m' → ItOk K C J r' F' xs → R J H') → wi σ H R
abbrev Any : Store → Prop := fun _ => True
section
variable {K : PySem.W.Frag} {W : WX} {te ta tb : TE} {tt : TT} {t u : TS} {g : TG} {gs : TGs} {δ δ1 δ2 : En} {m m1 m2 m3 : Store} {d e : D} {o : Out} {tas : TA}
theorem yi_list {xs : List D} (h : YE K te δ m (.lst xs) m1) : YI K Any (iList K te) δ m xs m1 := fun r F H σ hr er R q =>
  h r F H σ hr er _ fun v r1 F1 H1 hr1 x1 p1 => by
    cases p1 with
    | lst hs ha =>
      refine ⟨_, rfl, ⟨_, SqL.of (hr1.sub _ _ hs)⟩, q _ r1 F1 H1 hr1 x1 fun r' F' H' m' pr sm hr' _ i => ?_⟩
      have hH := hr'.sub _ _ (sm _ _ hs)
      refine ⟨fun d hd => ?_, fun hi => ⟨_, SqL.of hH, by rw [ha.len]; exact hi⟩⟩
      obtain ⟨v, e1, p⟩ := ha.get hd
      refine ⟨⟨_, v, SqL.of hH, e1⟩, fun x H'' y => ?_⟩
      obtain ⟨rfl, y⟩ := y
      have := y _ (SqL.of hH)
      rw [e1] at this; cases this
      exact ⟨F', hr', Ext.refl hr', p.mono pr sm⟩
theorem yi_cell {xs : List D} {k : Nat} (h : YE K te δ m (.cell k) m1) (hk : m1[k]? = some (.lst xs)) : YI K (fun m' => m'[k]? = some (.lst xs)) (iList K te) δ m xs m1 := fun r F H σ hr er R q =>
  h r F H σ hr er _ fun v r1 F1 H1 hr1 x1 p1 => by
    cases p1 with
    | cell ea =>
      obtain ⟨_, ws, h1, _⟩ := hr1.cell _ _ _ ea hk (fun z => nomatch z)
      refine ⟨_, rfl, ⟨_, SqL.of h1⟩, q _ r1 F1 H1 hr1 x1 fun r' F' H' m' pr sm hr' hC i => ?_⟩
      obtain ⟨_, vs, hH, ha⟩ := hr'.cell _ _ _ (pr _ _ ea) hC (fun z => nomatch z)
      refine ⟨fun d hd => ?_, fun hi => ⟨_, SqL.of hH, by rw [ha.len]; exact hi⟩⟩
      obtain ⟨v, e1, p⟩ := ha.get hd
      refine ⟨⟨_, v, SqL.of hH, e1⟩, fun x H'' y => ?_⟩
      obtain ⟨rfl, y⟩ := y
      have := y _ (SqL.of hH)
      rw [e1] at this; cases this
      exact ⟨F', hr', Ext.refl hr', p⟩
theorem yi_scr {ns : List Int} (h : YE K te δ m (.scr ns) m1) : YI K Any (iList K te) δ m (ns.map D.int) m1 := fun r F H σ hr er R q =>
  h r F H σ hr er _ fun v r1 F1 H1 hr1 x1 p1 => by
    cases p1 with
    | scr hs =>
      refine ⟨_, rfl, ⟨_, hr1.sub.seq hs⟩, q _ r1 F1 H1 hr1 x1 fun r' F' H' m' pr sm hr' _ i => ?_⟩
      have hH := hr'.sub.seq (sm.seq hs)
      refine ⟨fun d hd => ?_, fun hi => ⟨_, hH, by rw [List.length_map] at hi ⊢; exact hi⟩⟩
      rw [List.getElem?_map] at hd
      cases e1 : ns[i]? with
      | none => rw [e1] at hd; cases hd
      | some n =>
        rw [e1] at hd; cases hd
        have e2 : (ns.map V.int)[i]? = some (.int n) := by rw [List.getElem?_map, e1]; rfl
        refine ⟨⟨_, _, hH, e2⟩, fun x H'' y => ?_⟩
        obtain ⟨rfl, y⟩ := y
        have := y _ hH
        rw [e2] at this; cases this
        exact ⟨F', hr', Ext.refl hr', .int n⟩
theorem yi_tup {xs : List D} (h : YE K te δ m (.tup xs) m1) : YI K Any (iTup K te) δ m xs m1 := fun r F H σ hr er R q =>
  h r F H σ hr er _ fun v r1 F1 H1 hr1 x1 p1 => by
    cases p1 with
    | tup hs ha =>
      refine ⟨_, rfl, ⟨_, SqT.of (hr1.sub _ _ hs)⟩, q _ r1 F1 H1 hr1 x1 fun r' F' H' m' pr sm hr' _ i => ?_⟩
      have hH := SqT.of (K := K) (hr'.sub _ _ (sm _ _ hs))
      refine ⟨fun d hd => ?_, fun hi => ⟨_, hH, by rw [ha.len]; exact hi⟩⟩
      obtain ⟨v, e1, p⟩ := ha.get hd
      refine ⟨⟨_, v, hH, e1⟩, fun x H'' y => ?_⟩
      obtain ⟨rfl, y⟩ := y
      have := y _ hH
      rw [e1] at this; cases this
      exact ⟨F', hr', Ext.refl hr', p.mono pr sm⟩
/-- range(n) -/
def rng (lo : Int) (n : Nat) : List D := (List.range n).map fun i : Nat => D.int (lo + (i : Int))
theorem rng_get {lo : Int} {n i : Nat} {d : D} (h : (rng lo n)[i]? = some d) : i < n ∧ d = .int (lo + (i : Int)) := by
  unfold rng at h
  rw [List.getElem?_map] at h
  by_cases hi : i < n
  · rw [List.getElem?_range hi] at h; cases h; exact ⟨hi, rfl⟩
  · rw [List.getElem?_eq_none (by simpa using hi)] at h; cases h
theorem rng_len (lo : Int) (n : Nat) : (rng lo n).length = n := by simp [rng]
theorem itr_ok {C : Store → Prop} {lo : Int} {n : Nat} {r : List Addr} {F : Hp} : ItOk K C (Itr lo n) r F (rng lo n) := fun r' F' H' m' pr sm hr' _ i =>
  ⟨fun d hd => by
    obtain ⟨hi, rfl⟩ := rng_get hd
    refine ⟨hi, fun x H'' y => ?_⟩
    obtain ⟨rfl, rfl⟩ := y
    exact ⟨F', hr', Ext.refl hr', .int _⟩, fun hi => by rw [rng_len] at hi; exact hi⟩
theorem yi_range1 {n : Int} (h : YA K tas δ m [.int n] m1) (hn : -(2 ^ 62) ≤ n ∧ n < 2 ^ 62) : YI K Any (iRng1 tas) δ m (rng 0 n.toNat) m1 := fun r F H σ hr er R q =>
  h r F H σ hr er _ fun vs r1 F1 H1 hr1 x1 p1 => by
    cases p1 with
    | cons p p1 => cases p1; cases p; exact ⟨n, rfl, hn.1, hn.2, q _ r1 F1 H1 hr1 x1 itr_ok⟩
theorem yi_range2 {a b : Int} (h : YA K tas δ m [.int a, .int b] m1) (hn : -(2 ^ 62) ≤ a ∧ a < 2 ^ 62 ∧ -(2 ^ 62) ≤ b ∧ b < 2 ^ 62) : YI K Any (iRng2 tas) δ m (rng a (b - a).toNat) m1 := fun r F H σ hr er R q =>
  h r F H σ hr er _ fun vs r1 F1 H1 hr1 x1 p1 => by
    cases p1 with
    | cons p p1 => cases p1 with
      | cons p' p1 => cases p1; cases p; cases p'; exact ⟨a, b, rfl, hn, q _ r1 F1 H1 hr1 x1 itr_ok⟩

/-! ### for -/
/-- how a turn that leaves the loop ends it -/
inductive LoopX : Out → Out → Prop
  | rt {d : D} {m : Store} : LoopX (.rt d m) (.rt d m)
  | bk {δ : En} {m : Store} : LoopX (.bk δ m) (.nx δ m)
  | ex {C : Value} {δ : En} {m : Store} : LoopX (.ex C δ m) (.ex C δ m)
/-- a turn's end -/
inductive TurnX (δ : En) (m : Store) : Out → Prop
  | nx {δ' : En} : Weak δ' δ → TurnX δ m (.nx δ' m)
  | ct {δ' : En} : Weak δ' δ → TurnX δ m (.ct δ' m)
theorem ys_forG {C : Store → Prop} {wi : TI} {xs : List D} (hi : YI K C wi δ m xs m1) (n : Nat) (δs : Nat → En) (ms : Nat → Store) (h0 : Weak δ (δs 0)) (e0 : ms 0 = m1) (hC : ∀ i, i ≤ n → C (ms i)) (hn : n ≤ xs.length)
    (step : ∀ i d, i < n → xs[i]? = some d → ∃ δ' o', YG K g d (δs i) δ' ∧ YS K W t δ' (ms i) o' ∧ TurnX (δs (i + 1)) (ms (i + 1)) o')
    (last : (n = xs.length ∧ o = .nx (δs n) (ms n)) ∨ ∃ d δ' o', xs[n]? = some d ∧ YG K g d (δs n) δ' ∧ YS K W t δ' (ms n) o' ∧ LoopX o' o) : YS K W (tFor wi g t) δ m o := fun r F H σ D hr er q =>
  hi r F H σ hr er _ fun J r1 F1 H1 hr1 x1 ok => by
    subst e0
    let Pv : Nat → L2.St → Hp → Prop := fun i σ' H' => ∃ r' F', HR K r' F' H' (ms i) ∧ ER K r' F' σ' (δs i) ∧ Ext r F H m r' F' H' (ms i) ∧ Pre r1 r' ∧ Same F1 F'
    refine ⟨fun i mm σ' H' => mm = xs.length - i ∧ i ≤ n ∧ Pv i σ' H', ⟨xs.length, by simp, Nat.zero_le _, r1, F1, hr1, (er.ext x1).weak h0, x1, Pre.refl _, Same.refl _⟩, ?_⟩
    rintro i mm σ' H' ⟨rfl, hin, r', F', hr', er', x', pr', sm'⟩
    obtain ⟨go, stop⟩ := ok r' F' H' (ms i) pr' sm' hr' (hC i hin) i
    have body : ∀ (d : DL.D) (δ' : En) (o' : Out) (N : L2.St → Hp → Prop) x H'', YG K g d (δs i) δ' → YS K W t δ' (ms i) o' → (∃ F'', HR K r' F'' H'' (ms i) ∧ Ext r' F' H' (ms i) r' F'' H'' (ms i) ∧ Rep K r' F'' x d) →
        (∀ r2 F2 H2, Ext r F H m r2 F2 H2 (ms i) → r2.length = (ms i).length → Pre r1 r2 → Same F1 F2 → OutOk K W r2 F2 H2 (ms i) { D with nx := N, ct := N, bk := D.nx } o') → g x σ' H'' fun σ2 H2 => t { D with nx := N, ct := N, bk := D.nx } σ2 H2 := by
      rintro d δ' o' N x H'' hg hs ⟨F'', hr2, x2, p2⟩ hq
      refine hg r' F'' H'' (ms i) σ' x hr2 (er'.ext x2) p2 _ fun σ2 er2 => hs r' F'' H'' σ2 _ hr2 er2 (hq r' F'' H'' (x'.trans hr'.len hr.len x2) hr2.len pr' (sm'.trans x2.sub))
    by_cases hlt : i < n
    · have hx : i < xs.length := Nat.lt_of_lt_of_le hlt hn
      have ed : xs[i]? = some xs[i] := List.getElem?_eq_getElem hx
      obtain ⟨hgo, hy⟩ := go _ ed
      obtain ⟨δ', o', hg, hs, hT⟩ := step i _ hlt ed
      refine .inr ⟨hgo, Pv (i + 1), fun σ2 H2 p2 => ⟨xs.length - (i + 1), by omega, rfl, hlt, p2⟩, fun x H'' y => body _ δ' o' _ x H'' hg hs (hy x H'' y) fun r2 F2 H2 x2 l2 pr2 sm2 => ?_⟩
      cases hT with
      | nx w => exact fun σ3 r3 F3 H3 hr3 er3 x3 => ⟨r3, F3, hr3, er3.weak w, x2.trans l2 hr.len x3, pr2.trans x3.pre, sm2.trans x3.sub⟩
      | ct w => exact fun σ3 r3 F3 H3 hr3 er3 x3 => ⟨r3, F3, hr3, er3.weak w, x2.trans l2 hr.len x3, pr2.trans x3.pre, sm2.trans x3.sub⟩
    · have hi' : i = n := by omega
      subst hi'
      rcases last with ⟨e, rfl⟩ | ⟨d, δ', o', ed, hg, hs, hX⟩
      · exact .inl ⟨stop (by omega), q σ' r' F' H' hr' er' x'⟩
      · obtain ⟨hgo, hy⟩ := go _ ed
        refine .inr ⟨hgo, fun _ _ => False, fun σ2 H2 p2 => p2.elim, fun x H'' y => body _ δ' o' _ x H'' hg hs (hy x H'' y) fun r2 F2 H2 x2 l2 pr2 sm2 => ?_⟩
        cases hX with
        | rt => exact fun v r3 F3 H3 hr3 x3 p3 => q v r3 F3 H3 hr3 (x2.trans l2 hr.len x3) p3
        | bk => exact fun σ3 r3 F3 H3 hr3 er3 x3 => q σ3 r3 F3 H3 hr3 er3 (x2.trans l2 hr.len x3)
        | ex => exact fun σ3 r3 F3 H3 hr3 er3 x3 => q σ3 r3 F3 H3 hr3 er3 (x2.trans l2 hr.len x3)
/-- while: st by the turn's number -/
theorem ys_while (n : Nat) (δs : Nat → En) (ms : Nat → Store) (h0 : Weak δ (δs 0)) (e0 : ms 0 = m)
    (step : ∀ i, i < n → ∃ m1 o', YT K tt (δs i) (ms i) true m1 ∧ YS K W t (δs i) m1 o' ∧ TurnX (δs (i + 1)) (ms (i + 1)) o')
    (last : (∃ m1, YT K tt (δs n) (ms n) false m1 ∧ o = .nx (δs n) m1) ∨ ∃ m1 o', YT K tt (δs n) (ms n) true m1 ∧ YS K W t (δs n) m1 o' ∧ LoopX o' o) : YS K W (tWhile tt t) δ m o := fun r F H σ D hr er q => by
    subst e0
    let Pv : Nat → L2.St → Hp → Prop := fun i σ' H' => ∃ r' F', HR K r' F' H' (ms i) ∧ ER K r' F' σ' (δs i) ∧ Ext r F H (ms 0) r' F' H' (ms i)
    refine ⟨fun mm σ' H' => ∃ i, mm = n - i ∧ i ≤ n ∧ Pv i σ' H', ⟨n, 0, by simp, Nat.zero_le _, r, F, hr, er.weak h0, Ext.refl hr⟩, ?_⟩
    rintro mm σ' H' ⟨i, rfl, hin, r', F', hr', er', x'⟩
    by_cases hlt : i < n
    · obtain ⟨m1, o', ht, hs, hT⟩ := step i hlt
      refine ht r' F' H' σ' hr' er' _ fun r2 F2 H2 hr2 x2 => ?_
      rw [if_pos rfl]
      refine ⟨Pv (i + 1), fun σ3 H3 p3 => ⟨n - (i + 1), by omega, i + 1, rfl, hlt, p3⟩, hs r2 F2 H2 σ' _ hr2 (er'.ext x2) ?_⟩
      have x02 := x'.trans hr'.len hr.len x2
      cases hT with
      | nx w => exact fun σ3 r3 F3 H3 hr3 er3 x3 => ⟨r3, F3, hr3, er3.weak w, x02.trans hr2.len hr.len x3⟩
      | ct w => exact fun σ3 r3 F3 H3 hr3 er3 x3 => ⟨r3, F3, hr3, er3.weak w, x02.trans hr2.len hr.len x3⟩
    · have hi' : i = n := by omega
      subst hi'
      rcases last with ⟨m1, ht, rfl⟩ | ⟨m1, o', ht, hs, hX⟩
      · refine ht r' F' H' σ' hr' er' _ fun r2 F2 H2 hr2 x2 => ?_
        rw [if_neg Bool.false_ne_true]
        exact q σ' r2 F2 H2 hr2 (er'.ext x2) (x'.trans hr'.len hr.len x2)
      · refine ht r' F' H' σ' hr' er' _ fun r2 F2 H2 hr2 x2 => ?_
        rw [if_pos rfl]
        have x02 := x'.trans hr'.len hr.len x2
        refine ⟨fun _ _ => False, fun σ3 H3 p3 => p3.elim, hs r2 F2 H2 σ' _ hr2 (er'.ext x2) ?_⟩
        cases hX with
        | rt => exact fun v r3 F3 H3 hr3 x3 p3 => q v r3 F3 H3 hr3 (x02.trans hr2.len hr.len x3) p3
        | bk => exact fun σ3 r3 F3 H3 hr3 er3 x3 => q σ3 r3 F3 H3 hr3 er3 (x02.trans hr2.len hr.len x3)
        | ex => exact fun σ3 r3 F3 H3 hr3 er3 x3 => q σ3 r3 F3 H3 hr3 er3 (x02.trans hr2.len hr.len x3)
end
end DL
namespace DL
open PySem PySem.Spec PyProof.Rows L2

/-! ### comprehensions -/
theorem wipe_get {σ : L2.St} {i : Nat} : ∀ {vs : List Nat}, (wipe σ vs)[i]? = if i ∈ vs then (if i < σ.length then some none else none) else σ[i]?
  | [] => by simp [wipe]
  | v :: vs => by
    unfold wipe
    by_cases hv : v = i
    · subst hv
      by_cases hl : v < σ.length
      · rw [List.getElem?_set_self (by rw [wipe_length]; exact hl)]; simp [hl]
      · rw [List.getElem?_eq_none (by rw [List.length_set, wipe_length]; omega)]; simp [hl]
    · rw [List.getElem?_set_ne hv, wipe_get (vs := vs)]
      have : (i ∈ v :: vs) ↔ i ∈ vs := by simp [Ne.symm hv]
      simp [this]
theorem wipe_set {σ : L2.St} {j : Nat} {x : Option V} {vs : List Nat} (h : j ∈ vs) : wipe (σ.set j x) vs = wipe σ vs := by
  apply List.ext_getElem?
  intro i
  rw [wipe_get, wipe_get]
  by_cases hi : i ∈ vs
  · simp [hi]
  · have : j ≠ i := fun e => hi (e ▸ h)
    simp [hi, List.getElem?_set_ne this]
theorem wipe_wipe {σ : L2.St} {vs : List Nat} : wipe (wipe σ vs) vs = wipe σ vs := by
  apply List.ext_getElem?
  intro i
  rw [wipe_get, wipe_length, wipe_get]
  by_cases hi : i ∈ vs <;> simp [hi]
def wipeE (δ : En) : List Nat → En
  | [] => δ
  | v :: vs => (wipeE δ vs).set v none
theorem wipeE_len (δ : En) : ∀ vs : List Nat, (wipeE δ vs).length = δ.length
  | [] => rfl
  | v :: vs => by unfold wipeE; rw [List.length_set, wipeE_len δ vs]
theorem wipeE_some {δ : En} {i : Nat} {d : D} : ∀ {vs : List Nat}, (wipeE δ vs)[i]? = some (some d) → δ[i]? = some (some d) ∧ i ∉ vs
  | [], h => ⟨h, by simp⟩
  | v :: vs, h => by
    unfold wipeE at h
    by_cases hi : v = i
    · subst hi
      by_cases hv : v < (wipeE δ vs).length
      · rw [List.getElem?_set_self hv] at h; cases h
      · rw [List.getElem?_eq_none (by simpa using hv)] at h; cases h
    · rw [List.getElem?_set_ne hi] at h
      obtain ⟨h1, h2⟩ := wipeE_some h
      exact ⟨h1, by simp only [List.mem_cons, not_or]; exact ⟨fun e => hi e.symm, h2⟩⟩
theorem ER.wipe {K : PySem.W.Frag} {r : List Addr} {F : Hp} {σ : L2.St} {δ : En} (h : ER K r F σ δ) (vs : List Nat) : ER K r F (L2.wipe σ vs) (wipeE δ vs) := by
  refine ⟨by rw [wipe_length, wipeE_len]; exact h.1, fun i d e => ?_⟩
  obtain ⟨e1, e2⟩ := wipeE_some e
  obtain ⟨v, q, p⟩ := h.2 i d e1
  exact ⟨v, by rw [wipe_get]; simp [e2, q], p⟩
/-- a target whose slots are vs's -/
def YGw (K : PySem.W.Frag) (vs : List Nat) (g : TG) (d : D) (δ δ' : En) : Prop := ∀ r F H m σ v, HR K r F H m → ER K r F σ δ → Rep K r F v d → ∀ Q : L2.St → Hp → Prop, (∀ σ', ER K r F σ' δ' → wipe σ' vs = wipe σ vs → Q σ' H) → g v σ H Q
def YGws (K : PySem.W.Frag) (vs : List Nat) (g : TGs) (ds : List D) (δ δ' : En) : Prop := ∀ r F H m σ ws, HR K r F H m → ER K r F σ δ → RepAll K r F ws ds → ∀ Q : L2.St → Hp → Prop, (∀ σ', ER K r F σ' δ' → wipe σ' vs = wipe σ vs → Q σ' H) → g ws σ H Q
section
variable {K : PySem.W.Frag} {W : WX} {te ta tb : TE} {tt : TT} {t u : TS} {g : TG} {gs : TGs} {δ δ1 δ2 : En} {m m1 m2 m3 : Store} {d e : D} {o : Out} {tas : TA} {vs : List Nat}
theorem ygw_name {i : Nat} (h : i ∈ vs) : YGw K vs (gName i) d δ (δ.set i (some d)) := fun r F H m σ v hr er p Q q => q _ (er.set i p) (wipe_set h)
theorem ygws_nil : YGws K vs gNil [] δ δ := fun r F H m σ ws hr er p Q q => by cases p; exact ⟨rfl, q σ er rfl⟩
theorem ygws_cons {ds : List D} (h : YGw K vs g d δ δ1) (hs : YGws K vs gs ds δ1 δ2) : YGws K vs (gCons g gs) (d :: ds) δ δ2 := fun r F H m σ ws hr er p Q q => by
  cases p with
  | cons p1 p2 => exact ⟨_, _, rfl, h r F H m σ _ hr er p1 _ fun σ1 er1 w1 => hs r F H m σ1 _ hr er1 p2 Q fun σ2 er2 w2 => q σ2 er2 (w2.trans w1)⟩
theorem ygw_tup {ds : List D} {n : Nat} (hl : ds.length = n) (h : YGws K vs gs ds δ δ1) : YGw K vs (gTup K n gs) (.tup ds) δ δ1 := fun r F H m σ v hr er p Q q => by
  cases p with
  | tup hs ha => exact ⟨_, _, rfl, SqT.of (hr.sub _ _ hs), ha.len.trans hl, h r F H m σ _ hr er ha Q q⟩
/-- a side object through the work -/
theorem Ext.side_keep {r r' : List Addr} {F F' H H' : Hp} {m' : Store} (x : Ext r F H m r' F' H' m') (hl : r.length = m.length) {p : Addr} {o : HO} (hp : H p = some o) (fp : F p = none) (np : ∀ (k : Nat), live m k → r[k]? ≠ some p) :
    H' p = some o ∧ F' p = none ∧ ∀ (k : Nat), live m' k → r'[k]? ≠ some p := by
  refine ⟨x.keep p o hp np, ?_, fun k l e => ?_⟩
  · cases q : F' p with
    | none => rfl
    | some u =>
      rcases x.new p fp (by rw [q]; exact fun z => nomatch z) with z | ⟨k, l, z⟩
      · rw [hp] at z; cases z
      · exact absurd z (np k l)
  · by_cases hk : k < m.length
    · have hr : k < r.length := by rw [hl]; exact hk
      have e1 : r[k]? = some r[k] := List.getElem?_eq_getElem hr
      have e2 := x.pre k _ e1
      rw [e] at e2
      exact np k (x.dead k hk l) (by rw [e1, ← e2])
    · have := x.fresh k p (Nat.not_lt.mp hk) e
      rw [hp] at this; cases this
theorem Ext.sideSet {r r' : List Addr} {F F' H H' : Hp} {m' : Store} (x : Ext r F H m r' F' H' m') {p : Addr} {o : HO} (hp : H p = none) : Ext r F H m r' F' (upd H' p o) m' where
  pre := x.pre
  sub := x.sub
  keep := fun a u e n => by rw [upd_ne (ne_of_none e hp)]; exact x.keep a u e n
  new := x.new
  fresh := x.fresh
  dead := x.dead
  mlen := x.mlen
  trk := fun a u e => by rw [upd_ne (ne_of_none e hp)]; exact x.trk a u e
theorem yn_lcG {C : Store → Prop} {wi : TI} {xs : List D} (hi : YI K C wi δ m xs m1) (ms : Nat → Store) (outs : Nat → List D) (e0 : ms 0 = m1) (o0 : outs 0 = []) (hC : ∀ i, i ≤ xs.length → C (ms i)) (hl : ∀ i, i ≤ xs.length → (outs i).length < 100000)
    (step : ∀ i d, xs[i]? = some d → ∃ δ' b m', YGw K vs g d (wipeE δ vs) δ' ∧ YT K tt δ' (ms i) b m' ∧ (b = true → ∃ z, YE K te δ' m' z (ms (i + 1)) ∧ outs (i + 1) = outs i ++ [z]) ∧ (b = false → m' = ms (i + 1) ∧ outs (i + 1) = outs i)) :
    YN K (tLc wi g tt te vs) δ m (outs xs.length) (ms xs.length) := fun r F H σ hr er Q q =>
  hi r F H σ hr er _ fun J r1 F1 H1 hr1 x1 ok Dl hD => by
    subst e0
    have hD0 : H Dl = none := trk_back x1 hD
    let Pv : Nat → Hp → Prop := fun i H' => ∃ r' F' ws, HR K r' F' H' (ms i) ∧ Ext r F H m r' F' H' (ms i) ∧ Pre r1 r' ∧ Same F1 F' ∧ H' Dl = some (.lst ws) ∧ RepAll K r' F' ws (outs i) ∧ F' Dl = none ∧ ∀ (k : Nat), live (ms i) k → r'[k]? ≠ some Dl
    refine ⟨fun i mm H' => mm = xs.length - i ∧ i ≤ xs.length ∧ Pv i H', ⟨xs.length, by simp, Nat.zero_le _, r1, F1, [], hr1.side hD, x1.trans hr1.len hr.len (Ext.side hr1 hD), Pre.refl _, Same.refl _, upd_same, by rw [o0]; exact .nil, hr1.sub.free hD, fun k l e => (hr1.ne_new hD l e) rfl⟩, ?_⟩
    rintro i mm H' ⟨rfl, hin, r', F', ws, hr', x', pr', sm', hw, ra, fD, nD⟩
    obtain ⟨go, stop⟩ := ok r' F' H' (ms i) pr' sm' hr' (hC i hin) i
    by_cases hlt : i < xs.length
    · have ed : xs[i]? = some xs[i] := List.getElem?_eq_getElem hlt
      obtain ⟨hgo, hy⟩ := go _ ed
      obtain ⟨δ', b, m', hg, ht, hyes, hno⟩ := step i _ ed
      refine .inr ⟨hgo, Pv (i + 1), fun H2 p2 => ⟨xs.length - (i + 1), by omega, rfl, hlt, p2⟩, fun x H'' y => ?_⟩
      obtain ⟨F2, hr2, x2, p2⟩ := hy x H'' y
      have er2 : ER K r' F2 (wipe σ vs) (wipeE δ vs) := ((er.ext x').ext x2).wipe vs
      obtain ⟨hw2, fD2, nD2⟩ := x2.side_keep hr'.len hw fD nD
      refine hg r' F2 H'' (ms i) (wipe σ vs) x hr2 er2 p2 _ fun σ3 er3 w3 => ⟨w3.trans wipe_wipe, ?_⟩
      refine ht r' F2 H'' σ3 hr2 er3 _ fun r4 F4 H4 hr4 x4 => ?_
      have x24 := x2.trans hr2.len hr'.len x4
      obtain ⟨hw4, fD4, nD4⟩ := x24.side_keep hr'.len hw fD nD
      have x04 := x'.trans hr'.len hr.len x24
      cases b with
      | true =>
        rw [if_pos rfl]
        obtain ⟨z, he, eo⟩ := hyes rfl
        refine he r4 F4 H4 σ3 hr4 (er3.ext x4) _ fun v r5 F5 H5 hr5 x5 p5 => ?_
        obtain ⟨hw5, fD5, nD5⟩ := x5.side_keep hr4.len hw4 fD4 nD4
        have ra5 := (ra.mono x24.pre x24.sub).mono x5.pre x5.sub
        refine ⟨ws, hw5, Evl.sz_lt (by rw [ra.len]; exact hl i hin), r5, F5, ws ++ [v], hr5.sideSet fD5 nD5 (fun b z => by rw [hw5] at z; cases z), (x04.trans hr4.len hr.len x5).sideSet hD0, (pr'.trans x24.pre).trans x5.pre, (sm'.trans x24.sub).trans x5.sub, upd_same, ?_, fD5, nD5⟩
        rw [eo]; exact ra5.app (.one p5)
      | false =>
        rw [if_neg Bool.false_ne_true]
        obtain ⟨em, eo⟩ := hno rfl
        subst em
        exact ⟨r4, F4, ws, hr4, x04, pr'.trans x24.pre, sm'.trans x24.sub, hw4, by rw [eo]; exact ra.mono x24.pre x24.sub, fD4, nD4⟩
    · have hi' : i = xs.length := by omega
      subst hi'
      exact .inl ⟨stop (Nat.le_refl _), q Dl ws r' F' H' hr' x' hD0 fD nD hw ra⟩
theorem yt_yes : YT K tYes δ m true m := fun r F H σ hr er Q q => q r F H hr (Ext.refl hr)
/-- a comprehension that changes no cell, over typed items -/
theorem yn_lc {α : Type} {C : Store → Prop} {wi : TI} (ys : List α) (en : α → D) (p : α → Bool) (f : α → D) (hi : YI K C wi δ m (ys.map en) m1) (hC : C m1) (hl : ys.length < 100000)
    (step : ∀ y ∈ ys, ∃ δ', YGw K vs g (en y) (wipeE δ vs) δ' ∧ YT K tt δ' m1 (p y) m1 ∧ (p y = true → YE K te δ' m1 (f y) m1)) : YN K (tLc wi g tt te vs) δ m ((ys.filter p).map f) m1 := by
  have key := yn_lcG (K := K) (g := g) (tt := tt) (te := te) (vs := vs) hi (fun _ => m1) (fun i => ((ys.take i).filter p).map f) rfl (by simp) (fun _ _ => hC) (fun i _ => by
    rw [List.length_map]
    refine Nat.lt_of_le_of_lt (List.length_filter_le _ _) ?_
    rw [List.length_take]; omega) (fun i d hd => by
      rw [List.getElem?_map] at hd
      cases e : ys[i]? with
      | none => rw [e] at hd; cases hd
      | some y =>
        rw [e] at hd; cases hd
        obtain ⟨δ', h1, h2, h3⟩ := step y (List.mem_of_getElem? e)
        have et : ys.take (i + 1) = ys.take i ++ [y] := by rw [List.take_add_one, e]; rfl
        refine ⟨δ', p y, m1, h1, h2, fun hp => ⟨f y, h3 hp, ?_⟩, fun hp => ⟨rfl, ?_⟩⟩
        · show ((ys.take (i + 1)).filter p).map f = _
          rw [et, List.filter_append, List.map_append]; simp [hp]
        · show ((ys.take (i + 1)).filter p).map f = _
          rw [et, List.filter_append, List.map_append]; simp [hp])
  have e : ((ys.take (ys.map en).length).filter p).map f = (ys.filter p).map f := by rw [List.length_map, List.take_length]
  rw [← e]
  exact key
/-- .. without a test -/
theorem yn_lcM {α : Type} {C : Store → Prop} {wi : TI} (ys : List α) (en : α → D) (f : α → D) (hi : YI K C wi δ m (ys.map en) m1) (hC : C m1) (hl : ys.length < 100000)
    (step : ∀ y ∈ ys, ∃ δ', YGw K vs g (en y) (wipeE δ vs) δ' ∧ YE K te δ' m1 (f y) m1) : YN K (tLc wi g tYes te vs) δ m (ys.map f) m1 := by
  have := yn_lc (K := K) (g := g) (tt := tYes) (te := te) (vs := vs) ys en (fun _ => true) f hi hC hl fun y hy => by
    obtain ⟨δ', h1, h2⟩ := step y hy
    exact ⟨δ', h1, yt_yes, fun _ => h2⟩
  rwa [List.filter_eq_self.mpr (fun _ _ => rfl)] at this

/-! ### calls and defs -/
inductive Res where
  | ok (d : D)
  | ex (C : Value)
abbrev Spec := List D → Store → Res → Store → Prop
def ResOk (K : PySem.W.Frag) (r : List Addr) (F H : Hp) (m : Store) (Q : VK) (E : XK) (m' : Store) : Res → Prop
  | .ok d => Post1 K r F H m d m' Q
  | .ex C => ∀ r' F' H', HR K r' F' H' m' → Ext r F H m r' F' H' m' → E C none H'
def spD (K : PySem.W.Frag) (S : Spec) : Sp := fun vs H Q E => ∃ r F m ds res m', HR K r F H m ∧ RepAll K r F vs ds ∧ S ds m res m' ∧ ResOk K r F H m Q E m' res
theorem ye_call {S : Spec} {ds : List D} (ha : YA K tas δ m ds m1) (hs : S ds m1 (.ok d) m2) : YE K (tCall (spD K S) [] E0 tas) δ m d m2 := fun r F H σ hr er Q q =>
  ha r F H σ hr er _ fun ws r1 F1 H1 hr1 x1 p1 => by
    show spD K S (ws ++ []) H1 Q E0
    rw [List.append_nil]
    exact ⟨r1, F1, m1, ds, .ok d, m2, hr1, p1, hs, fun v r2 F2 H2 hr2 x2 p2 => q v r2 F2 H2 hr2 (x1.trans hr1.len hr.len x2) p2⟩
theorem ye_callS {S : Spec} {ds : List D} {E : L2.St → XK} (ha : YA K tas δ m ds m1) (hs : S ds m1 (.ok d) m2) : YE K (tCallS (spD K S) E tas) δ m d m2 := fun r F H σ hr er Q q =>
  ha r F H σ hr er _ fun ws r1 F1 H1 hr1 x1 p1 =>
    ⟨r1, F1, m1, ds, .ok d, m2, hr1, p1, hs, fun v r2 F2 H2 hr2 x2 p2 => q v r2 F2 H2 hr2 (x1.trans hr1.len hr.len x2) p2⟩

end
mutual
/-- its cells are below n -/
def D.und (n : Nat) : D → Bool
  | .lst xs => D.unds n xs
  | .tup xs => D.unds n xs
  | .cell k => decide (k < n)
  | _ => true
def D.unds (n : Nat) : List D → Bool
  | [] => true
  | d :: ds => D.und n d && D.unds n ds
end
mutual
theorem D.pure_und (n : Nat) : ∀ d : D, d.pure = true → d.und n = true
  | .non, _ => rfl
  | .bl _, _ => rfl
  | .int _, _ => rfl
  | .str _, _ => rfl
  | .scr _, _ => rfl
  | .cell _, h => nomatch h
  | .exc _, h => nomatch h
  | .lst xs, h => D.pures_und n xs h
  | .tup xs, h => D.pures_und n xs h
theorem D.pures_und (n : Nat) : ∀ ds : List D, D.pures ds = true → D.unds n ds = true
  | [], _ => rfl
  | d :: ds, h => by
    have q : (D.pure d && D.pures ds) = true := h
    show (D.und n d && D.unds n ds) = true
    rw [D.pure_und n d (Bool.and_eq_true_iff.mp q).1, D.pures_und n ds (Bool.and_eq_true_iff.mp q).2]; rfl
end
mutual
theorem D.und_mono {n n' : Nat} (h : n ≤ n') : ∀ d : D, d.und n = true → d.und n' = true
  | .non, _ => rfl
  | .bl _, _ => rfl
  | .int _, _ => rfl
  | .str _, _ => rfl
  | .scr _, _ => rfl
  | .exc _, _ => rfl
  | .cell k, q => by
    have : k < n := of_decide_eq_true q
    exact decide_eq_true (by omega)
  | .lst xs, q => D.unds_mono h xs q
  | .tup xs, q => D.unds_mono h xs q
theorem D.unds_mono {n n' : Nat} (h : n ≤ n') : ∀ ds : List D, D.unds n ds = true → D.unds n' ds = true
  | [], _ => rfl
  | d :: ds, q => by
    have q : (D.und n d && D.unds n ds) = true := q
    show (D.und n' d && D.unds n' ds) = true
    rw [D.und_mono h d (Bool.and_eq_true_iff.mp q).1, D.unds_mono h ds (Bool.and_eq_true_iff.mp q).2]; rfl
end
section
variable {K : PySem.W.Frag} {r : List Addr} {F : Hp} {n : Nat}
mutual
theorem Rep.und : ∀ {v : V} {d : D}, Rep K r F v d → d.und r.length = true
  | _, _, .non => rfl
  | _, _, .bl _ => rfl
  | _, _, .int _ => rfl
  | _, _, .str _ => rfl
  | _, _, .scr _ => rfl
  | _, _, .exc _ => rfl
  | _, _, .lst _ h => RepAll.und h
  | _, _, .tup _ h => RepAll.und h
  | _, _, .cell h => decide_eq_true (List.getElem?_eq_some_iff.mp h).1
theorem RepAll.und : ∀ {vs : List V} {ds : List D}, RepAll K r F vs ds → D.unds r.length ds = true
  | _, _, .nil => rfl
  | _, _, .cons h t => by
    show (D.und _ _ && D.unds _ _) = true
    rw [Rep.und h, RepAll.und t]; rfl
end
mutual
theorem Rep.cut : ∀ {v : V} {d : D}, d.und n = true → Rep K r F v d → Rep K (r.take n) F v d
  | _, _, _, .non => .non
  | _, _, _, .bl b => .bl b
  | _, _, _, .int i => .int i
  | _, _, _, .str x => .str x
  | _, _, _, .scr h => .scr h
  | _, _, _, .exc h => .exc h
  | _, _, p, .lst s h => .lst s (RepAll.cut p h)
  | _, _, p, .tup s h => .tup s (RepAll.cut p h)
  | _, _, p, .cell h => .cell (by rw [List.getElem?_take, if_pos (of_decide_eq_true p)]; exact h)
theorem RepAll.cut : ∀ {vs : List V} {ds : List D}, D.unds n ds = true → RepAll K r F vs ds → RepAll K (r.take n) F vs ds
  | _, _, _, .nil => .nil
  | _, _, p, .cons h t =>
    have q : (D.und n _ && D.unds n _) = true := p
    .cons (Rep.cut (Bool.and_eq_true_iff.mp q).1 h) (RepAll.cut (Bool.and_eq_true_iff.mp q).2 t)
end
end
def belowF (n : Nat) (fs : List (Str × D)) : Bool := fs.all fun p => p.2.und n
def belowK (n : Nat) (fs : List (Key × D)) : Bool := fs.all fun p => p.2.und n
def Cell.und (n : Nat) : Cell → Bool
  | .lst xs => D.unds n xs
  | .ins _ fs => belowF n fs
  | .dK kvs => belowK n kvs
  | .gone => true
theorem belowF_mono {n n' : Nat} (h : n ≤ n') {fs : List (Str × D)} (q : belowF n fs = true) : belowF n' fs = true := List.all_eq_true.mpr fun p hp => D.und_mono h _ (List.all_eq_true.mp q p hp)
theorem belowK_mono {n n' : Nat} (h : n ≤ n') {fs : List (Key × D)} (q : belowK n fs = true) : belowK n' fs = true := List.all_eq_true.mpr fun p hp => D.und_mono h _ (List.all_eq_true.mp q p hp)
theorem Cell.und_mono {n n' : Nat} (h : n ≤ n') : ∀ {c : Cell}, c.und n = true → c.und n' = true
  | .lst xs, q => D.unds_mono h xs q
  | .ins _ fs, q => belowF_mono h q
  | .dK kvs, q => belowK_mono h q
  | .gone, _ => rfl
section
variable {K : PySem.W.Frag} {r : List Addr} {F H : Hp} {n : Nat} {m m' m0 loc : Store}
theorem RepF.und : ∀ {gs : List (Str × V)} {fs : List (Str × D)}, RepF K r F gs fs → belowF r.length fs = true
  | [], [], _ => rfl
  | (_, _) :: gs, (_, _) :: fs, h => by
    show ((D.und _ _) && belowF _ fs) = true
    rw [h.2.1.und, RepF.und h.2.2]; rfl
  | [], _ :: _, h => h.elim
  | _ :: _, [], h => h.elim
theorem RepK.und : ∀ {gs : List (Key × V)} {fs : List (Key × D)}, RepK K r F gs fs → belowK r.length fs = true
  | [], [], _ => rfl
  | (_, _) :: gs, (_, _) :: fs, h => by
    show ((D.und _ _) && belowK _ fs) = true
    rw [h.2.1.und, RepK.und h.2.2]; rfl
  | [], _ :: _, h => h.elim
  | _ :: _, [], h => h.elim
theorem RepF.cut : ∀ {gs : List (Str × V)} {fs : List (Str × D)}, belowF n fs = true → RepF K r F gs fs → RepF K (r.take n) F gs fs
  | [], [], _, _ => trivial
  | (_, _) :: gs, (_, _) :: fs, q, h => by
    have q : (D.und n _ && belowF n fs) = true := q
    exact ⟨h.1, h.2.1.cut (Bool.and_eq_true_iff.mp q).1, RepF.cut (Bool.and_eq_true_iff.mp q).2 h.2.2⟩
  | [], _ :: _, _, h => h.elim
  | _ :: _, [], _, h => h.elim
theorem RepK.cut : ∀ {gs : List (Key × V)} {fs : List (Key × D)}, belowK n fs = true → RepK K r F gs fs → RepK K (r.take n) F gs fs
  | [], [], _, _ => trivial
  | (_, _) :: gs, (_, _) :: fs, q, h => by
    have q : (D.und n _ && belowK n fs) = true := q
    exact ⟨h.1, h.2.1.cut (Bool.and_eq_true_iff.mp q).1, RepK.cut (Bool.and_eq_true_iff.mp q).2 h.2.2⟩
  | [], _ :: _, _, h => h.elim
  | _ :: _, [], _, h => h.elim
theorem CellOk.und {a : Addr} : ∀ {c : Cell}, CellOk K r F H a c → c.und r.length = true
  | .lst xs, ⟨vs, h, q⟩ => q.und
  | .ins C fs, ⟨dx, gs, h, h2, q⟩ => q.und
  | .dK kvs, ⟨gs, h, q⟩ => q.und
  | .gone, _ => rfl
theorem CellOk.cut {a : Addr} : ∀ {c : Cell}, c.und n = true → CellOk K r F H a c → CellOk K (r.take n) F H a c
  | .lst xs, b, ⟨vs, h, q⟩ => ⟨vs, h, q.cut b⟩
  | .ins C fs, b, ⟨dx, gs, h, h2, q⟩ => ⟨dx, gs, h, h2, q.cut b⟩
  | .dK kvs, b, ⟨gs, h, q⟩ => ⟨gs, h, q.cut b⟩
  | .gone, _, _ => trivial
theorem HR.und (h : HR K r F H m) {k : Nat} {c : Cell} (e : m[k]? = some c) : c.und m.length = true := by
  by_cases ng : c = .gone
  · subst ng; rfl
  · have hk : k < r.length := by rw [h.len]; exact (List.getElem?_eq_some_iff.mp e).1
    have := (h.cell k r[k] c (List.getElem?_eq_getElem hk) e ng).2.und
    rwa [h.len] at this
/-- every cell of m' is m's, or its cells are below m''s length -/
def Tidy (m m' : Store) : Prop := m.length ≤ m'.length ∧ ∀ (k : Nat) c, m'[k]? = some c → m[k]? = some c ∨ c.und m'.length = true
theorem Tidy.refl (m : Store) : Tidy m m := ⟨Nat.le_refl _, fun _ _ e => .inl e⟩
theorem Tidy.set {c : Cell} {k : Nat} (h : Tidy m m') (hc : c.und m'.length = true) : Tidy m (m'.set k c) := ⟨by simpa using h.1, fun j c' e => by
  rw [List.length_set]
  by_cases hj : k = j
  · subst hj
    have : k < (m'.set k c).length := (List.getElem?_eq_some_iff.mp e).1
    rw [List.length_set] at this
    rw [List.getElem?_set_self this] at e; cases e; exact .inr hc
  · rw [List.getElem?_set_ne hj] at e; exact h.2 j c' e⟩
theorem Tidy.app {c : Cell} (h : Tidy m m') (hc : c.und (m'.length + 1) = true) : Tidy m (m' ++ [c]) := ⟨by simp; exact Nat.le_succ_of_le h.1, fun j c' e => by
  rw [List.length_append]
  by_cases hj : j < m'.length
  · rw [List.getElem?_append_left hj] at e
    rcases h.2 j c' e with z | z
    · exact .inl z
    · exact .inr (Cell.und_mono (Nat.le_add_right _ _) z)
  · rw [List.getElem?_append_right (by omega)] at e
    cases q : j - m'.length with
    | zero => rw [q] at e; simp at e; subst e; exact .inr hc
    | succ i => rw [q] at e; simp at e⟩
theorem HR.trunc {r0 : List Addr} {F0 H0 : Hp} (h0 : HR K r0 F0 H0 m0) (ti : Tidy m0 m) (h : HR K r F H (m ++ loc)) : HR K (r.take m.length) F H m := by
  have low : ∀ (k : Nat) a, (r.take m.length)[k]? = some a → r[k]? = some a ∧ k < m.length := fun k a e => by
    rw [List.getElem?_take] at e
    split at e
    · rename_i hk; exact ⟨e, hk⟩
    · cases e
  have lv : ∀ k, live m k → live (m ++ loc) k := fun k ⟨c, e, ng⟩ => ⟨c, by rw [List.getElem?_append_left (List.getElem?_eq_some_iff.mp e).1]; exact e, ng⟩
  refine ⟨?_, h.sub, fun k a c e1 e2 ng => ?_, fun k l a e1 e2 l1 l2 => h.inj k l a (low k a e1).1 (low l a e2).1 (lv k l1) (lv l l2)⟩
  · rw [List.length_take]
    have := h.len
    rw [List.length_append] at this
    omega
  · obtain ⟨e1', hk⟩ := low k a e1
    obtain ⟨q1, q2⟩ := h.cell k a c e1' (by rw [List.getElem?_append_left hk]; exact e2) ng
    refine ⟨q1, q2.cut ?_⟩
    rcases ti.2 k c e2 with z | z
    · exact Cell.und_mono ti.1 (h0.und z)
    · exact z
theorem Ext.trunc {r0 : List Addr} {F0 H0 : Hp} (hl : r0.length = m0.length) (ti : m0.length ≤ m.length) (x : Ext r0 F0 H0 m0 r F H (m ++ loc)) : Ext r0 F0 H0 m0 (r.take m.length) F H m where
  pre := fun k a e => by
    have hk : k < r0.length := (List.getElem?_eq_some_iff.mp e).1
    rw [List.getElem?_take, if_pos (by omega)]; exact x.pre k a e
  sub := x.sub
  keep := x.keep
  new := x.new
  fresh := fun k a hk e => by
    rw [List.getElem?_take] at e
    split at e
    · exact x.fresh k a hk e
    · cases e
  dead := fun k hk l => x.dead k hk (by
    obtain ⟨c, e, ng⟩ := l
    exact ⟨c, by rw [List.getElem?_append_left (List.getElem?_eq_some_iff.mp e).1]; exact e, ng⟩)
  mlen := ti
  trk := x.trk
/-- how a body's end answers a call, from the store m0 -/
inductive Fits (m0 : Store) : Out → Res → Store → Prop
  | rt {d : D} {m : Store} : Fits m0 (.rt d m) (.ok d) m
  | nx {δ : En} {m : Store} : Fits m0 (.nx δ m) (.ok .non) m
  | ex {C : Value} {δ : En} {m : Store} : Fits m0 (.ex C δ m) (.ex C) m
  | rtd {d : D} {m : Store} (loc : Store) : Tidy m0 m → d.und m.length = true → Fits m0 (.rt d (m ++ loc)) (.ok d) m
  | nxd {δ : En} {m : Store} (loc : Store) : Tidy m0 m → Fits m0 (.nx δ (m ++ loc)) (.ok .non) m
  | exd {C : Value} {δ : En} {m : Store} (loc : Store) : Tidy m0 m → Fits m0 (.ex C δ (m ++ loc)) (.ex C) m
def st (n : Nat) (ds : List D) : En := ds.map some ++ List.replicate (n - ds.length) none
abbrev startD (N : List Str) (ds : List D) : En := st N.length ds
theorem er_start {N : List Str} {vs : List V} {ds : List D} (h : RepAll K r F vs ds) : ER K r F (L2.start N vs) (startD N ds) := by
  refine ⟨by simp [L2.start, startD, st, h.len], fun i d e => ?_⟩
  unfold startD st at e
  by_cases hi : i < ds.length
  · rw [List.getElem?_append_left (by simpa using hi), List.getElem?_map] at e
    cases q : ds[i]? with
    | none => rw [q] at e; cases e
    | some d' =>
      rw [q] at e; cases e
      obtain ⟨v, e1, p⟩ := h.get q
      refine ⟨v, ?_, p⟩
      unfold L2.start
      rw [List.getElem?_append_left (by rw [List.length_map, h.len]; exact hi), List.getElem?_map, e1]; rfl
  · rw [List.getElem?_append_right (by simpa using hi), List.getElem?_replicate] at e
    split at e <;> cases e
end
/-- THE RULE for a def -/
theorem fn_okC {CX : CXT} {P : Program} {w : World} {K : PySem.W.Frag} {mg : Str → Option Value} {base : Heap} {x qual : Str} {params : Arguments} {body : List Stmt} {scope : Scope} {f : Addr} {fd : FuncData} {N ps : List Str} {k : Nat} {S : Spec}
    (F : FunD K x qual params body scope [] [] f fd) (sc : FnScope N ps scope) (hlen : ∀ ds m res m', S ds m res m' → ds.length = ps.length) (t : WX → TS)
    (hP : ∀ (cdv : Value) (A : Around) (outer : List Env) (s : Shared) (H : Hp) (E : XK), Room k (A.deeper (envOfC qual scope s.heap.objs.size f cdv)) → PSs (cxOf CX P w K mg base N qual scope f cdv A outer s H E) body (t fun cls d _ H' => E cls d H'))
    (hY : ∀ W ds m res m', S ds m res m' → ∃ o, YS K W (t W) (startD N ds) m o ∧ Fits m o res m') : FnOk P w K mg base CX (k + 1) f fd ps (spD K S) := by
  refine F.ok sc (fun vs H Q E h => ?_) (fun cdv A outer s H vs Q E hr h => ?_)
  · obtain ⟨r, F, m, ds, res, m', _, p, hs, _⟩ := h
    rw [p.len]; exact hlen _ _ _ _ hs
  · obtain ⟨r, F, m, ds, res, m', hr0, p, hs, q⟩ := h
    obtain ⟨o, hy, hf⟩ := hY (fun cls d _ H' => E cls d H') ds m res m' hs
    refine ⟨_, hP cdv A outer s H E hr, hy r F H _ _ hr0 (er_start p) ?_⟩
    cases hf with
    | rt => exact fun v r' F' H' h1 x1 p1 => q v r' F' H' h1 x1 p1
    | nx => exact fun σ' r' F' H' h1 _ x1 => q .non r' F' H' h1 x1 .non
    | ex => exact fun σ' r' F' H' h1 _ x1 => q r' F' H' h1 x1
    | rtd loc ti hb => exact fun v r' F' H' h1 x1 p1 => q v _ F' H' (hr0.trunc ti h1) (x1.trunc hr0.len ti.1) (p1.cut hb)
    | nxd loc ti => exact fun σ' r' F' H' h1 _ x1 => q .non _ F' H' (hr0.trunc ti h1) (x1.trunc hr0.len ti.1) .non
    | exd loc ti => exact fun σ' r' F' H' h1 _ x1 => q _ F' H' (hr0.trunc ti h1) (x1.trunc hr0.len ti.1)
theorem fn_ok {P : Program} {w : World} {K : PySem.W.Frag} {mg : Str → Option Value} {base : Heap} {x qual : Str} {params : Arguments} {body : List Stmt} {scope : Scope} {f : Addr} {fd : FuncData} {N ps : List Str} {k : Nat} {S : Spec}
    (F : FunD K x qual params body scope [] [] f fd) (sc : FnScope N ps scope) (hlen : ∀ ds m res m', S ds m res m' → ds.length = ps.length) (t : WX → TS)
    (hP : ∀ (cdv : Value) (A : Around) (outer : List Env) (s : Shared) (H : Hp) (E : XK), Room k (A.deeper (envOfC qual scope s.heap.objs.size f cdv)) → PSs (cxOf (L2.CX P w) P w K mg base N qual scope f cdv A outer s H E) body (t fun cls d _ H' => E cls d H'))
    (hY : ∀ W ds m res m', S ds m res m' → ∃ o, YS K W (t W) (startD N ds) m o ∧ Fits m o res m') : FnOk P w K mg base (L2.CX P w) (k + 1) f fd ps (spD K S) := fn_okC F sc hlen t hP hY
end DL
namespace DL
open PySem PySem.Spec PyProof.Rows L2
/-! ### short names of readings -/
abbrev oAdd : R2 := rI0 fun i j => .int (i + j)
abbrev oSub : R2 := rI0 fun i j => .int (i - j)
abbrev oMul : R2 := rI CMul fun i j => .int (i * j)
abbrev oDiv : R2 := rI CDivW fun i j => .int (i / j)
abbrev oMod : R2 := rI (fun _ j => 0 < j) fun i j => .int (i % j)
abbrev oPow : R2 := rI CPow fun i j => .int (i ^ j.toNat)
abbrev oLt : R2 := rI0 fun i j => .bl (decide (i < j))
abbrev oLe : R2 := rI0 fun i j => .bl (decide (i ≤ j))
abbrev oGt : R2 := rI0 fun i j => .bl (decide (j < i))
abbrev oGe : R2 := rI0 fun i j => .bl (decide (j ≤ i))
abbrev oIsN : R2 := fun x y H Q => y = .non ∧ Q (.bl (decide (x = .non))) H
abbrev oNotN : R2 := fun x y H Q => y = .non ∧ Q (.bl (!decide (x = .non))) H
abbrev oNeg : V → Hp → VK → Prop := rU fun i => .int (-i)
abbrev rMin2 : List V → Hp → VK → Prop := fun xs H Q => ∃ i j, xs = [.int i, .int j] ∧ Q (.int (if j < i then j else i)) H
abbrev rAbs : List V → Hp → VK → Prop := fun xs H Q => ∃ i, xs = [.int i] ∧ Q (.int (if i < 0 then -i else i)) H
theorem y_neg {K : PySem.W.Frag} {m : Store} {i : Int} : Y1 K oNeg (.int i) m (.int (-i)) m := fun r F H x hr p Q q => by
  cases p; exact ⟨i, rfl, post1 hr q (.int _)⟩
/-! ### what a callee is known by -/
def Cal (P : Program) (w : World) (K : PySem.W.Frag) (mg : Str → Option Value) (base : Heap) (x : Str) (k : Nat) (ps : List Str) (S : Spec) : Prop :=
  ∃ fd, FnOk P w K mg base (L2.CX P w) k (He.ga K x) fd ps (spD K S) ∧ Binds K fd ps [] ∧ PySem.W.keepIn K (.ref (He.ga K x)) = true ∧ mg x = some (.ref (He.ga K x))
section
variable {X : Cx} {k : Nat} {ps : List Str} {S : Spec} {x : Str} {p pos : Pos} {e : Expr} {es : List Expr} {t : TA}
theorem pe_own {j : Nat} (C : Cal X.prog X.w X.K X.mg X.base x j ps S) (hr : Room j X.A) (hg : Gl X x) (ha : PA X (e :: es) t) (hdb : (x == ("__debug__" : Str)) = false := by decide)
    (he : starEach (e :: es) X.env = (false, eval e X.env) :: starEach es X.env := by rfl) (hpl : (backTo pos (starEach es X.env)).any (·.1) = false := by rfl) : PE X (.Call (.Name x p) (e :: es) [] pos) (tCall (spD X.K S) [] E0 t) := by
  obtain ⟨fd, F, b, kp, m⟩ := C
  exact pe_call F hr hg m kp b .nil passL ha hdb he hpl
theorem pe_own0 {j : Nat} (C : Cal X.prog X.w X.K X.mg X.base x j ps S) (hr : Room j X.A) (hg : Gl X x) (hdb : (x == ("__debug__" : Str)) = false := by decide) : PE X (.Call (.Name x p) [] [] pos) (tCall (spD X.K S) [] E0 tNil) := by
  obtain ⟨fd, F, b, kp, m⟩ := C
  exact pe_call0 F hr hg m kp b .nil passL hdb
/-- a constant of the top -/
theorem pe_const {i : Int} {pos : Pos} (h : ∃ t, X.mg x = some (.int i t)) (hg : Gl X x) (hd : (x == ("__debug__" : Str)) = false := by decide) : PE X (.Name x pos) (tC (.int i)) := by
  obtain ⟨t, h⟩ := h
  exact pe_glob hg h ⟨t, rfl⟩ hd
theorem pe_constS {i : Str} {pos : Pos} (h : ∃ t, X.mg x = some (.str i t)) (hg : Gl X x) (hd : (x == ("__debug__" : Str)) = false := by decide) : PE X (.Name x pos) (tC (.str i)) := by
  obtain ⟨t, h⟩ := h
  exact pe_glob hg h ⟨t, rfl⟩ hd
end
theorem bt_len : bootBuiltins "len" = some (.builtin "len") := by decide +kernel
theorem bt_max : bootBuiltins "max" = some (.builtin "max") := by decide +kernel
theorem bt_min : bootBuiltins "min" = some (.builtin "min") := by decide +kernel
theorem bt_sum : bootBuiltins "sum" = some (.builtin "sum") := by decide +kernel
theorem bt_all : bootBuiltins "all" = some (.builtin "all") := by decide +kernel
theorem bt_any : bootBuiltins "any" = some (.builtin "any") := by decide +kernel
theorem bt_abs : bootBuiltins "abs" = some (.builtin "abs") := by decide +kernel
theorem bt_sorted : bootBuiltins "sorted" = some (.builtin "sorted") := by decide +kernel
theorem bt_isinstance : bootBuiltins "isinstance" = some (.builtin "isinstance") := by decide +kernel
theorem bt_list : bootBuiltins "list" = some (.type "list") := by decide +kernel
theorem bt_tuple : bootBuiltins "tuple" = some (.type "tuple") := by decide +kernel
theorem bt_int : bootBuiltins "int" = some (.type "int") := by decide +kernel
theorem bt_bool : bootBuiltins "bool" = some (.type "bool") := by decide +kernel
theorem bt_str : bootBuiltins "str" = some (.type "str") := by decide +kernel
theorem bt_set : bootBuiltins "set" = some (.type "set") := by decide +kernel
end DL
namespace DL
open PySem PySem.Spec PyProof.Rows L2
/-! ### isinstance of built-in classes -/
/-- the name of a datum's type -/
inductive Tn (m : Store) : D → String → Prop
  | non : Tn m .non "NoneType"
  | bl {b : Bool} : Tn m (.bl b) "bool"
  | int {i : Int} : Tn m (.int i) "int"
  | str {x : Str} : Tn m (.str x) "str"
  | lst {xs : List D} : Tn m (.lst xs) "list"
  | tup {xs : List D} : Tn m (.tup xs) "tuple"
  | cell {k : Nat} {xs : List D} : m[k]? = some (.lst xs) → Tn m (.cell k) "list"
theorem y_isi {K : PySem.W.Frag} {m : Store} {d : D} {n c : String} {b : Bool} (h : Tn m d n) (hb : kitB n c = some b) : Y1 K (fun x H Q => rIsi K [x, .ty c] H Q) d m (.bl b) m := fun r F H x hr p Q q => by
  have ty : TyX K H x (.type n) := by
    cases h with
    | non => cases p; exact .base .non
    | bl => cases p; exact .base (.bl _)
    | int => cases p; exact .base (.int _)
    | str => cases p; exact .base (.str _)
    | lst => cases p with
      | lst hs _ => exact .base (.lst (hr.sub _ _ hs))
    | tup => cases p with
      | tup hs _ => exact .base (.tup (hr.sub _ _ hs))
    | cell hk => cases p with
      | cell ea =>
        obtain ⟨_, vs, h1, _⟩ := hr.cell _ _ _ ea hk (fun z => nomatch z)
        exact .base (.lst h1)
  exact ⟨x, .ty c, .type n, .type c, b, rfl, .ty c, ty, kit_ty hb, post1 hr q (.bl _)⟩
theorem ye_isi {K : PySem.W.Frag} {te : TE} {δ : En} {m m1 : Store} {d : D} {n c : String} {b : Bool} (he : YE K te δ m d m1) (h : Tn m1 d n) (hb : kitB n c = some b) : YE K (tCB (rIsi K) (tCons te (tCons (tC (.ty c)) tNil))) δ m (.bl b) m1 := fun r F H σ hr er Q q =>
  he r F H σ hr er _ fun v r1 F1 H1 hr1 x1 p1 => y_isi h hb r1 F1 H1 v hr1 p1 Q fun v2 r2 F2 H2 hr2 x2 p2 => q v2 r2 F2 H2 hr2 (x1.trans hr1.len hr.len x2) p2
theorem kb_bb : kitB "bool" "bool" = some true := by decide +kernel
theorem kb_bi : kitB "bool" "int" = some true := by decide +kernel
theorem kb_ib : kitB "int" "bool" = some false := by decide +kernel
theorem kb_ii : kitB "int" "int" = some true := by decide +kernel
theorem kb_ll : kitB "list" "list" = some true := by decide +kernel
theorem kb_tt : kitB "tuple" "tuple" = some true := by decide +kernel
theorem kb_lt : kitB "list" "tuple" = some false := by decide +kernel
theorem kb_tl : kitB "tuple" "list" = some false := by decide +kernel
theorem kb_ss : kitB "str" "str" = some true := by decide +kernel
theorem kb_ni : kitB "NoneType" "int" = some false := by decide +kernel
theorem kb_si : kitB "str" "int" = some false := by decide +kernel
end DL
namespace DL
open PySem PySem.Spec PyProof.Rows L2
section
variable {K : PySem.W.Frag} {W : WX} {te ta tb : TE} {tt : TT} {t u : TS} {g : TG} {δ δ1 δ2 : En} {m m1 m2 m3 : Store} {d e : D} {o : Out} {tas : TA} {i j : Int}
theorem y_ixI {ds : List D} (h : IsL m d ds) (h2 : L2.atI ds i = some e) : Y2 K (rIxL K) d (.int i) m e m := by
  cases h with
  | lst => exact y_ixL h2
  | cell hk => exact y_ixC hk h2
theorem atI_of {α : Type} {xs : List α} (h0 : 0 ≤ i) (h1 : i < xs.length) : L2.atI xs i = xs[i.toNat]? := by
  unfold L2.atI ixN
  rw [if_pos h0, if_pos h1]; rfl
theorem atI_map {α : Type} {xs : List α} {f : α → D} {x : α} (h : L2.atI xs i = some x) : L2.atI (xs.map f) i = some (f x) := by
  obtain ⟨j, e1, e2⟩ := atI_len (xs := xs.map f) (by simp) h
  rw [e2, List.getElem?_map, e1]; rfl
theorem atI_getD {α : Type} {xs : List α} (z : α) (h0 : 0 ≤ i) (h1 : i < xs.length) : L2.atI xs i = some (xs.getD i.toNat z) := by
  rw [atI_of h0 h1]
  have : i.toNat < xs.length := by omega
  rw [List.getElem?_eq_getElem this, List.getD_eq_getElem?_getD, List.getElem?_eq_getElem this]; rfl
theorem set_same {k : Nat} {c : Cell} (h : m[k]? = some c) : m.set k c = m := by
  apply List.ext_getElem?
  intro l
  by_cases hl : k = l
  · subst hl
    rw [List.getElem?_set_self (List.getElem?_eq_some_iff.mp h).1, h]
  · rw [List.getElem?_set_ne hl]
theorem set_get {k : Nat} {c c' : Cell} (h : m[k]? = some c) : (m.set k c')[k]? = some c' := List.getElem?_set_self (List.getElem?_eq_some_iff.mp h).1
theorem set_get_ne {k l : Nat} {c : Cell} (h : k ≠ l) : (m.set k c)[l]? = m[l]? := List.getElem?_set_ne h
theorem app_get {c : Cell} : (m ++ [c])[m.length]? = some c := by simp
theorem app_get_lt {k : Nat} {c c' : Cell} (h : m[k]? = some c) : (m ++ [c'])[k]? = some c := by
  rw [List.getElem?_append_left (List.getElem?_eq_some_iff.mp h).1]; exact h
theorem app_set {c c' : Cell} : (m ++ [c]).set m.length c' = m ++ [c'] := by simp
theorem app_set_lt {k : Nat} {c c' : Cell} (h : k < m.length) : (m ++ [c']).set k c = m.set k c ++ [c'] := by
  rw [List.set_append_left _ _ h]
theorem Weak.refl (δ : En) : Weak δ δ := ⟨rfl, fun _ _ h => h⟩
/-- slot by slot -/
theorem Weak.nil : Weak [] [] := Weak.refl _
theorem Weak.keep {x : Option D} {δ δ' : En} (h : Weak δ δ') : Weak (x :: δ) (x :: δ') := ⟨by simp [h.1], fun i d q => by
  cases i with
  | zero => exact q
  | succ i => exact h.2 i d (by simpa using q)⟩
theorem Weak.drop {x : Option D} {δ δ' : En} (h : Weak δ δ') : Weak (x :: δ) (none :: δ') := ⟨by simp [h.1], fun i d q => by
  cases i with
  | zero => cases q
  | succ i => exact h.2 i d (by simpa using q)⟩
end
/-- data of depth at most n -/
def Sh : Nat → D → Prop
  | _, .non => True
  | _, .bl _ => True
  | _, .int _ => True
  | _, .str x => PyData.strOk x = true
  | _, .cell _ => False
  | _, .exc _ => False
  | 0, .lst _ => False
  | 0, .tup _ => False
  | 0, .scr _ => False
  | n + 1, .lst xs => ∀ x ∈ xs, Sh n x
  | n + 1, .tup xs => ∀ x ∈ xs, Sh n x
  | _ + 1, .scr _ => True
theorem lay_ints : ∀ ns : List Int, PyData.canLayAll0 (ns.map PyData.int) = true ∧ PyData.depthAll (ns.map PyData.int) ≤ 0
  | [] => ⟨rfl, by simp [PyData.depthAll]⟩
  | n :: ns => by
    obtain ⟨a, b⟩ := lay_ints ns
    refine ⟨?_, ?_⟩
    · show (PyData.canLay0 (.int n) && PyData.canLayAll0 (ns.map PyData.int)) = true
      rw [a]; rfl
    · show PyData.depthAll (PyData.int n :: ns.map PyData.int) ≤ 0
      simp only [PyData.depthAll, PyData.depth]; omega
theorem Sh.all : ∀ (n : Nat) (d : D), Sh n d → d.pure = true ∧ d.toPy.canLay0 = true ∧ d.toPy.depth ≤ n := by
  intro n
  induction n with
  | zero =>
    intro d h
    cases d with
    | non => exact ⟨rfl, rfl, by simp [D.toPy, PyData.depth]⟩
    | bl b => exact ⟨rfl, rfl, by simp [D.toPy, PyData.depth]⟩
    | int i => exact ⟨rfl, rfl, by simp [D.toPy, PyData.depth]⟩
    | str x => exact ⟨rfl, by simpa [D.toPy, PyData.canLay0, Sh] using h, by simp [D.toPy, PyData.depth]⟩
    | lst xs => exact absurd h (by simp [Sh])
    | tup xs => exact absurd h (by simp [Sh])
    | cell k => exact absurd h (by simp [Sh])
    | exc C => exact absurd h (by simp [Sh])
    | scr ns => exact absurd h (by simp [Sh])
  | succ n ih =>
    have all : ∀ xs : List D, (∀ x ∈ xs, Sh n x) → D.pures xs = true ∧ PyData.canLayAll0 (D.toPys xs) = true ∧ PyData.depthAll (D.toPys xs) ≤ n := by
      intro xs
      induction xs with
      | nil => intro _; exact ⟨rfl, rfl, by simp [D.toPys, PyData.depthAll]⟩
      | cons x xs ihx =>
        intro h
        obtain ⟨a1, a2, a3⟩ := ih x (h x List.mem_cons_self)
        obtain ⟨b1, b2, b3⟩ := ihx fun y hy => h y (List.mem_cons_of_mem _ hy)
        refine ⟨by show (x.pure && D.pures xs) = true; rw [a1, b1]; rfl, by show (x.toPy.canLay0 && PyData.canLayAll0 (D.toPys xs)) = true; rw [a2, b2]; rfl, ?_⟩
        show PyData.depthAll (x.toPy :: D.toPys xs) ≤ n
        simp only [PyData.depthAll]; omega
    intro d h
    cases d with
    | non => exact ⟨rfl, rfl, by simp [D.toPy, PyData.depth]⟩
    | bl b => exact ⟨rfl, rfl, by simp [D.toPy, PyData.depth]⟩
    | int i => exact ⟨rfl, rfl, by simp [D.toPy, PyData.depth]⟩
    | str x => exact ⟨rfl, by simpa [D.toPy, PyData.canLay0, Sh] using h, by simp [D.toPy, PyData.depth]⟩
    | lst xs =>
      obtain ⟨a, b, c⟩ := all xs h
      refine ⟨a, by simpa [D.toPy, PyData.canLay0] using b, ?_⟩
      simp only [D.toPy, PyData.depth]; omega
    | tup xs =>
      obtain ⟨a, b, c⟩ := all xs h
      refine ⟨a, by simpa [D.toPy, PyData.canLay0] using b, ?_⟩
      simp only [D.toPy, PyData.depth]; omega
    | cell k => exact absurd h (by simp [Sh])
    | exc C => exact absurd h (by simp [Sh])
    | scr ns =>
      obtain ⟨a, b⟩ := lay_ints ns
      refine ⟨rfl, by simpa [D.toPy, PyData.canLay0] using a, ?_⟩
      simp only [D.toPy, PyData.depth]; omega
theorem Sh.pure {n : Nat} {d : D} (h : Sh n d) : d.pure = true := (Sh.all n d h).1
theorem Sh.shaped {n : Nat} {d : D} (h : Sh n d) (hn : n ≤ 64) : SeqAt.shaped d.toPy = true := by
  obtain ⟨_, a, b⟩ := Sh.all n d h
  unfold SeqAt.shaped
  rw [a, decide_eq_true (show d.toPy.depth ≤ 64 by omega)]; rfl
theorem Sh.canLay {n : Nat} {d : D} (h : Sh n d) : d.toPy.canLay0 = true := (Sh.all n d h).2.1
theorem Sh.map {α : Type} {n : Nat} {f : α → D} {xs : List α} (h : ∀ x, Sh n (f x)) : Sh (n + 1) (.lst (xs.map f)) := fun y hy => by
  obtain ⟨x, _, rfl⟩ := List.mem_map.mp hy
  exact h x
/-- what reads as plain data: pure data, or what a cell holds -/
inductive Sd (m : Store) : D → D → Prop
  | data {d : D} : Sh 60 d → Sd m d d
  | cell {k : Nat} {xs : List D} : m[k]? = some (.lst xs) → Sh 60 (.lst xs) → Sd m (.cell k) (.lst xs)
theorem Sd.pd {m : Store} {d d' : D} (h : Sd m d d') : Pd m d d'.toPy ∧ SeqAt.shaped d'.toPy = true ∧ d'.toPy.canLay0 = true := by
  cases h with
  | data h => exact ⟨.pure h.pure, h.shaped (by omega), h.canLay⟩
  | cell hk h => exact ⟨.cell hk h.pure, h.shaped (by omega), h.canLay⟩
section
variable {K : PySem.W.Frag} {W : WX} {te ta tb : TE} {tt : TT} {t u : TS} {g : TG} {δ δ1 δ2 : En} {m m1 m2 m3 : Store} {d e d' e' : D} {o : Out} {tas : TA} {i j : Int}
theorem y_eqT (h1 : Sd m d d') (h2 : Sd m e e') : Y2 K (rEqD K) d e m (.bl (PyData.eqv d'.toPy e'.toPy)) m := y_eqD h1.pd.1 h2.pd.1 h1.pd.2.1 h2.pd.2.1
theorem y_neT (h1 : Sd m d d') (h2 : Sd m e e') : Y2 K (rNeD K) d e m (.bl (!PyData.eqv d'.toPy e'.toPy)) m := y_neD h1.pd.1 h2.pd.1 h1.pd.2.1 h2.pd.2.1
theorem y_eqSame (h1 : Sd m d d') (h2 : Sd m e d') : Y2 K (rEqD K) d e m (.bl true) m := by
  have q := y_eqT (K := K) h1 h2
  rwa [SeqAt.eqv_refl _ h1.pd.2.2] at q
theorem y_neSame (h1 : Sd m d d') (h2 : Sd m e d') : Y2 K (rNeD K) d e m (.bl false) m := by
  have q := y_neT (K := K) h1 h2
  rwa [SeqAt.eqv_refl _ h1.pd.2.2] at q
/-- a list's emptiness -/
theorem eqv_nil (xs : List PyData) : PyData.eqv (.list xs) (.list []) = xs.isEmpty := by cases xs <;> rfl
theorem nil_eqv (xs : List PyData) : PyData.eqv (.list []) (.list xs) = xs.isEmpty := by cases xs <;> rfl
theorem toPys_empty (xs : List D) : (D.toPys xs).isEmpty = xs.isEmpty := by cases xs <;> rfl
theorem toPys_len : ∀ xs : List D, (D.toPys xs).length = xs.length
  | [] => rfl
  | x :: xs => congrArg Nat.succ (toPys_len xs)
theorem y_neNil {xs : List D} (h : Sd m d (.lst xs)) : Y2 K (rNeD K) d (.lst []) m (.bl (!xs.isEmpty)) m := by
  have q := y_neT (K := K) h (.data (d := .lst []) (fun x hx => nomatch hx))
  rw [show (D.lst xs).toPy = .list (D.toPys xs) from rfl] at q
  rw [show (D.lst []).toPy = .list [] from rfl, eqv_nil, toPys_empty] at q
  exact q
theorem y_eqNil {xs : List D} (h : Sd m d (.lst xs)) : Y2 K (rEqD K) d (.lst []) m (.bl xs.isEmpty) m := by
  have q := y_eqT (K := K) h (.data (d := .lst []) (fun x hx => nomatch hx))
  rw [show (D.lst xs).toPy = .list (D.toPys xs) from rfl] at q
  rw [show (D.lst []).toPy = .list [] from rfl, eqv_nil, toPys_empty] at q
  exact q
theorem y_powK {z : Int} {n : Nat} (h : CPow i (n : Int)) (e : i ^ n = z) : Y2 K oPow (.int i) (.int (n : Int)) m (.int z) m := by
  rw [← e]; exact y_pow h
theorem y_subK {z : Int} (e : i - j = z) : Y2 K oSub (.int i) (.int j) m (.int z) m := by
  rw [← e]; exact y_sub
theorem y_addK {z : Int} (e : i + j = z) : Y2 K oAdd (.int i) (.int j) m (.int z) m := by
  rw [← e]; exact y_add
/-- a loop that leaves the state as it is -/
theorem ys_forC {α : Type} {C : Store → Prop} {wi : TI} (ys : List α) (en : α → D) (hi : YI K C wi δ m (ys.map en) m1) (hC : C m1) (δ0 : En) (w : Weak δ δ0)
    (step : ∀ y ∈ ys, ∃ δ' δ'', YG K g (en y) δ0 δ' ∧ YS K W t δ' m1 (.nx δ'' m1) ∧ Weak δ'' δ0) : YS K W (tFor wi g t) δ m (.nx δ0 m1) :=
  ys_forG hi ys.length (fun _ => δ0) (fun _ => m1) w rfl (fun _ _ => hC) (by simp) (fun i d hi hd => by
    rw [List.getElem?_map] at hd
    cases e : ys[i]? with
    | none => rw [e] at hd; cases hd
    | some y =>
      rw [e] at hd; cases hd
      obtain ⟨δ', δ'', h1, h2, h3⟩ := step y (List.mem_of_getElem? e)
      exact ⟨δ', _, h1, h2, .nx h3⟩) (.inl ⟨by simp, rfl⟩)
/-- a loop that folds a state s, over typed items -/
theorem ys_forF {α S : Type} {C : Store → Prop} {wi : TI} (ys : List α) (en : α → D) (hi : YI K C wi δ m (ys.map en) m1) (f : S → α → S) (s0 : S) (δf : S → En) (mf : S → Store) (w : Weak δ (δf s0)) (e0 : mf s0 = m1)
    (hC : ∀ i, i ≤ ys.length → C (mf ((ys.take i).foldl f s0)))
    (step : ∀ i y, ys[i]? = some y → ∃ δ' δ'', YG K g (en y) (δf ((ys.take i).foldl f s0)) δ' ∧ YS K W t δ' (mf ((ys.take i).foldl f s0)) (.nx δ'' (mf (f ((ys.take i).foldl f s0) y))) ∧ Weak δ'' (δf (f ((ys.take i).foldl f s0) y))) :
    YS K W (tFor wi g t) δ m (.nx (δf (ys.foldl f s0)) (mf (ys.foldl f s0))) := by
  have key := ys_forG (K := K) (W := W) (t := t) (g := g) (o := .nx (δf ((ys.take ys.length).foldl f s0)) (mf ((ys.take ys.length).foldl f s0))) hi ys.length (fun i => δf ((ys.take i).foldl f s0)) (fun i => mf ((ys.take i).foldl f s0)) w e0 hC (by simp) (fun i d hi hd => by
    rw [List.getElem?_map] at hd
    cases e : ys[i]? with
    | none => rw [e] at hd; cases hd
    | some y =>
      rw [e] at hd; cases hd
      obtain ⟨δ', δ'', h1, h2, h3⟩ := step i y e
      have et : (ys.take (i + 1)).foldl f s0 = f ((ys.take i).foldl f s0) y := by rw [List.take_add_one, e]; simp
      refine ⟨δ', _, h1, h2, ?_⟩
      show TurnX (δf ((ys.take (i + 1)).foldl f s0)) (mf ((ys.take (i + 1)).foldl f s0)) _
      rw [et]; exact .nx h3) (.inl ⟨by simp, rfl⟩)
  rw [List.take_length] at key
  exact key
/-- the law's own call -/
theorem law_start {S : Spec} {H : Hp} {a : Addr} {ns : List Int} (hS : SqL K H a (ns.map V.int)) (h : S [.scr ns] [] (.ok (.bl true)) []) : spD K S [.ref a] H (fun v _ => v = .bl true) (fun _ _ _ => False) :=
  ⟨[], H, [], [.scr ns], .ok (.bl true), [], ⟨rfl, Same.refl _, fun k a c e => by simp at e, fun k l a e => by simp at e⟩, .cons (.scr hS) .nil, h, fun v r F H _ _ p => by cases p; rfl⟩
end
end DL
namespace DL
open PySem PySem.Spec PyProof.Rows L2

/-! ### isinstance of errors, of None -/
def rIsX (K : PySem.W.Frag) : List V → Hp → VK → Prop := fun xs H Q => ∃ (a E : Addr) (c : V) (cv : Value) (b : Bool), xs = [.ref a, c] ∧ (H a = some (ExV (.ref E) a) ∨ H a = some (ExO (.ref E) a)) ∧ ExcC K E ∧ ClsV c cv ∧ PySem.W.kitOne K (.ref E) cv = some b ∧ Q (.bl b) H
def rIsA (K : PySem.W.Frag) : List V → Hp → VK → Prop := fun xs H Q => rIsX K xs H Q ∨ rIsi K xs H Q
theorem exc_at {X : Cx} {pins : List (Addr × Obj)} {σ : L2.St} {H : Hp} {s : Shared} {a E : Addr} (I : Inv X pins σ H s) (h : H a = some (ExV (.ref E) a) ∨ H a = some (ExO (.ref E) a)) : ∃ oe, PySem.W.InstAt s.heap a oe E none := by
  have key : ∃ (oe : Obj) (vs : Array Value), s.heap.get? a = some oe ∧ Zc (.ref E) none oe ∧ oe.data = .fields vs := by
    rcases h with h | h
    · obtain ⟨⟨oe, vs, e, z, d⟩, _⟩ := I.hok a _ h
      exact ⟨oe, vs, e, z, d⟩
    · obtain ⟨⟨oe, vs, e, z, d, _⟩, _⟩ := I.hok a _ h
      exact ⟨oe, vs, e, z, d⟩
  obtain ⟨⟨oc, od, oda, osl⟩, vs, e, ⟨z1, z2⟩, d⟩ := key
  dsimp only at z1 z2 d
  subst z1 z2 d
  exact ⟨_, e, rfl, rfl, trivial⟩
theorem call_isA {X : Cx} : CallR X (.builtin "isinstance") (rIsA X.K) := by
  intro pins s σ H xs us Q I r h
  rcases h with ⟨a, E, c, cv, b, rfl, ha, C, k, e, q⟩ | h
  · cases r with
    | cons rx rr => cases rr with
      | cons rt rr =>
        cases rr
        cases rx
        have ec := k.eq rt
        subst ec
        obtain ⟨oe, J⟩ := exc_at I ha
        exact PySem.W.kia_one (PySem.W.handS_kitx_exc C.hg C.hk C.hs C.hd C.ha C.hn C.ht C.hm) I.kIn J e (fun z => nomatch z) fun tk => ⟨.bl b, H, I.kept (t' := tk) fun _ _ z => z, rfl, q⟩
  · exact call_isi pins s σ H xs us Q I r h

/-! ### the classes of refusals -/
def kinds : List Str := ["NoSpan", "NoPlace", "NoCover", "NoWeight", "NoCount", "NoName", "Twice", "Full", "Bare", "NoDeed", "NoText", "NoLine"]
def ga (K : PySem.W.Frag) (x : Str) : Addr := He.ga K x
def excB (K : PySem.W.Frag) (E : Addr) : Bool :=
  decide (PySem.W.findIn K (.ref E) "__getattribute__" = some (some (.builtin "BaseException.__getattribute__"))) && (decide (PySem.W.findIn K (.ref E) "__getattr__" = some none) &&
  (decide (PySem.W.subIn K (.ref E) (.type "BaseException") = some true) && (PySem.W.hasDictIn K E && (decide (PySem.W.findIn K (.ref E) "__class__" = some (some (.builtin "object.__class__"))) &&
  (decide (PySem.W.specialIn K (.builtin "object.__class__") "__get__" = some (some (.builtin "getset_descriptor.__get__"))) && (decide (PySem.W.takesIn K (.builtin "object.__class__") = some true) && decide (PySem.W.mroIn K E (.type "object") = some true)))))))
theorem excB_ok {K : PySem.W.Frag} {E : Addr} (h : excB K E = true) : ExcC K E := by
  unfold excB at h
  simp only [Bool.and_eq_true, decide_eq_true_eq] at h
  obtain ⟨h1, h2, h3, h4, h5, h6, h7, h8⟩ := h
  exact ⟨h1, h2, h3, h4, h5, h6, h7, h8⟩
def isK (K : PySem.W.Frag) (t c : Value) (b : Bool) : Bool := decide (PySem.W.kitOne K t c = some b)
/-- what is asked of the classes ns, which stand under ShelfError -/
def xsB (ns : List Str) (K : PySem.W.Frag) : Bool :=
  (ns.all fun x => (He.Fa.exc x).ok K && (excB K (ga K x) && (isK K (.ref (ga K x)) (.ref (ga K "ShelfError")) true && (isK K (.ref (ga K x)) (.type "ValueError") true && (isK K (.type "NoneType") (.ref (ga K x)) false && (isK K (.ref (ga K "ShelfError")) (.ref (ga K x)) false &&
    (decide (PySem.W.exmOne K (.ref (ga K x)) (.ref (ga K "ShelfError")) = some true) && (eqO1 K x && ns.all fun y => isK K (.ref (ga K x)) (.ref (ga K y)) (decide (x = y))))))))))
  && ((He.Fa.exc "ShelfError").ok K && (excB K (ga K "ShelfError") && (isK K (.ref (ga K "ShelfError")) (.ref (ga K "ShelfError")) true && (isK K (.ref (ga K "ShelfError")) (.type "ValueError") true && (isK K (.type "NoneType") (.ref (ga K "ShelfError")) false && (isK K (.type "NoneType") (.type "ValueError") false && eqO1 K "ShelfError"))))))
where eqO1 (K : PySem.W.Frag) (x : Str) : Bool := decide (PySem.W.nsIn K mainGlobals x = some (some (.ref (ga K x))))
structure XCls (K : PySem.W.Frag) (ns : List Str) (x : Str) : Prop where
  ex : PySem.W.excIn K (ga K x) He.veBase "ValueError.__new__" = true
  kp : PySem.W.keepIn K (.ref (ga K x)) = true
  sb : PySem.W.subIn K (.ref (ga K x)) (.type "BaseException") = some true
  ty : PySem.W.typeIn K (.ref (ga K x)) = some (.type "type")
  c : ExcC K (ga K x)
  s : PySem.W.kitOne K (.ref (ga K x)) (.ref (ga K "ShelfError")) = some true
  v : PySem.W.kitOne K (.ref (ga K x)) (.type "ValueError") = some true
  n : PySem.W.kitOne K (.type "NoneType") (.ref (ga K x)) = some false
  g : PySem.W.nsIn K mainGlobals x = some (some (.ref (ga K x)))
structure Xs (K : PySem.W.Frag) (ns : List Str) : Prop where
  one : ∀ x ∈ ns, XCls K ns x
  up : XCls K ns "ShelfError"
  kit : ∀ x ∈ ns, ∀ y ∈ ns, PySem.W.kitOne K (.ref (ga K x)) (.ref (ga K y)) = some (decide (x = y))
  down : ∀ x ∈ ns, PySem.W.kitOne K (.ref (ga K "ShelfError")) (.ref (ga K x)) = some false
  exm : ∀ x ∈ ns, PySem.W.exmOne K (.ref (ga K x)) (.ref (ga K "ShelfError")) = some true
  nv : PySem.W.kitOne K (.type "NoneType") (.type "ValueError") = some false
theorem xsB_ok {K : PySem.W.Frag} {ns : List Str} (h : xsB ns K = true) : Xs K ns := by
  unfold xsB at h
  obtain ⟨h1, h2⟩ := Bool.and_eq_true_iff.mp h
  have d := fun {p : Prop} [Decidable p] (q : decide p = true) => of_decide_eq_true q
  have one : ∀ x ∈ ns, XCls K ns x ∧ (∀ y ∈ ns, PySem.W.kitOne K (.ref (ga K x)) (.ref (ga K y)) = some (decide (x = y))) ∧ PySem.W.kitOne K (.ref (ga K "ShelfError")) (.ref (ga K x)) = some false ∧ PySem.W.exmOne K (.ref (ga K x)) (.ref (ga K "ShelfError")) = some true := by
    intro x hx
    have q := List.all_eq_true.mp h1 x hx
    simp only [Bool.and_eq_true] at q
    obtain ⟨q1, q2, q3, q4, q5, q6, q7, q8, q9⟩ := q
    obtain ⟨e1, e2, e3, e4⟩ := He.exc_ok q1
    exact ⟨⟨e1, e2, e3, e4, excB_ok q2, of_decide_eq_true q3, of_decide_eq_true q4, of_decide_eq_true q5, of_decide_eq_true q8⟩, fun y hy => of_decide_eq_true (List.all_eq_true.mp q9 y hy), of_decide_eq_true q6, of_decide_eq_true q7⟩
  simp only [Bool.and_eq_true] at h2
  obtain ⟨q1, q2, q3, q4, q5, q6, q7⟩ := h2
  obtain ⟨e1, e2, e3, e4⟩ := He.exc_ok q1
  exact ⟨fun x hx => (one x hx).1, ⟨e1, e2, e3, e4, excB_ok q2, of_decide_eq_true q3, of_decide_eq_true q4, of_decide_eq_true q5, of_decide_eq_true q7⟩, fun x hx => (one x hx).2.1, fun x hx => (one x hx).2.2.1, fun x hx => (one x hx).2.2.2, of_decide_eq_true q6⟩
theorem XCls.mg {K : PySem.W.Frag} {ns : List Str} {x : Str} {h : Heap} {mg : Str → Option Value} (c : XCls K ns x) (X : K.In h) (G : h.Ns mainGlobals mg) : mg x = some (.ref (ga K x)) := PySem.W.mg_of X G c.g

/-! ### the head's hook with one truth more -/
def obsB (n : Nat) (fa : List He.Fa) (fn : List He.DefD) (ex : PySem.W.Frag → Bool) (g : Addr → Option Obj) : He.AlD × Bool := (He.obsD fa fn (He.frG g (He.asD g n)), ex (He.frG g (He.asD g n)))
def hookB (n : Nat) (fa : List He.Fa) (fn : List He.DefD) (ex : PySem.W.Frag → Bool) : PySem.W.Hook where
  α := He.AlD × Bool
  obs := fun s => obsB n fa fn ex s.heap.get?
  val := fun _ => (He.valD fn, true)
  says := fun _ h => ∃ K : PySem.W.Frag, K.In h ∧ He.SaysD fa fn K ∧ ex K = true
  of := fun _ _ e => ⟨_, He.frG_in, congrArg Prod.fst e, congrArg Prod.snd e⟩
  keeps := fun _ _ _ ⟨K, hK, c⟩ k => ⟨K, PySem.W.Frag.In.keeps hK k, c⟩
theorem obsB_eq {n : Nat} {fa : List He.Fa} {fn : List He.DefD} {ex : PySem.W.Frag → Bool} {g : Addr → Option Obj} {s : Shared} (h : ∀ a, g a = s.heap.get? a) : obsB n fa fn ex g = (hookB n fa fn ex).obs s := by
  have e : g = s.heap.get? := funext h
  rw [e]; rfl

/-! ### raising -/
def tRaise (W : WX) (C : Value) : TS := fun _ σ H => W C none σ H
theorem ps_raiseK {X : Cx} {ns : List Str} {W : WX} {x msg : Str} {k : Nat} {p p2 pos pos2 : Pos} (c : XCls X.K ns x) (m : X.mg x = some (.ref (ga X.K x))) (hc : X.calm = true) (tk : Takes X W) (hg : Gl X x) (hdb : (x == ("__debug__" : Str)) = false := by decide) :
    PS X (.Raise (some (.Call (.Name x p) [.Constant (.str msg) k p2] [] pos)) none pos2) (tRaise W (.ref (ga X.K x))) := ps_raise hc tk (pmk_own PySem.F.excBase_ValueError c.ex m c.kp (raises_own c.sb c.ty) hg hdb)
/-- an expression that raises -/
def YX (K : PySem.W.Frag) (W : WX) (t : TE) (δ : En) (m : Store) (C : Value) (m' : Store) : Prop := ∀ r F H σ, HR K r F H m → ER K r F σ δ → (∀ r' F' H', HR K r' F' H' m' → Ext r F H m r' F' H' m' → W C none σ H') → ∀ Q : VK, t σ H Q
section
variable {K : PySem.W.Frag} {W : WX} {te ta tb : TE} {tt : TT} {t u : TS} {g : TG} {δ δ1 δ2 : En} {m m1 m2 m3 : Store} {d e : D} {o : Out} {tas : TA} {i j : Nat} {C : Value}
theorem ys_raise : YS K W (tRaise W C) δ m (.ex C δ m) := fun r F H σ D hr er q => q σ r F H hr er (Ext.refl hr)
theorem yx_call {S : Spec} {ds : List D} (ha : YA K tas δ m ds m1) (hs : S ds m1 (.ex C) m2) : YX K W (tCallS (spD K S) (WE W) tas) δ m C m2 := fun r F H σ hr er q Q =>
  ha r F H σ hr er _ fun ws r1 F1 H1 hr1 x1 p1 => ⟨r1, F1, m1, ds, .ex C, m2, hr1, p1, hs, fun r2 F2 H2 hr2 x2 => q r2 F2 H2 hr2 (x1.trans hr1.len hr.len x2)⟩
theorem ys_exprX (h : YX K W te δ m C m1) : YS K W (tDrop te) δ m (.ex C δ m1) := fun r F H σ D hr er q => h r F H σ hr er (fun r' F' H' h1 x1 => q σ r' F' H' h1 (er.ext x1) x1) _
theorem ys_retX (h : YX K W te δ m C m1) : YS K W (tRet te) δ m (.ex C δ m1) := fun r F H σ D hr er q => h r F H σ hr er (fun r' F' H' h1 x1 => q σ r' F' H' h1 (er.ext x1) x1) _
theorem ys_asgX (h : YX K W te δ m C m1) : YS K W (tAsg te g) δ m (.ex C δ m1) := fun r F H σ D hr er q => h r F H σ hr er (fun r' F' H' h1 x1 => q σ r' F' H' h1 (er.ext x1) x1) _
/-- try: .. except c as i: j = i -/
def tTry (K : PySem.W.Frag) (c : Value) (i j : Nat) (tb : WX → TS) : TS := fun D σ H => tb (wKeep K c i j D) D σ H
theorem ys_tryN {c : Value} {tb : WX → TS} (h : ∀ W', YS K W' (tb W') δ m (.nx δ1 m1)) : YS K W (tTry K c i j tb) δ m (.nx δ1 m1) := fun r F H σ D hr er q => h _ r F H σ D hr er q
theorem er_none {r : List Addr} {F : Hp} {σ : L2.St} (h : ER K r F σ δ) : ER K r F (σ.set i none) (δ.set i none) := by
  refine ⟨by simp [h.1], fun l e he => ?_⟩
  by_cases hl : i = l
  · subst hl
    have q : i < (δ.set i none).length := (List.getElem?_eq_some_iff.mp he).1
    rw [List.length_set] at q
    rw [List.getElem?_set_self q] at he; cases he
  · rw [List.getElem?_set_ne hl] at he ⊢
    exact h.2 l e he
theorem ys_tryX {c : Value} {x : Str} {tb : WX → TS} (h : ∀ W', YS K W' (tb W') δ m (.ex (.ref (ga K x)) δ1 m1)) (he : PySem.W.exmOne K (.ref (ga K x)) c = some true) : YS K W (tTry K c i j tb) δ m (.nx (((δ1.set i (some (.exc x))).set j (some (.exc x))).set i none) m1) := fun r F H σ D hr er q =>
  h _ r F H σ D hr er fun σ1 r1 F1 H1 hr1 er1 x1 => ⟨he, rfl, fun a na => by
    have x2 : Ext r1 F1 H1 m1 r1 (upd F1 a (ExV (.ref (ga K x)) a)) (upd H1 a (ExV (.ref (ga K x)) a)) m1 := Ext.laid hr1 na
    have rp : Rep K r1 (upd F1 a (ExV (.ref (ga K x)) a)) (.ref a) (.exc x) := .exc (.inl upd_same)
    exact q _ r1 _ _ (hr1.laid na) (er_none (((er1.ext x2).set i rp).set j rp)) (x1.trans hr1.len hr.len x2)⟩
/-- X(..) as a value -/
def tExc (C : Addr) (ta : TA) : TE := fun σ H Q => ta σ H fun _ H1 => ∀ a, H1 a = none → Q (.ref a) (upd H1 a (ExO (.ref C) a))
theorem ye_exc {x : Str} {ds : List D} (ha : YA K tas δ m ds m1) : YE K (tExc (ga K x) tas) δ m (.exc x) m1 := fun r F H σ hr er Q q =>
  ha r F H σ hr er _ fun vs r1 F1 H1 hr1 x1 p1 a na => q _ r1 _ _ (hr1.laid na) (x1.trans hr1.len hr.len (Ext.laid hr1 na)) (.exc (.inr upd_same))
/-- isinstance(e, c) of an error, of None -/
theorem ye_isX {x : Str} {c : V} {cv : Value} {b : Bool} (he : YE K te δ m (.exc x) m1) (hE : ExcC K (ga K x)) (hc : ClsV c cv) (hb : PySem.W.kitOne K (.ref (ga K x)) cv = some b) : YE K (tCB (rIsA K) (tCons te (tCons (tC c) tNil))) δ m (.bl b) m1 := fun r F H σ hr er Q q =>
  he r F H σ hr er _ fun v r1 F1 H1 hr1 x1 p1 => by
    cases p1 with
    | exc h => exact .inl ⟨_, ga K x, c, cv, b, rfl, h.imp (hr1.sub _ _) (hr1.sub _ _), hE, hc, hb, q _ r1 F1 H1 hr1 x1 (.bl _)⟩
theorem ye_isNon {c : V} {cv : Value} {b : Bool} (he : YE K te δ m .non m1) (hc : ClsV c cv) (hb : PySem.W.kitOne K (.type "NoneType") cv = some b) : YE K (tCB (rIsA K) (tCons te (tCons (tC c) tNil))) δ m (.bl b) m1 := fun r F H σ hr er Q q =>
  he r F H σ hr er _ fun v r1 F1 H1 hr1 x1 p1 => by
    cases p1
    exact .inr ⟨.non, c, .type "NoneType", cv, b, rfl, hc, .base .non, hb, q _ r1 F1 H1 hr1 x1 (.bl _)⟩
end
section
variable {X : Cx} {ns : List Str} {x : Str} {p pos : Pos} {e : Expr}
theorem pe_excK1 {te : TE} (c : XCls X.K ns x) (m : X.mg x = some (.ref (ga X.K x))) (hg : Gl X x) (he : PE X e te) (hs : starEach [e] X.env = (false, eval e X.env) :: starEach [] X.env := by rfl) (hdb : (x == ("__debug__" : Str)) = false := by decide) :
    PE X (.Call (.Name x p) [e] [] pos) (tExc (ga X.K x) (tCons te tNil)) := pe_exc1 PySem.F.excBase_ValueError c.ex m c.kp hg he hs hdb
theorem pe_excK0 (c : XCls X.K ns x) (m : X.mg x = some (.ref (ga X.K x))) (hg : Gl X x) (hdb : (x == ("__debug__" : Str)) = false := by decide) : PE X (.Call (.Name x p) [] [] pos) (tExc (ga X.K x) tNil) := by
  refine ⟨fun pins s σ H Q I h => ?_⟩
  refine wpAny_Call_Name_kw (ld_glob I hg m ?_ hdb)
  refine PySem.W.callWith_K0 I.kIn c.kp ?_
  obtain ⟨bm, N, nm, qn, bs, hdct, sn, sub, ab, col, dd, k0, k1, k2, k3, k5, mN, hC, hN, hni, T⟩ := exc_obj I.kIn c.ex
  refine wpAny_call_exc_subT PySem.F.excBase_ValueError T hC hN hni (fun h' a hm => ?_) (by show 0 ≤ sizeLine; exact Nat.zero_le _)
  have hn : H a = none := I.hok.gone hm.new
  obtain ⟨t, ht, _, _⟩ := hm.there
  exact ⟨.ref a, upd H a (ExO (.ref (ga X.K x)) a), I.laidN hm.keeps hm.new hn (exO_ok ht ⟨rfl, rfl⟩ rfl rfl rfl (show 4 < 6 by decide)), rfl, h a hn⟩
theorem pe_ownS {j : Nat} {S : Spec} {ps : List Str} {W : WX} {es : List Expr} {t : TA} (C : Cal X.prog X.w X.K X.mg X.base x j ps S) (tk : Takes X W) (hr : Room j X.A) (hg : Gl X x) (ha : PA X (e :: es) t) (hdb : (x == ("__debug__" : Str)) = false := by decide)
    (he : starEach (e :: es) X.env = (false, eval e X.env) :: starEach es X.env := by rfl) (hpl : (backTo pos (starEach es X.env)).any (·.1) = false := by rfl) : PE X (.Call (.Name x p) (e :: es) [] pos) (tCallS (spD X.K S) (WE W) t) := by
  obtain ⟨fd, F, b, kp, m⟩ := C
  exact pe_callS F hr hg m kp b (fun σ => passAt tk σ) ha hdb he hpl
end
theorem bt_ValueError : bootBuiltins "ValueError" = some (.type "ValueError") := by decide +kernel
end DL
/-! The evaluator over plain data: what a reading computes, as a Lean function; each construct's function is sound for its reading, once for all. -/
namespace DL
open PySem PySem.Spec PyProof.Rows L2

inductive RX (α : Type) where
  | ok (a : α)
  | ex (x : Str)
abbrev MX (α : Type) := Option (RX α × Store)
def MX.bind {α β : Type} (x : MX α) (k : α → Store → MX β) : MX β :=
  match x with
  | some (.ok a, m) => k a m
  | some (.ex x, m) => some (.ex x, m)
  | none => none
abbrev ret {α : Type} (a : α) (m : Store) : MX α := some (.ok a, m)
section
variable {α β : Type} {a : α} {m : Store} {x : Str} {k : α → Store → MX β}
theorem bind_ok : MX.bind (some (.ok a, m)) k = k a m := rfl
theorem bind_ex : MX.bind (some (.ex x, m)) k = some (.ex x, m) := rfl
theorem bind_none : MX.bind none k = none := rfl
theorem bind_some {x : MX α} {res : RX β} {m' : Store} (h : x.bind k = some (res, m')) : (∃ a m1, x = some (.ok a, m1) ∧ k a m1 = some (res, m')) ∨ ∃ y, x = some (.ex y, m') ∧ res = .ex y := by
  cases x with
  | none => cases h
  | some p =>
    obtain ⟨r, m1⟩ := p
    cases r with
    | ok a => exact .inl ⟨a, m1, rfl, h⟩
    | ex y => cases h; exact .inr ⟨y, rfl, rfl⟩
end
abbrev ME := En → Store → MX D
abbrev MT := En → Store → MX Bool
abbrev MA := En → Store → MX (List D)
/-! ### the judgement -/
abbrev Rel (α β : Type) := Hp → Store → List Addr → Hp → Hp → α → β → Prop
section
variable {α β γ κ : Type}
def JAt (K : PySem.W.Frag) (W : WX) (R : Rel α β) (r : List Addr) (F H : Hp) (σ : L2.St) (m : Store) (t : Hp → (α → Hp → Prop) → Prop) : RX β → Store → Prop
  | .ok b, m' => ∀ Q : α → Hp → Prop, (∀ a r' F' H', HR K r' F' H' m' → Ext r F H m r' F' H' m' → R H m' r' F' H' a b → Q a H') → t H Q
  | .ex x, m' => (∀ r' F' H', HR K r' F' H' m' → Ext r F H m r' F' H' m' → W (.ref (ga K x)) none σ H') → ∀ Q : α → Hp → Prop, t H Q
def JX (K : PySem.W.Frag) (W : WX) (R : Rel α β) (t : L2.St → Hp → (α → Hp → Prop) → Prop) (δ : En) (m : Store) (res : RX β) (m' : Store) : Prop := ∀ r F H σ, HR K r F H m → ER K r F σ δ → JAt K W R r F H σ m (t σ) res m'
def So (K : PySem.W.Frag) (W : WX) (R : Rel α β) (t : L2.St → Hp → (α → Hp → Prop) → Prop) (e : En → Store → MX β) : Prop := ∀ δ m res m', e δ m = some (res, m') → JX K W R t δ m res m'
def RMon (R : Rel α β) : Prop := ∀ H H1 m r F G a b, (∀ p, H1 p = none → H p = none) → R H1 m r F G a b → R H m r F G a b
variable {K : PySem.W.Frag} {W : WX} {R : Rel α β} {R' : Rel γ κ} {r : List Addr} {F H : Hp} {σ : L2.St} {m m1 m2 : Store} {t : Hp → (α → Hp → Prop) → Prop} {u : α → Hp → (γ → Hp → Prop) → Prop} {b : β} {res : RX κ}
theorem JAt.bind (mon : RMon R') (hr : HR K r F H m) (h : JAt K W R r F H σ m t (.ok b) m1)
    (k : ∀ a r1 F1 H1, HR K r1 F1 H1 m1 → Ext r F H m r1 F1 H1 m1 → R H m1 r1 F1 H1 a b → JAt K W R' r1 F1 H1 σ m1 (u a) res m2) : JAt K W R' r F H σ m (fun H Q => t H fun a H1 => u a H1 Q) res m2 := by
  cases res with
  | ok c => exact fun Q q => h _ fun a r1 F1 H1 hr1 x1 ra => k a r1 F1 H1 hr1 x1 ra Q fun c' r2 F2 H2 hr2 x2 rc => q c' r2 F2 H2 hr2 (x1.trans hr1.len hr.len x2) (mon _ _ _ _ _ _ _ _ (fun p => trk_back x1) rc)
  | ex x => exact fun q Q => h _ fun a r1 F1 H1 hr1 x1 ra => k a r1 F1 H1 hr1 x1 ra (fun r2 F2 H2 hr2 x2 => q r2 F2 H2 hr2 (x1.trans hr1.len hr.len x2)) Q
theorem JAt.thrown {x : Str} (h : JAt K W R r F H σ m t (.ex x) m1) : JAt K W R' r F H σ m (fun H Q => t H fun a H1 => u a H1 Q) (.ex x) m1 := fun q Q => h q _
theorem JAt.ret {a : α} (hr : HR K r F H m) (h : R H m r F H a b) : JAt K W R r F H σ m (fun H Q => Q a H) (.ok b) m := fun Q q => q a r F H hr (Ext.refl hr) h
/-- the bind of readings and of functions -/
theorem So.bind {ta : L2.St → Hp → (α → Hp → Prop) → Prop} {a : En → Store → MX β} {u : α → L2.St → Hp → (γ → Hp → Prop) → Prop} {k : β → En → Store → MX κ} (mon : RMon R') (ha : So K W R ta a)
    (hk : ∀ b δ m res m', k b δ m = some (res, m') → ∀ v r F H σ H0, HR K r F H m → ER K r F σ δ → R H0 m r F H v b → JAt K W R' r F H σ m (u v σ) res m') :
    So K W R' (fun σ H Q => ta σ H fun v H1 => u v σ H1 Q) (fun δ m => (a δ m).bind fun x m => k x δ m) := fun δ m res m' e r F H σ hr er => by
  rcases bind_some e with ⟨x, m1, e1, e2⟩ | ⟨y, e1, rfl⟩
  · exact (ha δ m _ _ e1 r F H σ hr er).bind mon hr fun v r1 F1 H1 hr1 x1 rv => hk x δ m1 res m' e2 v r1 F1 H1 σ H hr1 (er.ext x1) rv
  · exact (ha δ m _ _ e1 r F H σ hr er).thrown
end
abbrev RE (K : PySem.W.Frag) : Rel V D := fun _ _ r F _ v d => Rep K r F v d
abbrev RB : Rel Bool Bool := fun _ _ _ _ _ a b => a = b
abbrev RA (K : PySem.W.Frag) : Rel (List V) (List D) := fun _ _ r F _ v d => RepAll K r F v d
abbrev RO : Rel (Option Int) (Option Int) := fun _ _ _ _ _ a b => a = b
theorem re_mon {K : PySem.W.Frag} : RMon (RE K) := fun _ _ _ _ _ _ _ _ _ h => h
theorem rb_mon : RMon RB := fun _ _ _ _ _ _ _ _ _ h => h
theorem ra_mon {K : PySem.W.Frag} : RMon (RA K) := fun _ _ _ _ _ _ _ _ _ h => h
theorem ro_mon : RMon RO := fun _ _ _ _ _ _ _ _ _ h => h

/-! ### expressions -/
def eC (d : D) : ME := fun _ m => ret d m
def eVar (i : Nat) : ME := fun δ m => match δ[i]? with
  | some (some d) => ret d m
  | _ => none
def eOp (o : D → D → Store → MX D) (a b : ME) : ME := fun δ m => (a δ m).bind fun x m => (b δ m).bind fun y m => o x y m
def eUn (o : D → Store → MX D) (a : ME) : ME := fun δ m => (a δ m).bind fun x m => o x m
def eAnd (a b : ME) : ME := fun δ m => (a δ m).bind fun x m => match x with
  | .bl c => cond c (b δ m) (ret (.bl false) m)
  | _ => none
def eOr (a b : ME) : ME := fun δ m => (a δ m).bind fun x m => match x with
  | .bl c => cond c (ret (.bl true) m) (b δ m)
  | _ => none
def eNot (a : ME) : ME := fun δ m => (a δ m).bind fun x m => match x with
  | .bl c => ret (.bl (!c)) m
  | _ => none
def tst (a : ME) : MT := fun δ m => (a δ m).bind fun x m => match x with
  | .bl c => ret c m
  | _ => none
def mAnd (a b : MT) : MT := fun δ m => (a δ m).bind fun c m => cond c (b δ m) (ret false m)
def mOr (a b : MT) : MT := fun δ m => (a δ m).bind fun c m => cond c (ret true m) (b δ m)
def mNot (a : MT) : MT := fun δ m => (a δ m).bind fun c m => ret (!c) m
def mYes : MT := fun _ m => ret true m
def eIf (t : MT) (a b : ME) : ME := fun δ m => (t δ m).bind fun c m => cond c (a δ m) (b δ m)
def eChain (o1 o2 : D → D → Store → MX D) (a b c : ME) : ME := fun δ m => (a δ m).bind fun x m => (b δ m).bind fun y m => (o1 x y m).bind fun z m => match z with
  | .bl k => cond k ((c δ m).bind fun w m => o2 y w m) (ret (.bl false) m)
  | _ => none
def aNil : MA := fun _ m => ret [] m
def aCons (a : ME) (as : MA) : MA := fun δ m => (a δ m).bind fun x m => (as δ m).bind fun xs m => ret (x :: xs) m
def eTup (as : MA) : ME := fun δ m => (as δ m).bind fun xs m => if xs.length ≤ 100000 then ret (.tup xs) m else none
def eCB (p : List D → Store → MX D) (as : MA) : ME := fun δ m => (as δ m).bind fun xs m => p xs m
section
variable {K : PySem.W.Frag} {W : WX} {ta tb tc : TE} {tt tu : TT} {tas : TA} {a b c : ME} {t u : MT} {as : MA}
/-- values -/
def S2 (K : PySem.W.Frag) (W : WX) (rr : R2) (o : D → D → Store → MX D) : Prop := ∀ x y m res m', o x y m = some (res, m') → ∀ r F H σ vx vy, HR K r F H m → Rep K r F vx x → Rep K r F vy y → JAt K W (RE K) r F H σ m (rr vx vy) res m'
def S1 (K : PySem.W.Frag) (W : WX) (rr : V → Hp → VK → Prop) (o : D → Store → MX D) : Prop := ∀ x m res m', o x m = some (res, m') → ∀ r F H σ vx, HR K r F H m → Rep K r F vx x → JAt K W (RE K) r F H σ m (rr vx) res m'
def SC {γ κ : Type} (K : PySem.W.Frag) (W : WX) (R : Rel γ κ) (rr : List V → Hp → (γ → Hp → Prop) → Prop) (o : List D → Store → MX κ) : Prop := ∀ xs m res m', o xs m = some (res, m') → ∀ r F H σ vs, HR K r F H m → RepAll K r F vs xs → JAt K W R r F H σ m (rr vs) res m'
theorem so_cint {i : Int} : So K W (RE K) (tC (.int i)) (eC (.int i)) := fun δ m res m' e r F H σ hr er => by cases e; exact JAt.ret hr (.int i)
theorem so_cbl {i : Bool} : So K W (RE K) (tC (.bl i)) (eC (.bl i)) := fun δ m res m' e r F H σ hr er => by cases e; exact JAt.ret hr (.bl i)
theorem so_cstr {i : Str} : So K W (RE K) (tC (.str i)) (eC (.str i)) := fun δ m res m' e r F H σ hr er => by cases e; exact JAt.ret hr (.str i)
theorem so_cnon : So K W (RE K) (tC .non) (eC .non) := fun δ m res m' e r F H σ hr er => by cases e; exact JAt.ret hr .non
theorem so_var {i : Nat} : So K W (RE K) (tVar i) (eVar i) := fun δ m res m' e r F H σ hr er => by
  unfold eVar at e
  split at e
  · rename_i d h
    cases e
    obtain ⟨v, e1, p⟩ := er.2 i d h
    exact fun Q q => ⟨v, e1, q v r F H hr (Ext.refl hr) p⟩
  · cases e
theorem so_op {rr : R2} {o : D → D → Store → MX D} (ho : S2 K W rr o) (ha : So K W (RE K) ta a) (hb : So K W (RE K) tb b) : So K W (RE K) (tOp rr ta tb) (eOp o a b) := fun δ m res m' e r F H σ hr er => by
  show JAt K W (RE K) r F H σ m (fun H Q => ta σ H fun x H1 => tb σ H1 fun y H2 => rr x y H2 Q) res m'
  rcases bind_some e with ⟨x, m1, e1, e2⟩ | ⟨y, e1, rfl⟩
  · refine (ha δ m _ _ e1 r F H σ hr er).bind re_mon hr fun v r1 F1 H1 hr1 x1 rv => ?_
    rcases bind_some e2 with ⟨y, m2, e3, e4⟩ | ⟨y, e3, rfl⟩
    · refine (hb δ m1 _ _ e3 r1 F1 H1 σ hr1 (er.ext x1)).bind re_mon hr1 fun w r2 F2 H2 hr2 x2 rw => ?_
      exact ho x y m2 res m' e4 r2 F2 H2 σ v w hr2 (rv.mono x2.pre x2.sub) rw
    · exact (hb δ m1 _ _ e3 r1 F1 H1 σ hr1 (er.ext x1)).thrown
  · exact (ha δ m _ _ e1 r F H σ hr er).thrown
theorem so_un {rr : V → Hp → VK → Prop} {o : D → Store → MX D} (ho : S1 K W rr o) (ha : So K W (RE K) ta a) : So K W (RE K) (tUn rr ta) (eUn o a) :=
  So.bind re_mon ha (k := fun x δ m => o x m) (u := fun x σ H Q => rr x H Q) fun x δ m res m' e v r F H σ _ hr er rv => ho x m res m' e r F H σ v hr rv
theorem so_and (ha : So K W (RE K) ta a) (hb : So K W (RE K) tb b) : So K W (RE K) (tAndV ta tb) (eAnd a b) :=
  So.bind re_mon ha (k := fun x δ m => match x with
    | .bl c => cond c (b δ m) (ret (.bl false) m)
    | _ => none) (u := fun x σ H Q => ∃ c, x = .bl c ∧ if c = true then tb σ H Q else Q (.bl false) H) fun x δ m res m' e v r F H σ _ hr er rv => by
    cases x with
    | bl c =>
      cases rv
      cases c with
      | true =>
        have h := hb δ m res m' e r F H σ hr er
        cases res with
        | ok z => exact fun Q q => ⟨true, rfl, h Q q⟩
        | ex z => exact fun q Q => ⟨true, rfl, h q Q⟩
      | false => cases e; exact fun Q q => ⟨false, rfl, q _ r F H hr (Ext.refl hr) (.bl false)⟩
    | _ => cases e
theorem so_or (ha : So K W (RE K) ta a) (hb : So K W (RE K) tb b) : So K W (RE K) (tOrV ta tb) (eOr a b) :=
  So.bind re_mon ha (k := fun x δ m => match x with
    | .bl c => cond c (ret (.bl true) m) (b δ m)
    | _ => none) (u := fun x σ H Q => ∃ c, x = .bl c ∧ if c = true then Q (.bl true) H else tb σ H Q) fun x δ m res m' e v r F H σ _ hr er rv => by
    cases x with
    | bl c =>
      cases rv
      cases c with
      | false =>
        have h := hb δ m res m' e r F H σ hr er
        cases res with
        | ok z => exact fun Q q => ⟨false, rfl, h Q q⟩
        | ex z => exact fun q Q => ⟨false, rfl, h q Q⟩
      | true => cases e; exact fun Q q => ⟨true, rfl, q _ r F H hr (Ext.refl hr) (.bl true)⟩
    | _ => cases e
theorem so_not (ha : So K W (RE K) ta a) : So K W (RE K) (tNotV ta) (eNot a) :=
  So.bind re_mon ha (k := fun x δ m => match x with
    | .bl c => ret (.bl (!c)) m
    | _ => none) (u := fun x σ H Q => ∃ c, x = .bl c ∧ Q (.bl (!c)) H) fun x δ m res m' e v r F H σ _ hr er rv => by
    cases x with
    | bl c => cases rv; cases e; exact fun Q q => ⟨c, rfl, q _ r F H hr (Ext.refl hr) (.bl _)⟩
    | _ => cases e
theorem so_test (ha : So K W (RE K) ta a) : So K W RB (tTest ta) (tst a) :=
  So.bind rb_mon ha (k := fun (x : D) δ m => match x with
    | .bl c => ret c m
    | _ => none) (u := fun (x : V) σ H Q => ∃ c : Bool, x = V.bl c ∧ Q c H) fun x δ m res m' e v r F H σ _ hr er rv => by
    cases x with
    | bl c => cases rv; cases e; exact fun Q q => ⟨c, rfl, q _ r F H hr (Ext.refl hr) rfl⟩
    | _ => cases e
theorem so_B (ha : So K W (RE K) ta a) : So K W RB (tB ta) (tst a) := so_test ha
theorem so_mAnd (ha : So K W RB tt t) (hb : So K W RB tu u) : So K W RB (tAnd tt tu) (mAnd t u) :=
  So.bind rb_mon ha (k := fun (c : Bool) δ m => cond c (u δ m) (ret false m)) (u := fun (c : Bool) σ H Q => if c = true then tu σ H Q else Q false H) fun x δ m res m' e v r F H σ _ hr er rv => by
    cases rv
    cases x with
    | true => exact hb δ m res m' e r F H σ hr er
    | false => cases e; exact fun Q q => q _ r F H hr (Ext.refl hr) rfl
theorem so_mOr (ha : So K W RB tt t) (hb : So K W RB tu u) : So K W RB (tOr tt tu) (mOr t u) :=
  So.bind rb_mon ha (k := fun (c : Bool) δ m => cond c (ret true m) (u δ m)) (u := fun (c : Bool) σ H Q => if c = true then Q true H else tu σ H Q) fun x δ m res m' e v r F H σ _ hr er rv => by
    cases rv
    cases x with
    | false => exact hb δ m res m' e r F H σ hr er
    | true => cases e; exact fun Q q => q _ r F H hr (Ext.refl hr) rfl
theorem so_mNot (ha : So K W RB tt t) : So K W RB (tNot tt) (mNot t) :=
  So.bind rb_mon ha (k := fun c δ m => ret (!c) m) (u := fun c σ H Q => Q (!c) H) fun x δ m res m' e v r F H σ _ hr er rv => by
    cases rv; cases e; exact fun Q q => q _ r F H hr (Ext.refl hr) rfl
theorem so_yes : So K W RB tYes mYes := fun δ m res m' e r F H σ hr er => by cases e; exact fun Q q => q _ r F H hr (Ext.refl hr) rfl
theorem so_if (ht : So K W RB tt t) (ha : So K W (RE K) ta a) (hb : So K W (RE K) tb b) : So K W (RE K) (tIf tt ta tb) (eIf t a b) :=
  So.bind re_mon ht (k := fun (c : Bool) δ m => cond c (a δ m) (b δ m)) (u := fun (c : Bool) σ H Q => if c = true then ta σ H Q else tb σ H Q) fun x δ m res m' e v r F H σ _ hr er rv => by
    cases rv
    cases x with
    | true => exact ha δ m res m' e r F H σ hr er
    | false => exact hb δ m res m' e r F H σ hr er
theorem so_chain {q1 q2 : R2} {o1 o2 : D → D → Store → MX D} (h1 : S2 K W q1 o1) (h2 : S2 K W q2 o2) (ha : So K W (RE K) ta a) (hb : So K W (RE K) tb b) (hc : So K W (RE K) tc c) : So K W (RE K) (tChain q1 q2 ta tb tc) (eChain o1 o2 a b c) := fun δ m res m' e r F H σ hr er => by
  show JAt K W (RE K) r F H σ m (fun H Q => ta σ H fun x H1 => tb σ H1 fun y H2 => q1 x y H2 fun z H3 => ∃ k, z = .bl k ∧ if k = true then tc σ H3 (fun w H4 => q2 y w H4 Q) else Q (.bl false) H3) res m'
  rcases bind_some e with ⟨x, m1, e1, e2⟩ | ⟨y, e1, rfl⟩
  · refine (ha δ m _ _ e1 r F H σ hr er).bind re_mon hr fun v r1 F1 H1 hr1 x1 rv => ?_
    rcases bind_some e2 with ⟨y, m2, e3, e4⟩ | ⟨y, e3, rfl⟩
    · refine (hb δ m1 _ _ e3 r1 F1 H1 σ hr1 (er.ext x1)).bind re_mon hr1 fun w r2 F2 H2 hr2 x2 rw => ?_
      rcases bind_some e4 with ⟨z, m3, e5, e6⟩ | ⟨z, e5, rfl⟩
      · refine (h1 x y m2 _ m3 e5 r2 F2 H2 σ v w hr2 (rv.mono x2.pre x2.sub) rw).bind re_mon hr2 fun z' r3 F3 H3 hr3 x3 rz => ?_
        cases z with
        | bl k =>
          cases rz
          cases k with
          | false => cases e6; exact fun Q q => ⟨false, rfl, q _ r3 F3 H3 hr3 (Ext.refl hr3) (.bl false)⟩
          | true =>
            have er3 := ((er.ext x1).ext x2).ext x3
            have key : JAt K W (RE K) r3 F3 H3 σ m3 (fun H Q => tc σ H fun w' H4 => q2 w w' H4 Q) res m' := by
              rcases bind_some e6 with ⟨u, m4, e7, e8⟩ | ⟨u, e7, rfl⟩
              · exact (hc δ m3 _ _ e7 r3 F3 H3 σ hr3 er3).bind re_mon hr3 fun w' r4 F4 H4 hr4 x4 rw' => h2 y u m4 res m' e8 r4 F4 H4 σ w w' hr4 (rw.mono (x3.pre.trans x4.pre) (x3.sub.trans x4.sub)) rw'
              · exact (hc δ m3 _ _ e7 r3 F3 H3 σ hr3 er3).thrown
            cases res with
            | ok z => exact fun Q q => ⟨true, rfl, key Q q⟩
            | ex z => exact fun q Q => ⟨true, rfl, key q Q⟩
        | _ => cases e6
      · exact (h1 x y m2 _ _ e5 r2 F2 H2 σ v w hr2 (rv.mono x2.pre x2.sub) rw).thrown
    · exact (hb δ m1 _ _ e3 r1 F1 H1 σ hr1 (er.ext x1)).thrown
  · exact (ha δ m _ _ e1 r F H σ hr er).thrown
theorem so_anil : So K W (RA K) tNil aNil := fun δ m res m' e r F H σ hr er => by cases e; exact JAt.ret hr .nil
theorem so_acons (ha : So K W (RE K) ta a) (hs : So K W (RA K) tas as) : So K W (RA K) (tCons ta tas) (aCons a as) := fun δ m res m' e r F H σ hr er => by
  show JAt K W (RA K) r F H σ m (fun H Q => ta σ H fun x H1 => tas σ H1 fun xs H2 => Q (x :: xs) H2) res m'
  rcases bind_some e with ⟨x, m1, e1, e2⟩ | ⟨y, e1, rfl⟩
  · refine (ha δ m _ _ e1 r F H σ hr er).bind ra_mon hr fun v r1 F1 H1 hr1 x1 rv => ?_
    rcases bind_some e2 with ⟨y, m2, e3, e4⟩ | ⟨y, e3, rfl⟩
    · refine (hs δ m1 _ _ e3 r1 F1 H1 σ hr1 (er.ext x1)).bind ra_mon hr1 fun ws r2 F2 H2 hr2 x2 rw => ?_
      cases e4
      exact JAt.ret hr2 (.cons (rv.mono x2.pre x2.sub) rw)
    · exact (hs δ m1 _ _ e3 r1 F1 H1 σ hr1 (er.ext x1)).thrown
  · exact (ha δ m _ _ e1 r F H σ hr er).thrown
theorem so_tup (hs : So K W (RA K) tas as) : So K W (RE K) (tTup tas) (eTup as) :=
  So.bind re_mon hs (k := fun xs δ m => if xs.length ≤ 100000 then ret (.tup xs) m else none) (u := fun xs σ H Q => xs.length ≤ sizeLine ∧ ∀ p, H p = none → Q (.ref p) (upd H p (.tup xs))) fun x δ m res m' e v r F H σ _ hr er rv => by
    split at e
    · rename_i hl
      cases e
      exact fun Q q => ⟨Evl.sz_of (by rw [rv.len]; exact hl), fun p hp => q _ r _ _ (hr.laid hp) (Ext.laid hr hp) (.tup upd_same (rv.mono (Pre.refl _) (Ext.laid hr hp).sub))⟩
    · cases e
theorem so_cb {γ κ : Type} {R : Rel γ κ} {rr : List V → Hp → (γ → Hp → Prop) → Prop} {o : List D → Store → MX κ} (mon : RMon R) (ho : SC K W R rr o) (hs : So K W (RA K) tas as) : So K W R (fun σ H Q => tas σ H fun vs H1 => rr vs H1 Q) (fun δ m => (as δ m).bind fun xs m => o xs m) :=
  So.bind mon hs (k := fun x δ m => o x m) (u := fun x σ H Q => rr x H Q) fun x δ m res m' e v r F H σ _ hr er rv => ho x m res m' e r F H σ v hr rv
theorem so_eCB {rr : List V → Hp → VK → Prop} {o : List D → Store → MX D} (ho : SC K W (RE K) rr o) (hs : So K W (RA K) tas as) : So K W (RE K) (tCB rr tas) (eCB o as) := so_cb re_mon ho hs
end
end DL
namespace DL
open PySem PySem.Spec PyProof.Rows L2

/-! ### what is new: lists that nothing else holds -/
inductive F1 where
  | pl (d : D)
  | own (xs : List D)
inductive FT where
  | pl (d : D)
  | own (xs : List D)
  | tup (fs : List F1)
abbrev MF := En → Store → MX FT
def F1.dat : F1 → D
  | .pl d => d
  | .own xs => .lst xs
def FT.dat : FT → D
  | .pl d => d
  | .own xs => .lst xs
  | .tup fs => .tup (fs.map F1.dat)
def celL : List F1 → Store → List D × Store
  | [], m => ([], m)
  | .pl d :: fs, m => (d :: (celL fs m).1, (celL fs m).2)
  | .own xs :: fs, m => (.cell m.length :: (celL fs (m ++ [.lst xs])).1, (celL fs (m ++ [.lst xs])).2)
def FT.cel : FT → Store → D × Store
  | .pl d, m => (d, m)
  | .own xs, m => (.cell m.length, m ++ [.lst xs])
  | .tup fs, m => (.tup (celL fs m).1, (celL fs m).2)
inductive OwnL (K : PySem.W.Frag) (r : List Addr) (F H : Hp) : List V → List F1 → List Addr → Prop
  | nil : OwnL K r F H [] [] []
  | pl {v : V} {d : D} {vs : List V} {fs : List F1} {as : List Addr} : Rep K r F v d → OwnL K r F H vs fs as → OwnL K r F H (v :: vs) (.pl d :: fs) as
  | own {p : Addr} {ws : List V} {xs : List D} {vs : List V} {fs : List F1} {as : List Addr} : H p = some (.lst ws) → RepAll K r F ws xs → OwnL K r F H vs fs as → OwnL K r F H (.ref p :: vs) (.own xs :: fs) (p :: as)
def OwnT (K : PySem.W.Frag) (r : List Addr) (F H : Hp) (v : V) : FT → List Addr → Prop
  | .pl d, as => Rep K r F v d ∧ as = []
  | .own xs, as => OwnL K r F H [v] [.own xs] as
  | .tup fs, as => ∃ p vs, v = .ref p ∧ F p = some (.tup vs) ∧ OwnL K r F H vs fs as
/-- the new ones' places -/
def New (H0 : Hp) (m : Store) (r : List Addr) (F : Hp) (as : List Addr) : Prop := as.Nodup ∧ ∀ p ∈ as, H0 p = none ∧ F p = none ∧ ∀ k : Nat, live m k → r[k]? ≠ some p
def RF (K : PySem.W.Frag) : Rel V FT := fun H0 m r F H v ft => ∃ as, OwnT K r F H v ft as ∧ New H0 m r F as
theorem rf_mon {K : PySem.W.Frag} : RMon (RF K) := fun H H1 m r F G a b k ⟨as, h1, h2, h3⟩ => ⟨as, h1, h2, fun p hp => ⟨k p (h3 p hp).1, (h3 p hp).2⟩⟩
section
variable {K : PySem.W.Frag} {r r0 : List Addr} {F H F0 H0 : Hp} {m m0 : Store}
theorem OwnL.mono {r' : List Addr} {F' : Hp} (p : Pre r r') (e : Same F F') : ∀ {vs : List V} {fs : List F1} {as : List Addr}, OwnL K r F H vs fs as → OwnL K r' F' H vs fs as
  | _, _, _, .nil => .nil
  | _, _, _, .pl h t => .pl (h.mono p e) (t.mono p e)
  | _, _, _, .own h q t => .own h (q.mono p e) (t.mono p e)
theorem OwnL.at_some : ∀ {vs : List V} {fs : List F1} {as : List Addr}, OwnL K r F H vs fs as → ∀ p ∈ as, ∃ o, H p = some o
  | _, _, _, .nil, p, hp => nomatch hp
  | _, _, _, .pl _ t, p, hp => t.at_some p hp
  | _, _, _, .own h _ t, p, hp => by
    rcases List.mem_cons.mp hp with rfl | hp
    · exact ⟨_, h⟩
    · exact t.at_some p hp
/-- all are frozen -/
theorem freezeAll : ∀ {as : List Addr} {F : Hp}, New H0 m r F as → (∀ p ∈ as, ∃ o, H p = some o) → HR K r F H m → Ext r0 F0 H0 m0 r F H m → ∃ F', HR K r F' H m ∧ Ext r0 F0 H0 m0 r F' H m ∧ Same F F' ∧ ∀ p ∈ as, F' p = H p
  | [], F, _, _, hr, x => ⟨F, hr, x, Same.refl F, fun p hp => nomatch hp⟩
  | a :: as, F, ⟨nd, hn⟩, ho, hr, x => by
    obtain ⟨o, eo⟩ := ho a List.mem_cons_self
    obtain ⟨h1, h2, h3⟩ := hn a List.mem_cons_self
    have nd' := List.nodup_cons.mp nd
    have s1 : Same F (upd F a o) := fun b u e => by rw [upd_ne (ne_of_none e h2)]; exact e
    obtain ⟨F', hr', x', s', e'⟩ := freezeAll (as := as) (F := upd F a o) ⟨nd'.2, fun p hp => by
      obtain ⟨q1, q2, q3⟩ := hn p (List.mem_cons_of_mem _ hp)
      have ne : p ≠ a := fun z => nd'.1 (z ▸ hp)
      exact ⟨q1, by rw [upd_ne ne]; exact q2, q3⟩⟩ (fun p hp => ho p (List.mem_cons_of_mem _ hp)) (hr.freeze h2 h3 eo) (x.freeze h2 h1)
    refine ⟨F', hr', x', s1.trans s', fun p hp => ?_⟩
    rcases List.mem_cons.mp hp with rfl | hp
    · rw [s' p o upd_same, eo]
    · exact e' p hp
theorem OwnL.dat {F' : Hp} (s : Same F F') : ∀ {vs : List V} {fs : List F1} {as : List Addr}, OwnL K r F H vs fs as → (∀ p ∈ as, F' p = H p) → RepAll K r F' vs (fs.map F1.dat)
  | _, _, _, .nil, _ => .nil
  | _, _, _, .pl h t, e => .cons (h.mono (Pre.refl _) s) (t.dat s e)
  | _, _, _, .own h q t, e => .cons (.lst ((e _ List.mem_cons_self).trans h) (q.mono (Pre.refl _) s)) (t.dat s fun p hp => e p (List.mem_cons_of_mem _ hp))
theorem rf_dat {v : V} {ft : FT} (hr : HR K r F H m) (x : Ext r0 F0 H0 m0 r F H m) (h : RF K H0 m r F H v ft) : ∃ F', HR K r F' H m ∧ Ext r0 F0 H0 m0 r F' H m ∧ Rep K r F' v ft.dat := by
  obtain ⟨as, h1, h2⟩ := h
  cases ft with
  | pl d => exact ⟨F, hr, x, h1.1⟩
  | own xs =>
    obtain ⟨F', hr', x', s, e⟩ := freezeAll h2 (OwnL.at_some h1) hr x
    have := OwnL.dat s h1 e
    cases this with
    | cons q _ => exact ⟨F', hr', x', q⟩
  | tup fs =>
    obtain ⟨p, vs, rfl, hp, h1⟩ := h1
    obtain ⟨F', hr', x', s, e⟩ := freezeAll h2 (OwnL.at_some h1) hr x
    exact ⟨F', hr', x', .tup (s _ _ hp) (OwnL.dat s h1 e)⟩
theorem celAll : ∀ {vs : List V} {fs : List F1} {as : List Addr} {r : List Addr} {m : Store}, OwnL K r F H vs fs as → New H0 m r F as → HR K r F H m → Ext r0 F0 H0 m0 r F H m → ∃ r', HR K r' F H (celL fs m).2 ∧ Ext r0 F0 H0 m0 r' F H (celL fs m).2 ∧ Pre r r' ∧ RepAll K r' F vs (celL fs m).1
  | _, _, _, r, m, .nil, _, hr, x => ⟨r, hr, x, Pre.refl _, .nil⟩
  | _, _, _, r, m, .pl h t, n, hr, x => by
    obtain ⟨r', hr', x', p, q⟩ := celAll t n hr x
    exact ⟨r', hr', x', p, .cons (h.mono p (Same.refl _)) q⟩
  | _, _, _, r, m, .own (p := p) (ws := ws) (xs := xs) h q t, ⟨nd, hn⟩, hr, x => by
    obtain ⟨h1, h2, h3⟩ := hn p List.mem_cons_self
    have nd' := List.nodup_cons.mp nd
    have hc := hr.toCell (c := .lst xs) h2 h3 ⟨ws, h, q⟩
    have pr : Pre r (r ++ [p]) := Pre.app r [p]
    obtain ⟨r', hr', x', p', q'⟩ := celAll (t.mono pr (Same.refl _)) ⟨nd'.2, fun a ha => by
      obtain ⟨q1, q2, q3⟩ := hn a (List.mem_cons_of_mem _ ha)
      refine ⟨q1, q2, fun k l e => ?_⟩
      rcases live_app l with z | rfl
      · rw [List.getElem?_append_left (by rw [hr.len]; exact live_lt z)] at e
        exact q3 k z e
      · have last : (r ++ [p])[m.length]? = some p := by rw [← hr.len]; simp
        rw [last] at e
        cases e
        exact nd'.1 ha⟩ hc (x.toCell hr.len h1)
    refine ⟨r', hr', x', pr.trans p', .cons (.cell (p' _ _ ?_)) q'⟩
    rw [← hr.len]; simp
theorem rf_cel {v : V} {ft : FT} (hr : HR K r F H m) (x : Ext r0 F0 H0 m0 r F H m) (h : RF K H0 m r F H v ft) : ∃ r', HR K r' F H (ft.cel m).2 ∧ Ext r0 F0 H0 m0 r' F H (ft.cel m).2 ∧ Rep K r' F v (ft.cel m).1 := by
  obtain ⟨as, h1, h2⟩ := h
  cases ft with
  | pl d => exact ⟨r, hr, x, h1.1⟩
  | own xs =>
    obtain ⟨r', hr', x', _, q⟩ := celAll h1 h2 hr x
    cases q with
    | cons q _ => exact ⟨r', hr', x', q⟩
  | tup fs =>
    obtain ⟨p, vs, rfl, hp, h1⟩ := h1
    obtain ⟨r', hr', x', _, q⟩ := celAll h1 h2 hr x
    exact ⟨r', hr', x', .tup hp q⟩
end
section
variable {α β κ : Type} {K : PySem.W.Frag} {W : WX} {R : Rel α β} {R' : Rel α κ} {r : List Addr} {F H : Hp} {σ : L2.St} {m m1 m2 : Store} {t : Hp → (α → Hp → Prop) → Prop} {b : β} {c : κ}
theorem JAt.re (h : JAt K W R r F H σ m t (.ok b) m1) (k : ∀ a r' F' H', HR K r' F' H' m1 → Ext r F H m r' F' H' m1 → R H m1 r' F' H' a b → ∃ r'' F'', HR K r'' F'' H' m2 ∧ Ext r F H m r'' F'' H' m2 ∧ R' H m2 r'' F'' H' a c) : JAt K W R' r F H σ m t (.ok c) m2 := fun Q q =>
  h Q fun a r' F' H' h1 h2 h3 => let ⟨r'', F'', q1, q2, q3⟩ := k a r' F' H' h1 h2 h3; q a r'' F'' H' q1 q2 q3
end
/-- taken as data; as a cell; plain -/
def dat (e : MF) : ME := fun δ m => (e δ m).bind fun ft m => ret ft.dat m
def cel (e : MF) : ME := fun δ m => (e δ m).bind fun ft m => ret (ft.cel m).1 (ft.cel m).2
def pla (e : MF) : ME := fun δ m => (e δ m).bind fun ft m => match ft with
  | .pl d => ret d m
  | _ => none
section
variable {K : PySem.W.Frag} {W : WX} {t : TE} {e : MF} {tas : TA} {as : MA}
theorem so_dat (h : So K W (RF K) t e) : So K W (RE K) t (dat e) := fun δ m res m' q r F H σ hr er => by
  rcases bind_some q with ⟨ft, m1, e1, e2⟩ | ⟨y, e1, rfl⟩
  · cases e2
    exact (h δ m _ _ e1 r F H σ hr er).re fun a r' F' H' h1 h2 h3 => let ⟨F'', q1, q2, q3⟩ := rf_dat h1 h2 h3; ⟨r', F'', q1, q2, q3⟩
  · exact h δ m _ _ e1 r F H σ hr er
theorem so_cel (h : So K W (RF K) t e) : So K W (RE K) t (cel e) := fun δ m res m' q r F H σ hr er => by
  rcases bind_some q with ⟨ft, m1, e1, e2⟩ | ⟨y, e1, rfl⟩
  · cases e2
    exact (h δ m _ _ e1 r F H σ hr er).re fun a r' F' H' h1 h2 h3 => let ⟨r'', q1, q2, q3⟩ := rf_cel h1 h2 h3; ⟨r'', F', q1, q2, q3⟩
  · exact h δ m _ _ e1 r F H σ hr er
theorem so_pla (h : So K W (RF K) t e) : So K W (RE K) t (pla e) := fun δ m res m' q r F H σ hr er => by
  rcases bind_some q with ⟨ft, m1, e1, e2⟩ | ⟨y, e1, rfl⟩
  · cases ft with
    | pl d =>
      cases e2
      exact (h δ m _ _ e1 r F H σ hr er).re fun a r' F' H' h1 h2 ⟨as, h3, _⟩ => ⟨r', F', h1, h2, h3.1⟩
    | own xs => cases e2
    | tup fs => cases e2
  · exact h δ m _ _ e1 r F H σ hr er
/-- one new list -/
theorem rf_new {r : List Addr} {F H : Hp} {m : Store} {p : Addr} {vs : List V} {xs : List D} (hr : HR K r F H m) (hp : H p = none) (ra : RepAll K r F vs xs) : HR K r F (upd H p (.lst vs)) m ∧ Ext r F H m r F (upd H p (.lst vs)) m ∧ RF K H m r F (upd H p (.lst vs)) (.ref p) (.own xs) :=
  ⟨hr.side hp, Ext.side hr hp, [p], .own upd_same ra .nil, by simp, fun q hq => by
    cases List.mem_singleton.mp hq
    exact ⟨hp, hr.sub.free hp, fun k l e => (hr.ne_new hp l e) rfl⟩⟩
def fLst (as : MA) : MF := fun δ m => (as δ m).bind fun xs m => if xs.length ≤ 100000 then ret (.own xs) m else none
theorem so_lst (hs : So K W (RA K) tas as) : So K W (RF K) (tLst tas) (fLst as) :=
  So.bind rf_mon hs (k := fun xs δ m => if xs.length ≤ 100000 then ret (FT.own xs) m else none) (u := fun xs σ H Q => xs.length ≤ sizeLine ∧ ∀ p, H p = none → Q (.ref p) (upd H p (.lst xs))) fun x δ m res m' e v r F H σ _ hr er rv => by
    split at e
    · rename_i hl
      cases e
      exact fun Q q => ⟨Evl.sz_of (by rw [rv.len]; exact hl), fun p hp => let ⟨q1, q2, q3⟩ := rf_new hr hp rv; q _ r F _ q1 q2 q3⟩
    · cases e
end

/-! ### statements -/
inductive OT where
  | nx (δ : En) (m : Store)
  | rt (d : D) (m : Store)
  | bk (δ : En) (m : Store)
  | ct (δ : En) (m : Store)
  | ex (x : Str) (δ : En) (m : Store)
def OT.out (K : PySem.W.Frag) : OT → Out
  | .nx δ m => .nx δ m
  | .rt d m => .rt d m
  | .bk δ m => .bk δ m
  | .ct δ m => .ct δ m
  | .ex x δ m => .ex (.ref (ga K x)) δ m
abbrev MS := En → Store → Option OT
def SS (K : PySem.W.Frag) (t : WX → TS) (e : MS) : Prop := ∀ W δ m o, e δ m = some o → YS K W (t W) δ m (o.out K)
def MX.run {α : Type} (x : MX α) (δ : En) (k : α → Store → Option OT) : Option OT :=
  match x with
  | some (.ok a, m) => k a m
  | some (.ex y, m) => some (.ex y δ m)
  | none => none
section
variable {α β : Type} {a : α} {δ : En} {m : Store} {y : Str} {k : α → Store → Option OT}
theorem run_ok : MX.run (some (.ok a, m)) δ k = k a m := rfl
theorem run_ex : MX.run (some (.ex y, m)) δ k = some (.ex y δ m) := rfl
theorem run_none : MX.run none δ k = none := rfl
theorem run_some {x : MX α} {o : OT} (h : x.run δ k = some o) : (∃ a m1, x = some (.ok a, m1) ∧ k a m1 = some o) ∨ ∃ y m1, x = some (.ex y, m1) ∧ o = .ex y δ m1 := by
  cases x with
  | none => cases h
  | some p =>
    obtain ⟨r, m1⟩ := p
    cases r with
    | ok a => exact .inl ⟨a, m1, rfl, h⟩
    | ex y => cases h; exact .inr ⟨y, m1, rfl, rfl⟩
end
theorem SS.run {α β : Type} {K : PySem.W.Frag} {R : Rel α β} {te : WX → L2.St → Hp → (α → Hp → Prop) → Prop} {e : En → Store → MX β} {u : WX → α → TS} {k : β → En → Store → Option OT} (he : ∀ W, So K W R (te W) e)
    (hk : ∀ W b δ m o, k b δ m = some o → ∀ v r F H σ H0 D, HR K r F H m → ER K r F σ δ → R H0 m r F H v b → OutOk K W r F H m D (o.out K) → u W v D σ H) :
    SS K (fun W D σ H => te W σ H fun v H1 => u W v D σ H1) (fun δ m => (e δ m).run δ fun b m => k b δ m) := fun W δ m o q r F H σ D hr er h => by
  rcases run_some q with ⟨b, m1, e1, e2⟩ | ⟨y, m1, e1, rfl⟩
  · exact he W δ m _ _ e1 r F H σ hr er _ fun v r1 F1 H1 hr1 x1 rv => hk W b δ m1 o e2 v r1 F1 H1 σ H D hr1 (er.ext x1) rv (h.ext hr.len hr1.len x1)
  · exact he W δ m _ _ e1 r F H σ hr er (fun r' F' H' hr' x' => h σ r' F' H' hr' (er.ext x') x') _
abbrev MG := D → En → Option En
def SG (K : PySem.W.Frag) (g : TG) (mg : MG) : Prop := ∀ d δ δ', mg d δ = some δ' → YG K g d δ δ'
def SGw (K : PySem.W.Frag) (vs : List Nat) (g : TG) (mg : MG) : Prop := ∀ d δ δ', mg d δ = some δ' → YGw K vs g d δ δ'
abbrev MGs := List D → En → Option En
def SGs (K : PySem.W.Frag) (g : TGs) (mg : MGs) : Prop := ∀ d δ δ', mg d δ = some δ' → YGs K g d δ δ'
def SGws (K : PySem.W.Frag) (vs : List Nat) (g : TGs) (mg : MGs) : Prop := ∀ d δ δ', mg d δ = some δ' → YGws K vs g d δ δ'
def mName (i : Nat) : MG := fun d δ => some (δ.set i (some d))
def msNil : MGs := fun ds δ => match ds with
  | [] => some δ
  | _ => none
def msCons (g : MG) (gs : MGs) : MGs := fun ds δ => match ds with
  | d :: ds => (g d δ).bind fun δ => gs ds δ
  | _ => none
def mTup (gs : MGs) : MG := fun d δ => match d with
  | .tup ds => gs ds δ
  | _ => none
section
variable {K : PySem.W.Frag} {g : TG} {gs : TGs} {mg : MG} {mgs : MGs} {vs : List Nat}
theorem sg_name {i : Nat} : SG K (gName i) (mName i) := fun d δ δ' e => by cases e; exact yg_name
theorem sgs_nil : SGs K gNil msNil := fun d δ δ' e => by
  cases d with
  | nil => cases e; exact ygs_nil
  | cons _ _ => cases e
theorem sgs_cons (h : SG K g mg) (hs : SGs K gs mgs) : SGs K (gCons g gs) (msCons mg mgs) := fun d δ δ' e => by
  cases d with
  | nil => cases e
  | cons d ds =>
    cases q : mg d δ with
    | none => simp [msCons, q] at e
    | some δ1 => simp [msCons, q] at e; exact ygs_cons (h d δ δ1 q) (hs ds δ1 δ' e)
/-- so many targets -/
inductive Many : MGs → Nat → Prop
  | nil : Many msNil 0
  | cons {g : MG} {gs : MGs} {n : Nat} : Many gs n → Many (msCons g gs) (n + 1)
theorem Many.len {gs : MGs} {n : Nat} (h : Many gs n) : ∀ {ds : List D} {δ δ' : En}, gs ds δ = some δ' → ds.length = n := by
  induction h with
  | nil =>
    intro ds δ δ' e
    cases ds with
    | nil => rfl
    | cons _ _ => cases e
  | cons _ ih =>
    intro ds δ δ' e
    cases ds with
    | nil => cases e
    | cons d ds =>
      rename_i g gs' n' _
      cases q : g d δ with
      | none => simp [msCons, q] at e
      | some δ1 =>
        simp [msCons, q] at e
        show ds.length + 1 = n' + 1
        rw [ih e]
theorem sg_tup {n : Nat} (hm : Many mgs n) (hs : SGs K gs mgs) : SG K (gTup K n gs) (mTup mgs) := fun d δ δ' e => by
  cases d with
  | tup ds => exact yg_tup (hm.len e) (hs ds δ δ' e)
  | _ => cases e
theorem sgw_name {i : Nat} (h : i ∈ vs) : SGw K vs (gName i) (mName i) := fun d δ δ' e => by cases e; exact ygw_name h
theorem sgws_nil : SGws K vs gNil msNil := fun d δ δ' e => by
  cases d with
  | nil => cases e; exact ygws_nil
  | cons _ _ => cases e
theorem sgws_cons (h : SGw K vs g mg) (hs : SGws K vs gs mgs) : SGws K vs (gCons g gs) (msCons mg mgs) := fun d δ δ' e => by
  cases d with
  | nil => cases e
  | cons d ds =>
    cases q : mg d δ with
    | none => simp [msCons, q] at e
    | some δ1 => simp [msCons, q] at e; exact ygws_cons (h d δ δ1 q) (hs ds δ1 δ' e)
theorem sgw_tup {n : Nat} (hm : Many mgs n) (hs : SGws K vs gs mgs) : SGw K vs (gTup K n gs) (mTup mgs) := fun d δ δ' e => by
  cases d with
  | tup ds => exact ygw_tup (hm.len e) (hs ds δ δ' e)
  | _ => cases e
end
def sNext : MS := fun δ m => some (.nx δ m)
def sBreak : MS := fun δ m => some (.bk δ m)
def sCont : MS := fun δ m => some (.ct δ m)
def sRetN : MS := fun _ m => some (.rt .non m)
def sSeq (a b : MS) : MS := fun δ m => match a δ m with
  | some (.nx δ m) => b δ m
  | o => o
def sAsg (e : ME) (g : MG) : MS := fun δ m => (e δ m).run δ fun d m => (g d δ).map fun δ => .nx δ m
def sSet (i : Nat) (e : ME) : MS := fun δ m => (e δ m).run δ fun d m => some (.nx (δ.set i (some d)) m)
def sExpr (e : ME) : MS := fun δ m => (e δ m).run δ fun _ m => some (.nx δ m)
def sRet (e : ME) : MS := fun δ m => (e δ m).run δ fun d m => some (.rt d m)
def sIf (t : MT) (a b : MS) : MS := fun δ m => (t δ m).run δ fun c m => cond c (a δ m) (b δ m)
def sRaise (x : Str) : MS := fun δ m => some (.ex x δ m)
section
variable {K : PySem.W.Frag} {te : WX → TE} {tt : WX → TT} {ts tu : WX → TS} {e : ME} {t : MT} {a b : MS} {g : TG} {mg : MG}
theorem ss_next : SS K (fun _ => tNext) sNext := fun W δ m o q => by cases q; exact ys_next
theorem ss_break : SS K (fun _ => tBreak) sBreak := fun W δ m o q => by cases q; exact ys_break
theorem ss_cont : SS K (fun _ => tCont) sCont := fun W δ m o q => by cases q; exact ys_cont
theorem ss_retN : SS K (fun _ => tRetN) sRetN := fun W δ m o q => by cases q; exact ys_retN
theorem ss_seq (ha : SS K ts a) (hb : SS K tu b) : SS K (fun W => tSeq (ts W) (tu W)) (sSeq a b) := fun W δ m o q => by
  unfold sSeq at q
  cases h : a δ m with
  | none => rw [h] at q; cases q
  | some o1 =>
    rw [h] at q
    cases o1 with
    | nx δ1 m1 => exact ys_seq (ha W δ m _ h) (hb W δ1 m1 o q)
    | rt d m1 => cases q; exact ys_seqX (ha W δ m _ h) rfl
    | bk d m1 => cases q; exact ys_seqX (ha W δ m _ h) rfl
    | ct d m1 => cases q; exact ys_seqX (ha W δ m _ h) rfl
    | ex x d m1 => cases q; exact ys_seqX (ha W δ m _ h) rfl
theorem ss_asg (he : ∀ W, So K W (RE K) (te W) e) (hg : SG K g mg) : SS K (fun W => tAsg (te W) g) (sAsg e mg) :=
  SS.run he (u := fun W v D σ H => g v σ H D.nx) (k := fun d δ m => (mg d δ).map fun δ => OT.nx δ m) fun W d δ m o q v r F H σ H0 D hr er rv h => by
    cases z : mg d δ with
    | none => rw [z] at q; cases q
    | some δ1 =>
      rw [z] at q; cases q
      exact hg d δ δ1 z r F H m σ v hr er rv _ fun σ1 er1 => h σ1 r F H hr er1 (Ext.refl hr)
theorem ss_set {i : Nat} (he : ∀ W, So K W (RE K) (te W) e) : SS K (fun W => tAsg (te W) (gName i)) (sSet i e) := ss_asg he sg_name
theorem ss_expr (he : ∀ W, So K W (RE K) (te W) e) : SS K (fun W => tDrop (te W)) (sExpr e) :=
  SS.run he (u := fun W v D σ H => D.nx σ H) (k := fun d δ m => some (OT.nx δ m)) fun W d δ m o q v r F H σ H0 D hr er rv h => by
    cases q; exact h σ r F H hr er (Ext.refl hr)
theorem ss_ret (he : ∀ W, So K W (RE K) (te W) e) : SS K (fun W => tRet (te W)) (sRet e) :=
  SS.run he (u := fun W v D σ H => D.rt v H) (k := fun d δ m => some (OT.rt d m)) fun W d δ m o q v r F H σ H0 D hr er rv h => by
    cases q; exact h v r F H hr (Ext.refl hr) rv
theorem ss_if (ht : ∀ W, So K W RB (tt W) t) (ha : SS K ts a) (hb : SS K tu b) : SS K (fun W => tIfS (tt W) (ts W) (tu W)) (sIf t a b) :=
  SS.run ht (u := fun W (c : Bool) D σ H => if c = true then ts W D σ H else tu W D σ H) (k := fun (c : Bool) δ m => cond c (a δ m) (b δ m)) fun W c δ m o q v r F H σ H0 D hr er rv h => by
    cases rv
    cases c with
    | true => exact ha W δ m o q r F H σ D hr er h
    | false => exact hb W δ m o q r F H σ D hr er h
theorem ss_raise {x : Str} : SS K (fun W => tRaise W (.ref (ga K x))) (sRaise x) := fun W δ m o q => by cases q; exact ys_raise
/-- a statement that is never come to -/
def sNever : MS := fun _ _ => none
theorem ss_never : SS K (fun _ => tNever) sNever := fun W δ m o q => by cases q
end
end DL
namespace DL
open PySem PySem.Spec PyProof.Rows L2

/-! ### loops -/
structure Wk where
  xs : List D
  src : List (Nat × List D)
def Wk.chk (w : Wk) (m : Store) : Prop := ∀ p ∈ w.src, m[p.1]? = some (.lst p.2)
abbrev MI := En → Store → MX Wk
def RI (K : PySem.W.Frag) : Rel It Wk := fun _ _ r F _ J w => ItOk K w.chk J r F w.xs
theorem ri_mon {K : PySem.W.Frag} : RMon (RI K) := fun _ _ _ _ _ _ _ _ _ h => h
open Classical in
noncomputable def forM (g : MG) (b : MS) (c : Store → Prop) : List D → En → Store → Option OT
  | [], δ, m => if c m then some (.nx δ m) else none
  | x :: xs, δ, m => if c m then (g x δ).bind fun δ => match b δ m with
      | some (.nx δ m) => forM g b c xs δ m
      | some (.ct δ m) => forM g b c xs δ m
      | some (.bk δ m) => some (.nx δ m)
      | o => o
    else none
noncomputable def sFor (w : MI) (g : MG) (b : MS) : MS := fun δ m => (w δ m).run δ fun w m => forM g b w.chk w.xs δ m
theorem ss_for {K : PySem.W.Frag} {wi : WX → TI} {g : TG} {t : WX → TS} {w : MI} {mg : MG} {b : MS} (hw : ∀ W, So K W (RI K) (wi W) w) (hg : SG K g mg) (hb : SS K t b) : SS K (fun W => tFor (wi W) g (t W)) (sFor w mg b) :=
  SS.run hw (u := fun W (J : It) D σ H1 => ∃ W' : Nat → Nat → L2.St → Hp → Prop, (∃ m, W' 0 m σ H1) ∧ ∀ i m σ H, W' i m σ H →
    (J.stop i H ∧ D.nx σ H) ∨ (J.go i H ∧ ∃ N : L2.St → Hp → Prop, (∀ σ' H', N σ' H' → ∃ m', m' < m ∧ W' (i + 1) m' σ' H') ∧ ∀ x H', J.yld i H x H' → g x σ H' fun σ2 H2 => t W { D with nx := N, ct := N, bk := D.nx } σ2 H2))
    (k := fun (w : Wk) δ m => forM mg b w.chk w.xs δ m) fun W wk δ m o e J r F H σ H0 D hr er ok q => by
    refine ⟨fun i mm σ' H' => mm = wk.xs.length - i ∧ i ≤ wk.xs.length ∧ ∃ δ' m' r' F', HR K r' F' H' m' ∧ ER K r' F' σ' δ' ∧ Ext r F H m r' F' H' m' ∧ forM mg b wk.chk (wk.xs.drop i) δ' m' = some o,
      ⟨wk.xs.length, by simp, Nat.zero_le _, δ, m, r, F, hr, er, Ext.refl hr, e⟩, ?_⟩
    rintro i mm σ' H' ⟨rfl, hin, δ', m', r', F', hr', er', x', e'⟩
    by_cases hlt : i < wk.xs.length
    · have ed : wk.xs[i]? = some wk.xs[i] := List.getElem?_eq_getElem hlt
      rw [List.drop_eq_getElem_cons hlt] at e'
      unfold forM at e'
      split at e'
      · rename_i hc
        obtain ⟨go, stop⟩ := ok r' F' H' m' x'.pre x'.sub hr' hc i
        obtain ⟨hgo, hy⟩ := go _ ed
        cases hg1 : mg wk.xs[i] δ' with
        | none => rw [hg1] at e'; cases e'
        | some δ1 =>
          rw [hg1] at e'
          simp only [Option.bind_some] at e'
          refine .inr ⟨hgo, fun σ2 H2 => ∃ δ2 m2 r2 F2, HR K r2 F2 H2 m2 ∧ ER K r2 F2 σ2 δ2 ∧ Ext r F H m r2 F2 H2 m2 ∧ forM mg b wk.chk (wk.xs.drop (i + 1)) δ2 m2 = some o, fun σ2 H2 p2 => ⟨wk.xs.length - (i + 1), by omega, rfl, hlt, p2⟩, fun x H'' y => ?_⟩
          obtain ⟨F2, hr2, x2, p2⟩ := hy x H'' y
          refine hg _ _ _ hg1 r' F2 H'' m' σ' x hr2 (er'.ext x2) p2 _ fun σ3 er3 => ?_
          have x02 := x'.trans hr'.len hr.len x2
          cases hb1 : b δ1 m' with
          | none => rw [hb1] at e'; cases e'
          | some o1 =>
            rw [hb1] at e'
            refine hb W δ1 m' o1 hb1 r' F2 H'' σ3 _ hr2 er3 ?_
            cases o1 with
            | nx δ4 m4 => exact fun σ4 r4 F4 H4 hr4 er4 x4 => ⟨δ4, m4, r4, F4, hr4, er4, x02.trans hr2.len hr.len x4, e'⟩
            | ct δ4 m4 => exact fun σ4 r4 F4 H4 hr4 er4 x4 => ⟨δ4, m4, r4, F4, hr4, er4, x02.trans hr2.len hr.len x4, e'⟩
            | bk δ4 m4 => cases e'; exact fun σ4 r4 F4 H4 hr4 er4 x4 => q σ4 r4 F4 H4 hr4 er4 (x02.trans hr2.len hr.len x4)
            | rt d m4 => cases e'; exact fun v r4 F4 H4 hr4 x4 p4 => q v r4 F4 H4 hr4 (x02.trans hr2.len hr.len x4) p4
            | ex y δ4 m4 => cases e'; exact fun σ4 r4 F4 H4 hr4 er4 x4 => q σ4 r4 F4 H4 hr4 er4 (x02.trans hr2.len hr.len x4)
      · cases e'
    · have hi' : i = wk.xs.length := by omega
      subst hi'
      rw [List.drop_length] at e'
      unfold forM at e'
      split at e'
      · rename_i hc
        cases e'
        obtain ⟨go, stop⟩ := ok r' F' H' m' x'.pre x'.sub hr' hc wk.xs.length
        exact .inl ⟨stop (Nat.le_refl _), q σ' r' F' H' hr' er' x'⟩
      · cases e'
def whileN (t : MT) (b : MS) : Nat → En → Store → Option OT
  | 0, _, _ => none
  | n + 1, δ, m => (t δ m).run δ fun c m => cond c (match b δ m with
      | some (.nx δ m) => whileN t b n δ m
      | some (.ct δ m) => whileN t b n δ m
      | some (.bk δ m) => some (.nx δ m)
      | o => o) (some (.nx δ m))
open Classical in
noncomputable def sWhile (t : MT) (b : MS) : MS := fun δ m => if h : ∃ n o, whileN t b n δ m = some o then whileN t b (Classical.choose h) δ m else none
theorem whileN_mono {t : MT} {b : MS} : ∀ {n k : Nat} {δ : En} {m : Store} {o : OT}, whileN t b n δ m = some o → n ≤ k → whileN t b k δ m = some o
  | 0, _, _, _, _, h, _ => by cases h
  | n + 1, 0, _, _, _, _, hk => by omega
  | n + 1, k + 1, δ, m, o, h, hk => by
    unfold whileN at h ⊢
    rcases run_some h with ⟨c, m1, e1, e2⟩ | ⟨y, m1, e1, rfl⟩
    · rw [e1, run_ok]
      cases c with
      | false => exact e2
      | true =>
        dsimp only [cond] at e2 ⊢
        cases hb : b δ m1 with
        | none => rw [hb] at e2; cases e2
        | some o1 =>
          rw [hb] at e2
          cases o1 with
          | nx δ4 m4 => exact whileN_mono e2 (by omega)
          | ct δ4 m4 => exact whileN_mono e2 (by omega)
          | bk δ4 m4 => exact e2
          | rt d m4 => exact e2
          | ex y δ4 m4 => exact e2
    · rw [e1, run_ex]
theorem sWhile_eq {t : MT} {b : MS} {n : Nat} {δ : En} {m : Store} {o : OT} (h : whileN t b n δ m = some o) : sWhile t b δ m = some o := by
  have ex : ∃ n o, whileN t b n δ m = some o := ⟨n, o, h⟩
  unfold sWhile
  rw [dif_pos ex]
  obtain ⟨o', h'⟩ := Classical.choose_spec ex
  rw [h']
  rcases Nat.le_total n (Classical.choose ex) with z | z
  · have := whileN_mono h z
    rw [h'] at this; exact this
  · have := whileN_mono h' z
    rw [h] at this; exact this.symm
theorem ss_while {K : PySem.W.Frag} {tt : WX → TT} {ts : WX → TS} {t : MT} {b : MS} (ht : ∀ W, So K W RB (tt W) t) (hb : SS K ts b) : SS K (fun W => tWhile (tt W) (ts W)) (sWhile t b) := fun W δ m o e r F H σ D hr er q => by
  unfold sWhile at e
  split at e
  · rename_i hex
    refine ⟨fun n σ' H' => ∃ δ' m' r' F', HR K r' F' H' m' ∧ ER K r' F' σ' δ' ∧ Ext r F H m r' F' H' m' ∧ whileN t b n δ' m' = some o, ⟨_, δ, m, r, F, hr, er, Ext.refl hr, e⟩, ?_⟩
    rintro n σ' H' ⟨δ', m', r', F', hr', er', x', e'⟩
    cases n with
    | zero => cases e'
    | succ n =>
      unfold whileN at e'
      rcases run_some e' with ⟨c, m1, e1, e2⟩ | ⟨y, m1, e1, rfl⟩
      · refine ht W δ' m' _ _ e1 r' F' H' σ' hr' er' _ fun c' r1 F1 H1 hr1 x1 rc => ?_
        cases rc
        have x01 := x'.trans hr'.len hr.len x1
        cases c with
        | false =>
          cases e2
          rw [if_neg Bool.false_ne_true]
          exact q σ' r1 F1 H1 hr1 (er'.ext x1) x01
        | true =>
          rw [if_pos rfl]
          dsimp only [cond] at e2
          refine ⟨fun σ2 H2 => ∃ δ2 m2 r2 F2, HR K r2 F2 H2 m2 ∧ ER K r2 F2 σ2 δ2 ∧ Ext r F H m r2 F2 H2 m2 ∧ whileN t b n δ2 m2 = some o, fun σ2 H2 p2 => ⟨n, by omega, p2⟩, ?_⟩
          cases hb1 : b δ' m1 with
          | none => rw [hb1] at e2; cases e2
          | some o1 =>
            rw [hb1] at e2
            refine hb W δ' m1 o1 hb1 r1 F1 H1 σ' _ hr1 (er'.ext x1) ?_
            cases o1 with
            | nx δ4 m4 => exact fun σ4 r4 F4 H4 hr4 er4 x4 => ⟨δ4, m4, r4, F4, hr4, er4, x01.trans hr1.len hr.len x4, e2⟩
            | ct δ4 m4 => exact fun σ4 r4 F4 H4 hr4 er4 x4 => ⟨δ4, m4, r4, F4, hr4, er4, x01.trans hr1.len hr.len x4, e2⟩
            | bk δ4 m4 => cases e2; exact fun σ4 r4 F4 H4 hr4 er4 x4 => q σ4 r4 F4 H4 hr4 er4 (x01.trans hr1.len hr.len x4)
            | rt d m4 => cases e2; exact fun v r4 F4 H4 hr4 x4 p4 => q v r4 F4 H4 hr4 (x01.trans hr1.len hr.len x4) p4
            | ex y δ4 m4 => cases e2; exact fun σ4 r4 F4 H4 hr4 er4 x4 => q σ4 r4 F4 H4 hr4 er4 (x01.trans hr1.len hr.len x4)
      · exact ht W δ' m' _ _ e1 r' F' H' σ' hr' er' (fun r1 F1 H1 hr1 x1 => q σ' r1 F1 H1 hr1 (er'.ext x1) (x'.trans hr'.len hr.len x1)) _
  · cases e

/-! ### comprehensions -/
def MX.sure {α β : Type} (x : MX α) (k : α → Store → MX β) : MX β :=
  match x with
  | some (.ok a, m) => k a m
  | _ => none
section
variable {α β : Type} {a : α} {m : Store} {x : Str} {k : α → Store → MX β}
theorem sure_ok : MX.sure (some (.ok a, m)) k = k a m := rfl
theorem sure_ex : MX.sure (some (.ex x, m)) k = none := rfl
theorem sure_none : MX.sure none k = none := rfl
theorem sure_some {x : MX α} {z : RX β × Store} (h : x.sure k = some z) : ∃ a m1, x = some (.ok a, m1) ∧ k a m1 = some z := by
  cases x with
  | none => cases h
  | some p =>
    obtain ⟨r, m1⟩ := p
    cases r with
    | ok a => exact ⟨a, m1, rfl, h⟩
    | ex y => cases h
end
open Classical in
noncomputable def lcM (g : MG) (t : MT) (e : ME) (c : Store → Prop) (δ : En) : List D → Store → MX (List D)
  | [], m => if c m then ret [] m else none
  | x :: xs, m => if c m then (g x δ).bind fun δ1 => (t δ1 m).sure fun b m => cond b ((e δ1 m).sure fun z m => (lcM g t e c δ xs m).sure fun zs m => ret (z :: zs) m) (lcM g t e c δ xs m)
    else none
noncomputable def fLc (w : MI) (g : MG) (t : MT) (e : ME) (vs : List Nat) : MF := fun δ m => (w δ m).bind fun w m => if w.xs.length < 100000 then (lcM g t e w.chk (wipeE δ vs) w.xs m).sure fun zs m => ret (.own zs) m else none
theorem so_lc {K : PySem.W.Frag} {W : WX} {wi : TI} {g : TG} {tt : TT} {te : TE} {vs : List Nat} {w : MI} {mg : MG} {t : MT} {e : ME} (hw : So K W (RI K) wi w) (hg : SGw K vs g mg) (ht : So K W RB tt t) (he : So K W (RE K) te e) : So K W (RF K) (tLc wi g tt te vs) (fLc w mg t e vs) := fun δ m res mf q r F H σ hr er => by
  rcases bind_some q with ⟨wk, m1, e1, e2⟩ | ⟨y, e1, rfl⟩
  · split at e2
    · rename_i hlen
      obtain ⟨zs, m2, e3, e4⟩ := sure_some e2
      cases e4
      intro Q q
      refine hw δ m _ _ e1 r F H σ hr er _ fun J r1 F1 H1 hr1 x1 ok Dl hD => ?_
      have hD0 : H Dl = none := trk_back x1 hD
      refine ⟨fun i mm H' => mm = wk.xs.length - i ∧ i ≤ wk.xs.length ∧ ∃ m' r' F' ws acc rest, HR K r' F' H' m' ∧ Ext r F H m r' F' H' m' ∧ Pre r1 r' ∧ Same F1 F' ∧ H' Dl = some (.lst ws) ∧ RepAll K r' F' ws acc ∧ F' Dl = none ∧ (∀ (k : Nat), live m' k → r'[k]? ≠ some Dl) ∧ acc.length ≤ i ∧ lcM mg t e wk.chk (wipeE δ vs) (wk.xs.drop i) m' = some (.ok rest, mf) ∧ acc ++ rest = zs,
        ⟨wk.xs.length, by simp, Nat.zero_le _, m1, r1, F1, [], [], zs, hr1.side hD, x1.trans hr1.len hr.len (Ext.side hr1 hD), Pre.refl _, Same.refl _, upd_same, .nil, hr1.sub.free hD, fun k l e => (hr1.ne_new hD l e) rfl, Nat.zero_le _, e3, rfl⟩, ?_⟩
      rintro i mm H' ⟨rfl, hin, m', r', F', ws, acc, rest, hr', x', pr', sm', hw', ra, fD, nD, hacc, ev, hz⟩
      by_cases hlt : i < wk.xs.length
      · have ed : wk.xs[i]? = some wk.xs[i] := List.getElem?_eq_getElem hlt
        rw [List.drop_eq_getElem_cons hlt] at ev
        unfold lcM at ev
        split at ev
        · rename_i hc
          obtain ⟨go, stop⟩ := ok r' F' H' m' pr' sm' hr' hc i
          obtain ⟨hgo, hy⟩ := go _ ed
          cases hg1 : mg wk.xs[i] (wipeE δ vs) with
          | none => rw [hg1] at ev; cases ev
          | some δ1 =>
            rw [hg1] at ev
            simp only [Option.bind_some] at ev
            obtain ⟨b, m3, et, ev2⟩ := sure_some ev
            refine .inr ⟨hgo, fun H2 => ∃ m' r' F' ws acc rest, HR K r' F' H2 m' ∧ Ext r F H m r' F' H2 m' ∧ Pre r1 r' ∧ Same F1 F' ∧ H2 Dl = some (.lst ws) ∧ RepAll K r' F' ws acc ∧ F' Dl = none ∧ (∀ (k : Nat), live m' k → r'[k]? ≠ some Dl) ∧ acc.length ≤ i + 1 ∧ lcM mg t e wk.chk (wipeE δ vs) (wk.xs.drop (i + 1)) m' = some (.ok rest, mf) ∧ acc ++ rest = zs,
              fun H2 p2 => ⟨wk.xs.length - (i + 1), by omega, rfl, hlt, p2⟩, fun x H'' y => ?_⟩
            obtain ⟨F2, hr2, x2, p2⟩ := hy x H'' y
            have er2 : ER K r' F2 (wipe σ vs) (wipeE δ vs) := ((er.ext x').ext x2).wipe vs
            refine hg _ _ _ hg1 r' F2 H'' m' (wipe σ vs) x hr2 er2 p2 _ fun σ3 er3 w3 => ⟨w3.trans wipe_wipe, ?_⟩
            refine ht δ1 m' _ _ et r' F2 H'' σ3 hr2 er3 _ fun b' r4 F4 H4 hr4 x4 rb => ?_
            cases rb
            have x24 := x2.trans hr2.len hr'.len x4
            obtain ⟨hw4, fD4, nD4⟩ := x24.side_keep hr'.len hw' fD nD
            have x04 := x'.trans hr'.len hr.len x24
            cases b with
            | true =>
              rw [if_pos rfl]
              dsimp only [cond] at ev2
              obtain ⟨z, m5, ee, ev3⟩ := sure_some ev2
              obtain ⟨zs', m6, ez, ev4⟩ := sure_some ev3
              cases ev4
              refine he δ1 m3 _ _ ee r4 F4 H4 σ3 hr4 (er3.ext x4) _ fun v r5 F5 H5 hr5 x5 p5 => ?_
              obtain ⟨hw5, fD5, nD5⟩ := x5.side_keep hr4.len hw4 fD4 nD4
              have ra5 := (ra.mono x24.pre x24.sub).mono x5.pre x5.sub
              refine ⟨ws, hw5, Evl.sz_lt (by rw [ra.len]; omega), m5, r5, F5, ws ++ [v], acc ++ [z], zs', hr5.sideSet fD5 nD5 (fun b z => by rw [hw5] at z; cases z), (x04.trans hr4.len hr.len x5).sideSet hD0, (pr'.trans x24.pre).trans x5.pre, (sm'.trans x24.sub).trans x5.sub, upd_same, ra5.app (.one p5), fD5, nD5, ?_, ez, ?_⟩
              · rw [List.length_append]; show acc.length + 1 ≤ i + 1; omega
              · rw [List.append_assoc]; exact hz
            | false =>
              rw [if_neg Bool.false_ne_true]
              exact ⟨m3, r4, F4, ws, acc, rest, hr4, x04, pr'.trans x24.pre, sm'.trans x24.sub, hw4, ra.mono x24.pre x24.sub, fD4, nD4, by omega, ev2, hz⟩
        · cases ev
      · have hi' : i = wk.xs.length := by omega
        subst hi'
        rw [List.drop_length] at ev
        unfold lcM at ev
        split at ev
        · rename_i hc
          cases ev
          rw [List.append_nil] at hz
          subst hz
          obtain ⟨go, stop⟩ := ok r' F' H' mf pr' sm' hr' hc wk.xs.length
          refine .inl ⟨stop (Nat.le_refl _), q (.ref Dl) r' F' H' hr' x' ⟨[Dl], .own hw' ra .nil, by simp, fun p hp => ?_⟩⟩
          cases List.mem_singleton.mp hp
          exact ⟨hD0, fD, nD⟩
        · cases ev
    · cases e2
  · exact fun q Q => hw δ m _ _ e1 r F H σ hr er q _

/-! ### defs and calls -/
abbrev FnS := List D → Store → MX FT
def ResF (K : PySem.W.Frag) (r : List Addr) (F H : Hp) (m : Store) (Q : VK) (E : XK) : RX FT → Store → Prop
  | .ok ft, m' => ∀ v r' F' H', HR K r' F' H' m' → Ext r F H m r' F' H' m' → RF K H m' r' F' H' v ft → Q v H'
  | .ex x, m' => ∀ r' F' H', HR K r' F' H' m' → Ext r F H m r' F' H' m' → E (.ref (ga K x)) none H'
def spF (K : PySem.W.Frag) (f : FnS) : Sp := fun vs H Q E => ∃ r F m ds res m', HR K r F H m ∧ RepAll K r F vs ds ∧ f ds m = some (res, m') ∧ ResF K r F H m Q E res m'
def fCall (f : FnS) (as : MA) : MF := fun δ m => (as δ m).bind fun ds m => f ds m
def fCall0 (f : FnS) (as : MA) : MF := fun δ m => (as δ m).bind fun ds m => (f ds m).sure ret
section
variable {K : PySem.W.Frag} {W : WX} {tas : TA} {as : MA} {f : FnS}
theorem so_call (hs : So K W (RA K) tas as) : So K W (RF K) (tCallS (spF K f) (WE W) tas) (fCall f as) :=
  So.bind rf_mon hs (k := fun ds δ m => f ds m) (u := fun vs σ H Q => spF K f vs H Q (WE W σ)) fun ds δ m res m' e vs r F H σ H0 hr er rv => by
    cases res with
    | ok ft => exact fun Q q => ⟨r, F, m, ds, .ok ft, m', hr, rv, e, fun v r' F' H' h1 h2 h3 => q v r' F' H' h1 h2 h3⟩
    | ex x => exact fun q Q => ⟨r, F, m, ds, .ex x, m', hr, rv, e, fun r' F' H' h1 h2 => q r' F' H' h1 h2⟩
theorem so_call0 (hs : So K W (RA K) tas as) : So K W (RF K) (tCall (spF K f) [] E0 tas) (fCall0 f as) :=
  So.bind rf_mon hs (k := fun ds δ m => (f ds m).sure ret) (u := fun vs σ H Q => spF K f (vs ++ []) H Q E0) fun ds δ m res m' e vs r F H σ H0 hr er rv => by
    obtain ⟨ft, m1, e1, e2⟩ := sure_some e
    cases e2
    intro Q q
    rw [List.append_nil]
    exact ⟨r, F, m, ds, .ok ft, m', hr, rv, e1, fun v r' F' H' h1 h2 h3 => q v r' F' H' h1 h2 h3⟩
end
/-- what a def hands back, seen from outside: its own cells are dropped, what it hands back of them is new -/
def F1.ft : F1 → FT
  | .pl d => .pl d
  | .own xs => .own xs
def resE (n : Nat) (m : Store) (d : D) : Option F1 := match d with
  | .cell k => if k < n then some (.pl (.cell k)) else match m[k]? with
    | some (.lst xs) => if D.unds n xs = true then some (.own xs) else none
    | _ => none
  | d => if d.und n = true then some (.pl d) else none
def resA (n : Nat) (m : Store) : List D → Option (List F1)
  | [] => some []
  | d :: ds => (resE n m d).bind fun f => (resA n m ds).map fun fs => f :: fs
def newK (n : Nat) : List D → List Nat
  | [] => []
  | .cell k :: ds => if k < n then newK n ds else k :: newK n ds
  | _ :: ds => newK n ds
open Classical in
noncomputable def resT (n : Nat) (m : Store) (d : D) : Option FT := match d with
  | .tup ds => if D.unds n ds = true then some (.pl (.tup ds)) else if (newK n ds).Nodup then (resA n m ds).map FT.tup else none
  | d => (resE n m d).map F1.ft
open Classical in
noncomputable def cutS (m0 m' : Store) : Option Store := if m'.length = m0.length then some m' else if Tidy m0 (m'.take m0.length) then some (m'.take m0.length) else none
open Classical in
noncomputable def finF (m0 : Store) (d : D) (m' : Store) : MX FT := if m'.length = m0.length then ret (.pl d) m' else if Tidy m0 (m'.take m0.length) then (resT m0.length m' d).map fun ft => (.ok ft, m'.take m0.length) else none
noncomputable def endF (m0 : Store) : Option OT → MX FT
  | some (.rt d m') => finF m0 d m'
  | some (.nx _ m') => finF m0 .non m'
  | some (.ex x _ m') => (cutS m0 m').map fun m => (.ex x, m)
  | _ => none
noncomputable def fnOf (n N : Nat) (b : MS) : FnS := fun ds m => if ds.length = n then endF m (b (st N ds) m) else none
section
variable {K : PySem.W.Frag} {r r' : List Addr} {F H F' H' : Hp} {m m' m2 : Store}
theorem und_take {n : Nat} {d : D} {v : V} (h : Rep K r F v d) (q : d.und n = true) : Rep K (r.take n) F v d := h.cut q
theorem cut_ok (hr0 : HR K r F H m) (hr : HR K r' F' H' m') (x : Ext r F H m r' F' H' m') (h : cutS m m' = some m2) : ∃ r'', HR K r'' F' H' m2 ∧ Ext r F H m r'' F' H' m2 := by
  unfold cutS at h
  split at h
  · cases h; exact ⟨r', hr, x⟩
  · split at h
    · rename_i ti
      cases h
      have e : m' = m'.take m.length ++ m'.drop m.length := (List.take_append_drop _ _).symm
      have hl : (m'.take m.length).length = m.length := by rw [List.length_take]; have := x.mlen; omega
      rw [e] at hr x
      have q1 := hr0.trunc ti hr
      have q2 := x.trunc hr0.len ti.1
      exact ⟨_, q1, q2⟩
    · cases h
theorem resE_ok (hr0 : HR K r F H m) (hr : HR K r' F' H' m') (x : Ext r F H m r' F' H' m') {v : V} {d : D} {f : F1} (h : resE m.length m' d = some f) (p : Rep K r' F' v d) :
    ∃ as, OwnL K (r'.take m.length) F' H' [v] [f] as ∧ ((∃ d', f = .pl d' ∧ as = []) ∨ ∃ k a, d = .cell k ∧ m.length ≤ k ∧ live m' k ∧ r'[k]? = some a ∧ as = [a] ∧ F' a = none) := by
  have plain : ∀ d : D, (if d.und m.length = true then some (F1.pl d) else none) = some f → Rep K r' F' v d → ∃ as, OwnL K (r'.take m.length) F' H' [v] [f] as ∧ ((∃ d', f = .pl d' ∧ as = []) ∨ ∃ k a, d = .cell k ∧ m.length ≤ k ∧ live m' k ∧ r'[k]? = some a ∧ as = [a] ∧ F' a = none) := by
    intro d h p
    split at h
    · rename_i hu; cases h; exact ⟨[], .pl (p.cut hu) .nil, .inl ⟨d, rfl, rfl⟩⟩
    · cases h
  cases d with
  | cell k =>
    unfold resE at h
    dsimp only at h
    split at h
    · rename_i hk
      cases h
      exact ⟨[], .pl (p.cut (decide_eq_true hk)) .nil, .inl ⟨_, rfl, rfl⟩⟩
    · rename_i hk
      cases p with
      | cell ea =>
        split at h
        · rename_i xs hx
          split at h
          · rename_i hu
            cases h
            obtain ⟨q1, vs, q2, q3⟩ := hr.cell _ _ _ ea hx (fun z => nomatch z)
            exact ⟨[_], .own q2 (q3.cut hu) .nil, .inr ⟨k, _, rfl, Nat.not_lt.mp hk, ⟨_, hx, fun z => nomatch z⟩, ea, rfl, q1⟩⟩
          · cases h
        · cases h
  | non => exact plain _ h p
  | bl b => exact plain _ h p
  | int b => exact plain _ h p
  | str b => exact plain _ h p
  | lst b => exact plain _ h p
  | tup b => exact plain _ h p
  | scr b => exact plain _ h p
  | exc b => exact plain _ h p
theorem resA_ok (hr0 : HR K r F H m) (hr : HR K r' F' H' m') (x : Ext r F H m r' F' H' m') : ∀ {ds : List D} {vs : List V} {fs : List F1}, resA m.length m' ds = some fs → (newK m.length ds).Nodup → RepAll K r' F' vs ds →
    ∃ as, OwnL K (r'.take m.length) F' H' vs fs as ∧ as.Nodup ∧ ∀ a ∈ as, F' a = none ∧ ∃ k, k ∈ newK m.length ds ∧ m.length ≤ k ∧ live m' k ∧ r'[k]? = some a
  | [], _, _, h, _, .nil => by
    cases h
    exact ⟨[], .nil, .nil, fun a ha => nomatch ha⟩
  | d :: ds, _, fs, h, nd, .cons (v := v) (vs := vs) p ps => by
    unfold resA at h
    cases q : resE m.length m' d with
    | none => rw [q] at h; cases h
    | some f =>
      rw [q] at h
      simp only [Option.bind_some] at h
      cases q2 : resA m.length m' ds with
      | none => rw [q2] at h; cases h
      | some fs' =>
        rw [q2] at h
        cases h
        have sub : ∀ k, k ∈ newK m.length ds → k ∈ newK m.length (d :: ds) := fun k hk => by
          cases d <;> unfold newK <;> first | exact hk | (split <;> first | exact hk | exact List.mem_cons_of_mem _ hk)
        have nd' : (newK m.length ds).Nodup := by
          cases d <;> first | exact nd | (unfold newK at nd; split at nd <;> first | exact nd | exact (List.nodup_cons.mp nd).2)
        obtain ⟨as, h1, h2, h3⟩ := resA_ok hr0 hr x q2 nd' ps
        obtain ⟨as1, g1, g2⟩ := resE_ok hr0 hr x q p
        rcases g2 with ⟨d', rfl, rfl⟩ | ⟨k, a, rfl, hk, lv, ea, rfl, fa⟩
        · cases g1 with
          | pl g _ => exact ⟨as, .pl g h1, h2, fun a ha => let ⟨z1, k, z2, z3⟩ := h3 a ha; ⟨z1, k, sub k z2, z3⟩⟩
        · cases g1 with
          | pl _ g => cases g
          | own g g' _ =>
            have hnk : newK m.length (D.cell k :: ds) = k :: newK m.length ds := by
              show (if k < m.length then newK m.length ds else k :: newK m.length ds) = _
              rw [if_neg (by omega)]
            rw [hnk] at nd
            refine ⟨_ :: as, .own g g' h1, List.nodup_cons.mpr ⟨fun hm => ?_, h2⟩, fun b hb => ?_⟩
            · obtain ⟨_, k2, hk2, _, lv2, ea2⟩ := h3 _ hm
              have := hr.inj k k2 _ ea ea2 lv lv2
              subst this
              exact (List.nodup_cons.mp nd).1 hk2
            · rcases List.mem_cons.mp hb with rfl | hb
              · exact ⟨fa, k, by rw [hnk]; exact List.mem_cons_self, hk, lv, ea⟩
              · obtain ⟨z1, k2, z2, z3⟩ := h3 b hb
                exact ⟨z1, k2, sub k2 z2, z3⟩
theorem fin_ok (hr0 : HR K r F H m) (hr : HR K r' F' H' m') (x : Ext r F H m r' F' H' m') {v : V} {d : D} {res : RX FT} (h : finF m d m' = some (res, m2)) (p : Rep K r' F' v d) : ∃ r'' ft, res = .ok ft ∧ HR K r'' F' H' m2 ∧ Ext r F H m r'' F' H' m2 ∧ RF K H m2 r'' F' H' v ft := by
  unfold finF at h
  split at h
  · cases h
    exact ⟨r', _, rfl, hr, x, [], ⟨p, rfl⟩, .nil, fun a ha => nomatch ha⟩
  · split at h
    · rename_i hne ti
      cases hq : resT m.length m' d with
      | none => rw [hq] at h; cases h
      | some ft =>
        rw [hq] at h
        cases h
        have e : m' = m'.take m.length ++ m'.drop m.length := (List.take_append_drop _ _).symm
        have hl : (m'.take m.length).length = m.length := by rw [List.length_take]; have := x.mlen; omega
        have hrq := hr
        have xq := x
        rw [e] at hr x
        have q1 := hr0.trunc ti hr
        have q2 := x.trunc hr0.len ti.1
        rw [hl] at q1 q2
        have lv' : ∀ j, live (m'.take m.length) j → live m' j ∧ j < m.length := fun j ⟨c, ec, ng⟩ => by
          rw [List.getElem?_take] at ec
          split at ec
          · rename_i hj; exact ⟨⟨c, ec, ng⟩, hj⟩
          · cases ec
        have newOk : ∀ a : Addr, F' a = none → (∃ k : Nat, m.length ≤ k ∧ live m' k ∧ r'[k]? = some a) → H a = none ∧ F' a = none ∧ ∀ j : Nat, live (m'.take m.length) j → (r'.take m.length)[j]? ≠ some a := by
          rintro a fa ⟨k, hk, lv, ea⟩
          refine ⟨xq.fresh k a hk ea, fa, fun j lj ej => ?_⟩
          obtain ⟨l1, l2⟩ := lv' j lj
          rw [List.getElem?_take, if_pos l2] at ej
          have := hrq.inj j k a ej ea l1 lv
          omega
        refine ⟨_, ft, rfl, q1, q2, ?_⟩
        have one : ∀ {d : D} {ft : FT}, (resE m.length m' d).map F1.ft = some ft → Rep K r' F' v d → RF K H (m'.take m.length) (r'.take m.length) F' H' v ft := by
          intro d ft hq p
          cases z : resE m.length m' d with
          | none => rw [z] at hq; cases hq
          | some f =>
            rw [z] at hq
            obtain ⟨as, g1, g2⟩ := resE_ok hr0 hrq xq z p
            rcases g2 with ⟨d', rfl, rfl⟩ | ⟨k, a, rfl, hk, lv, ea, rfl, fa⟩
            · cases hq
              cases g1 with
              | pl g _ => exact ⟨[], ⟨g, rfl⟩, .nil, fun a ha => nomatch ha⟩
            · cases f with
              | pl d' =>
                cases g1 with
                | pl _ g => cases g
              | own xs =>
                cases hq
                exact ⟨[a], g1, by simp, fun b hb => by cases List.mem_singleton.mp hb; exact newOk a fa ⟨k, hk, lv, ea⟩⟩
        cases d with
        | tup ds =>
          unfold resT at hq
          dsimp only at hq
          split at hq
          · rename_i hu
            cases hq
            exact ⟨[], ⟨p.cut hu, rfl⟩, .nil, fun a ha => nomatch ha⟩
          · split at hq
            · rename_i nd
              cases z : resA m.length m' ds with
              | none => rw [z] at hq; cases hq
              | some fs =>
                rw [z] at hq
                cases hq
                cases p with
                | tup hp ps =>
                  obtain ⟨as, g1, g2, g3⟩ := resA_ok hr0 hrq xq z nd ps
                  exact ⟨as, ⟨_, _, rfl, hp, g1⟩, g2, fun a ha => let ⟨z1, k, _, z3⟩ := g3 a ha; newOk a z1 ⟨k, z3⟩⟩
            · cases hq
        | cell k => exact one (d := (.cell k)) hq p
        | non => exact one (d := .non) hq p
        | bl b => exact one (d := (.bl b)) hq p
        | int b => exact one (d := (.int b)) hq p
        | str b => exact one (d := (.str b)) hq p
        | lst b => exact one (d := (.lst b)) hq p
        | scr b => exact one (d := (.scr b)) hq p
        | exc b => exact one (d := (.exc b)) hq p
    · cases h
end
/-- THE RULE for a def -/
theorem fn_okF {CX : CXT} {P : Program} {w : World} {K : PySem.W.Frag} {mg : Str → Option Value} {base : Heap} {x qual : Str} {params : Arguments} {body : List Stmt} {scope : Scope} {f : Addr} {fd : FuncData} {N ps : List Str} {k : Nat} {b : MS}
    (F : FunD K x qual params body scope [] [] f fd) (sc : FnScope N ps scope) (t : WX → TS)
    (hP : ∀ (cdv : Value) (A : Around) (outer : List Env) (s : Shared) (H : Hp) (E : XK), Room k (A.deeper (envOfC qual scope s.heap.objs.size f cdv)) → PSs (cxOf CX P w K mg base N qual scope f cdv A outer s H E) body (t fun cls d _ H' => E cls d H'))
    (hS : SS K t b) : FnOk P w K mg base CX (k + 1) f fd ps (spF K (fnOf ps.length N.length b)) := by
  refine F.ok sc (fun vs H Q E h => ?_) (fun cdv A outer s H vs Q E hr h => ?_)
  · obtain ⟨r, F, m, ds, res, m', _, p, hs, _⟩ := h
    rw [p.len]
    unfold fnOf at hs
    split at hs
    · rename_i hl; exact hl
    · cases hs
  · obtain ⟨r, F, m, ds, res, m', hr0, p, hs, q⟩ := h
    unfold fnOf at hs
    split at hs
    · refine ⟨_, hP cdv A outer s H E hr, ?_⟩
      cases ho : b (st N.length ds) m with
      | none => rw [ho] at hs; cases hs
      | some o =>
        rw [ho] at hs
        refine hS (fun cls d _ H' => E cls d H') _ _ _ ho r F H _ _ hr0 (er_start p) ?_
        cases o with
        | rt d m1 =>
            intro v r' F' H' h1 x1 p1
            obtain ⟨r'', ft, rfl, z1, z2, z3⟩ := fin_ok hr0 h1 x1 hs p1
            exact q v r'' F' H' z1 z2 z3
        | nx δ m1 =>
            intro σ' r' F' H' h1 _ x1
            obtain ⟨r'', ft, rfl, z1, z2, z3⟩ := fin_ok (v := .non) hr0 h1 x1 hs .non
            exact q .non r'' F' H' z1 z2 z3
        | ex y δ m1 =>
            intro σ' r' F' H' h1 _ x1
            have hs' : (cutS m m1).map (fun m => ((RX.ex y : RX FT), m)) = some (res, m') := hs
            cases z : cutS m m1 with
            | none => rw [z] at hs'; cases hs'
            | some m3 =>
              rw [z] at hs'
              cases hs'
              obtain ⟨r'', z1, z2⟩ := cut_ok hr0 h1 x1 z
              exact q r'' F' H' z1 z2
        | bk δ m1 => cases hs
        | ct δ m1 => cases hs
    · cases hs
end DL
namespace DL
open PySem PySem.Spec PyProof.Rows L2
/-! ### what is read as a list -/
def rdL (m : Store) : D → Option (List D)
  | .lst xs => some xs
  | .cell k => match m[k]? with
    | some (.lst xs) => some xs
    | _ => none
  | _ => none
def rdQ (m : Store) : D → Option (List D)
  | .lst xs => some xs
  | .cell k => match m[k]? with
    | some (.lst xs) => some xs
    | _ => none
  | .scr ns => some (ns.map D.int)
  | _ => none
/-- .. or as a tuple -/
def rdS (m : Store) : D → Option (List D)
  | .lst xs => some xs
  | .cell k => match m[k]? with
    | some (.lst xs) => some xs
    | _ => none
  | .scr ns => some (ns.map D.int)
  | .tup xs => some xs
  | _ => none
section
variable {K : PySem.W.Frag} {m : Store} {d : D} {r : List Addr} {F H : Hp} {v : V} {xs : List D}
theorem cell_some {k : Nat} (h : (match m[k]? with | some (.lst xs) => some xs | _ => none) = some xs) : m[k]? = some (.lst xs) := by
  split at h
  · rename_i e; cases h; exact e
  · cases h
theorem rdL_get (h : rdL m d = some xs) (hr : HR K r F H m) (p : Rep K r F v d) : ∃ a vs, v = .ref a ∧ H a = some (.lst vs) ∧ RepAll K r F vs xs := by
  cases d with
  | lst ys => cases h; exact IsL.get (.lst (m := m)) hr p
  | cell k => exact IsL.get (.cell (cell_some h)) hr p
  | _ => cases h
theorem repAll_ints : ∀ (ns : List Int), RepAll K r F (ns.map V.int) (ns.map D.int)
  | [] => .nil
  | n :: ns => .cons (.int n) (repAll_ints ns)
theorem rdQ_get (h : rdQ m d = some xs) (hr : HR K r F H m) (p : Rep K r F v d) : ∃ a vs, v = .ref a ∧ SqL K H a vs ∧ RepAll K r F vs xs := by
  cases d with
  | lst ys => cases h; obtain ⟨a, vs, e, h1, h2⟩ := IsL.get (.lst (m := m)) hr p; exact ⟨a, vs, e, SqL.of h1, h2⟩
  | cell k => obtain ⟨a, vs, e, h1, h2⟩ := IsL.get (.cell (cell_some h)) hr p; exact ⟨a, vs, e, SqL.of h1, h2⟩
  | scr ns => cases h; cases p with
    | scr hs => exact ⟨_, _, rfl, hr.sub.seq hs, repAll_ints ns⟩
  | _ => cases h
theorem rdS_get (h : rdS m d = some xs) (hr : HR K r F H m) (p : Rep K r F v d) : ∃ a vs, v = .ref a ∧ (SqL K H a vs ∨ SqT K H a vs) ∧ RepAll K r F vs xs := by
  cases d with
  | lst ys => cases h; obtain ⟨a, vs, e, h1, h2⟩ := IsL.get (.lst (m := m)) hr p; exact ⟨a, vs, e, .inl (SqL.of h1), h2⟩
  | cell k => obtain ⟨a, vs, e, h1, h2⟩ := IsL.get (.cell (cell_some h)) hr p; exact ⟨a, vs, e, .inl (SqL.of h1), h2⟩
  | scr ns => cases h; cases p with
    | scr hs => exact ⟨_, _, rfl, .inl (hr.sub.seq hs), repAll_ints ns⟩
  | tup ys => cases h; cases p with
    | tup hs ha => exact ⟨_, _, rfl, .inr (SqT.of (hr.sub _ _ hs)), ha⟩
  | _ => cases h
end
/-! ### whole numbers -/
def pAdd : D → D → Store → MX D := fun x y m => match x, y with
  | .int i, .int j => ret (.int (i + j)) m
  | _, _ => none
theorem s2_pAdd {K : PySem.W.Frag} {W : WX} : S2 K W oAdd pAdd := fun x y m res m' e r F H σ vx vy hr px py => by
  unfold pAdd at e
  split at e
  · cases e; cases px; cases py
    exact fun Q q => ⟨_, _, rfl, rfl, q _ r F H hr (Ext.refl hr) (.int _)⟩
  · cases e
def pSub : D → D → Store → MX D := fun x y m => match x, y with
  | .int i, .int j => ret (.int (i - j)) m
  | _, _ => none
theorem s2_pSub {K : PySem.W.Frag} {W : WX} : S2 K W oSub pSub := fun x y m res m' e r F H σ vx vy hr px py => by
  unfold pSub at e
  split at e
  · cases e; cases px; cases py
    exact fun Q q => ⟨_, _, rfl, rfl, q _ r F H hr (Ext.refl hr) (.int _)⟩
  · cases e
open Classical in
noncomputable def pMul : D → D → Store → MX D := fun x y m => match x, y with
  | .int i, .int j => if CMul i j then ret (.int (i * j)) m else none
  | _, _ => none
theorem s2_pMul {K : PySem.W.Frag} {W : WX} : S2 K W oMul pMul := fun x y m res m' e r F H σ vx vy hr px py => by
  unfold pMul at e
  split at e
  · split at e
    · rename_i hc
      cases e; cases px; cases py
      exact fun Q q => ⟨_, _, rfl, rfl, hc, q _ r F H hr (Ext.refl hr) (.int _)⟩
    · cases e
  · cases e
open Classical in
noncomputable def pDiv : D → D → Store → MX D := fun x y m => match x, y with
  | .int i, .int j => if CDivW i j then ret (.int (i / j)) m else none
  | _, _ => none
theorem s2_pDiv {K : PySem.W.Frag} {W : WX} : S2 K W oDiv pDiv := fun x y m res m' e r F H σ vx vy hr px py => by
  unfold pDiv at e
  split at e
  · split at e
    · rename_i hc
      cases e; cases px; cases py
      exact fun Q q => ⟨_, _, rfl, rfl, hc, q _ r F H hr (Ext.refl hr) (.int _)⟩
    · cases e
  · cases e
open Classical in
noncomputable def pMod : D → D → Store → MX D := fun x y m => match x, y with
  | .int i, .int j => if 0 < j then ret (.int (i % j)) m else none
  | _, _ => none
theorem s2_pMod {K : PySem.W.Frag} {W : WX} : S2 K W oMod pMod := fun x y m res m' e r F H σ vx vy hr px py => by
  unfold pMod at e
  split at e
  · split at e
    · rename_i hc
      cases e; cases px; cases py
      exact fun Q q => ⟨_, _, rfl, rfl, hc, q _ r F H hr (Ext.refl hr) (.int _)⟩
    · cases e
  · cases e
open Classical in
noncomputable def pPow : D → D → Store → MX D := fun x y m => match x, y with
  | .int i, .int j => if CPow i j then ret (.int (i ^ j.toNat)) m else none
  | _, _ => none
theorem s2_pPow {K : PySem.W.Frag} {W : WX} : S2 K W oPow pPow := fun x y m res m' e r F H σ vx vy hr px py => by
  unfold pPow at e
  split at e
  · split at e
    · rename_i hc
      cases e; cases px; cases py
      exact fun Q q => ⟨_, _, rfl, rfl, hc, q _ r F H hr (Ext.refl hr) (.int _)⟩
    · cases e
  · cases e
def pLt : D → D → Store → MX D := fun x y m => match x, y with
  | .int i, .int j => ret (.bl (decide (i < j))) m
  | _, _ => none
theorem s2_pLt {K : PySem.W.Frag} {W : WX} : S2 K W oLt pLt := fun x y m res m' e r F H σ vx vy hr px py => by
  unfold pLt at e
  split at e
  · cases e; cases px; cases py
    exact fun Q q => ⟨_, _, rfl, rfl, q _ r F H hr (Ext.refl hr) (.bl _)⟩
  · cases e
def pLe : D → D → Store → MX D := fun x y m => match x, y with
  | .int i, .int j => ret (.bl (decide (i ≤ j))) m
  | _, _ => none
theorem s2_pLe {K : PySem.W.Frag} {W : WX} : S2 K W oLe pLe := fun x y m res m' e r F H σ vx vy hr px py => by
  unfold pLe at e
  split at e
  · cases e; cases px; cases py
    exact fun Q q => ⟨_, _, rfl, rfl, q _ r F H hr (Ext.refl hr) (.bl _)⟩
  · cases e
def pGt : D → D → Store → MX D := fun x y m => match x, y with
  | .int i, .int j => ret (.bl (decide (j < i))) m
  | _, _ => none
theorem s2_pGt {K : PySem.W.Frag} {W : WX} : S2 K W oGt pGt := fun x y m res m' e r F H σ vx vy hr px py => by
  unfold pGt at e
  split at e
  · cases e; cases px; cases py
    exact fun Q q => ⟨_, _, rfl, rfl, q _ r F H hr (Ext.refl hr) (.bl _)⟩
  · cases e
def pGe : D → D → Store → MX D := fun x y m => match x, y with
  | .int i, .int j => ret (.bl (decide (j ≤ i))) m
  | _, _ => none
theorem s2_pGe {K : PySem.W.Frag} {W : WX} : S2 K W oGe pGe := fun x y m res m' e r F H σ vx vy hr px py => by
  unfold pGe at e
  split at e
  · cases e; cases px; cases py
    exact fun Q q => ⟨_, _, rfl, rfl, q _ r F H hr (Ext.refl hr) (.bl _)⟩
  · cases e
def pNeg : D → Store → MX D := fun x m => match x with
  | .int i => ret (.int (-i)) m
  | _ => none
theorem s1_pNeg {K : PySem.W.Frag} {W : WX} : S1 K W oNeg pNeg := fun x m res m' e r F H σ vx hr px => by
  cases x with
  | int i => cases e; cases px; exact fun Q q => ⟨_, rfl, q _ r F H hr (Ext.refl hr) (.int _)⟩
  | _ => cases e
def pEq : D → D → Store → MX D := fun x y m => match x, y with
  | .int i, .int j => ret (.bl (decide (i = j))) m
  | .bl i, .bl j => ret (.bl (decide (i = j))) m
  | .str i, .str j => ret (.bl (decide (i = j))) m
  | .non, .non => ret (.bl (true)) m
  | .non, .int _ => ret (.bl (false)) m
  | .int _, .non => ret (.bl (false)) m
  | _, _ => none
theorem s2_pEq {K : PySem.W.Frag} {W : WX} : S2 K W rEq pEq := fun x y m res m' e r F H σ vx vy hr px py => by
  unfold pEq at e
  split at e
  · cases e; cases px; cases py
    refine fun Q q => ⟨rfl, ?_⟩
    rw [DL.dec_int]; exact q _ r F H hr (Ext.refl hr) (.bl _)
  · cases e; cases px; cases py
    refine fun Q q => ⟨rfl, ?_⟩
    rw [DL.dec_bl]; exact q _ r F H hr (Ext.refl hr) (.bl _)
  · cases e; cases px; cases py
    refine fun Q q => ⟨rfl, ?_⟩
    rw [DL.dec_str]; exact q _ r F H hr (Ext.refl hr) (.bl _)
  · cases e; cases px; cases py
    exact fun Q q => ⟨rfl, q _ r F H hr (Ext.refl hr) (.bl _)⟩
  · cases e; cases px; cases py
    exact fun Q q => ⟨rfl, q _ r F H hr (Ext.refl hr) (.bl _)⟩
  · cases e; cases px; cases py
    exact fun Q q => ⟨rfl, q _ r F H hr (Ext.refl hr) (.bl _)⟩
  · cases e
def pNe : D → D → Store → MX D := fun x y m => match x, y with
  | .int i, .int j => ret (.bl (!decide (i = j))) m
  | .bl i, .bl j => ret (.bl (!decide (i = j))) m
  | .str i, .str j => ret (.bl (!decide (i = j))) m
  | .non, .non => ret (.bl (!true)) m
  | .non, .int _ => ret (.bl (!false)) m
  | .int _, .non => ret (.bl (!false)) m
  | _, _ => none
theorem s2_pNe {K : PySem.W.Frag} {W : WX} : S2 K W rNe pNe := fun x y m res m' e r F H σ vx vy hr px py => by
  unfold pNe at e
  split at e
  · cases e; cases px; cases py
    refine fun Q q => ⟨rfl, ?_⟩
    rw [DL.dec_int]; exact q _ r F H hr (Ext.refl hr) (.bl _)
  · cases e; cases px; cases py
    refine fun Q q => ⟨rfl, ?_⟩
    rw [DL.dec_bl]; exact q _ r F H hr (Ext.refl hr) (.bl _)
  · cases e; cases px; cases py
    refine fun Q q => ⟨rfl, ?_⟩
    rw [DL.dec_str]; exact q _ r F H hr (Ext.refl hr) (.bl _)
  · cases e; cases px; cases py
    exact fun Q q => ⟨rfl, q _ r F H hr (Ext.refl hr) (.bl _)⟩
  · cases e; cases px; cases py
    exact fun Q q => ⟨rfl, q _ r F H hr (Ext.refl hr) (.bl _)⟩
  · cases e; cases px; cases py
    exact fun Q q => ⟨rfl, q _ r F H hr (Ext.refl hr) (.bl _)⟩
  · cases e
def pIsN : D → D → Store → MX D := fun x y m => match y with
  | .non => ret (.bl (x.isNon)) m
  | _ => none
theorem s2_pIsN {K : PySem.W.Frag} {W : WX} : S2 K W oIsN pIsN := fun x y m res m' e r F H σ vx vy hr px py => by
  cases y with
  | non =>
    cases e; cases py
    refine fun Q q => ⟨rfl, ?_⟩
    have : decide (vx = V.non) = x.isNon := by cases px <;> rfl
    rw [this]; exact q _ r F H hr (Ext.refl hr) (.bl _)
  | _ => cases e
def pNotN : D → D → Store → MX D := fun x y m => match y with
  | .non => ret (.bl (!x.isNon)) m
  | _ => none
theorem s2_pNotN {K : PySem.W.Frag} {W : WX} : S2 K W oNotN pNotN := fun x y m res m' e r F H σ vx vy hr px py => by
  cases y with
  | non =>
    cases e; cases py
    refine fun Q q => ⟨rfl, ?_⟩
    have : decide (vx = V.non) = x.isNon := by cases px <;> rfl
    rw [this]; exact q _ r F H hr (Ext.refl hr) (.bl _)
  | _ => cases e
/-! ### == of data at any depth -/
def vw (m : Store) : D → Option D
  | .cell k => match m[k]? with
    | some (.lst xs) => some (.lst xs)
    | _ => none
  | d => some d
def eqb (d e : D) : Bool := PyData.eqv d.toPy e.toPy
theorem vw_sd {m : Store} {d d' : D} (h : vw m d = some d') (s : Sh 60 d') : Sd m d d' := by
  cases d with
  | cell k =>
    unfold vw at h
    dsimp only at h
    split at h
    · rename_i e; cases h; exact .cell e s
    · cases h
  | non => cases h; exact .data s
  | bl _ => cases h; exact .data s
  | int _ => cases h; exact .data s
  | str _ => cases h; exact .data s
  | lst _ => cases h; exact .data s
  | tup _ => cases h; exact .data s
  | scr _ => cases h; exact .data s
  | exc _ => cases h; exact .data s
open Classical in
noncomputable def pEqD : D → D → Store → MX D := fun x y m => (vw m x).bind fun x => (vw m y).bind fun y => if Sh 60 x ∧ Sh 60 y then ret (.bl (eqb x y)) m else none
theorem s2_pEqD {K : PySem.W.Frag} {W : WX} : S2 K W (rEqD K) pEqD := fun x y m res m' e r F H σ vx vy hr px py => by
  unfold pEqD at e
  cases h1 : vw m x with
  | none => rw [h1] at e; cases e
  | some x' =>
    rw [h1] at e
    cases h2 : vw m y with
    | none => rw [h2] at e; cases e
    | some y' =>
      rw [h2] at e
      simp only [Option.bind_some] at e
      split at e
      · rename_i hs
        cases e
        have s1 := vw_sd h1 hs.1
        have s2 := vw_sd h2 hs.2
        exact fun Q q => ⟨_, _, s1.pd.1.dp hr px, s2.pd.1.dp hr py, s1.pd.2.1, s2.pd.2.1, q _ r F H hr (Ext.refl hr) (.bl _)⟩
      · cases e
open Classical in
noncomputable def pNeD : D → D → Store → MX D := fun x y m => (vw m x).bind fun x => (vw m y).bind fun y => if Sh 60 x ∧ Sh 60 y then ret (.bl (!eqb x y)) m else none
theorem s2_pNeD {K : PySem.W.Frag} {W : WX} : S2 K W (rNeD K) pNeD := fun x y m res m' e r F H σ vx vy hr px py => by
  unfold pNeD at e
  cases h1 : vw m x with
  | none => rw [h1] at e; cases e
  | some x' =>
    rw [h1] at e
    cases h2 : vw m y with
    | none => rw [h2] at e; cases e
    | some y' =>
      rw [h2] at e
      simp only [Option.bind_some] at e
      split at e
      · rename_i hs
        cases e
        have s1 := vw_sd h1 hs.1
        have s2 := vw_sd h2 hs.2
        exact fun Q q => ⟨_, _, s1.pd.1.dp hr px, s2.pd.1.dp hr py, s1.pd.2.1, s2.pd.2.1, q _ r F H hr (Ext.refl hr) (.bl _)⟩
      · cases e
/-! ### items, lengths -/
def pIxT : D → D → Store → MX D := fun x y m => match x, y with
  | .tup ds, .int i => (L2.atI ds i).bind fun d => ret d m
  | _, _ => none
theorem s2_pIxT {K : PySem.W.Frag} {W : WX} : S2 K W (rIxT K) pIxT := fun x y m res m' e r F H σ vx vy hr px py => by
  unfold pIxT at e
  split at e
  · rename_i ds i
    cases h : L2.atI ds i with
    | none => rw [h] at e; cases e
    | some d =>
      rw [h] at e; cases e
      exact y_ixT h r F H vx vy hr px py
  · cases e
def pIxL : D → D → Store → MX D := fun x y m => match y with
  | .int i => (rdQ m x).bind fun ds => (L2.atI ds i).bind fun d => ret d m
  | _ => none
theorem s2_pIxL {K : PySem.W.Frag} {W : WX} : S2 K W (rIxL K) pIxL := fun x y m res m' e r F H σ vx vy hr px py => by
  unfold pIxL at e
  split at e
  · rename_i i
    cases h0 : rdQ m x with
    | none => rw [h0] at e; cases e
    | some ds =>
      rw [h0] at e
      simp only [Option.bind_some] at e
      cases h : L2.atI ds i with
      | none => rw [h] at e; cases e
      | some d =>
        rw [h] at e; cases e
        cases py
        obtain ⟨a, vs, rfl, hs, ra⟩ := rdQ_get h0 hr px
        obtain ⟨v, e1, p⟩ := ra.atI h
        exact fun Q q => ⟨_, _, i, v, rfl, rfl, hs, e1, q _ r F H hr (Ext.refl hr) p⟩
  · cases e
def pLen : List D → Store → MX D := fun xs m => match xs with
  | [d] => (rdS m d).bind fun ds => ret (.int ds.length) m
  | _ => none
theorem rep1 {K : PySem.W.Frag} {r : List Addr} {F : Hp} {vs : List V} {d : D} (p : RepAll K r F vs [d]) : ∃ v, vs = [v] ∧ Rep K r F v d := by
  cases p with
  | cons p q => cases q; exact ⟨_, rfl, p⟩
theorem rep2 {K : PySem.W.Frag} {r : List Addr} {F : Hp} {vs : List V} {d e : D} (p : RepAll K r F vs [d, e]) : ∃ v w, vs = [v, w] ∧ Rep K r F v d ∧ Rep K r F w e := by
  cases p with
  | cons p q => obtain ⟨w, rfl, pw⟩ := rep1 q; exact ⟨_, _, rfl, p, pw⟩
theorem rep3 {K : PySem.W.Frag} {r : List Addr} {F : Hp} {vs : List V} {d e f : D} (p : RepAll K r F vs [d, e, f]) : ∃ v w z, vs = [v, w, z] ∧ Rep K r F v d ∧ Rep K r F w e ∧ Rep K r F z f := by
  cases p with
  | cons p q => obtain ⟨w, z, rfl, pw, pz⟩ := rep2 q; exact ⟨_, _, _, rfl, p, pw, pz⟩
theorem sc_pLen {K : PySem.W.Frag} {W : WX} : SC K W (RE K) (Evl.rLenS K) pLen := fun xs m res m' e r F H σ vs hr p => by
  unfold pLen at e
  split at e
  · rename_i d
    cases h0 : rdS m d with
    | none => rw [h0] at e; cases e
    | some ds =>
      rw [h0] at e; cases e
      obtain ⟨v, rfl, pv⟩ := rep1 p
      obtain ⟨a, ws, rfl, hs, ra⟩ := rdS_get h0 hr pv
      refine fun Q q => ⟨_, _, rfl, hs, ?_⟩
      rw [ra.len]; exact q _ r F H hr (Ext.refl hr) (.int _)
  · cases e
def pMax2 : List D → Store → MX D := fun xs m => match xs with
  | [.int i, .int j] => ret (.int (max i j)) m
  | _ => none
theorem sc_pMax2 {K : PySem.W.Frag} {W : WX} : SC K W (RE K) Evl.rMax2 pMax2 := fun xs m res m' e r F H σ vs hr p => by
  unfold pMax2 at e
  split at e
  · rename_i i j
    cases e
    obtain ⟨v, w, rfl, pv, pw⟩ := rep2 p
    cases pv; cases pw
    have z : (if j > i then j else i) = max i j := by split <;> omega
    refine fun Q q => ⟨i, j, rfl, ?_⟩
    rw [z]; exact q _ r F H hr (Ext.refl hr) (.int _)
  · cases e
def pMin2 : List D → Store → MX D := fun xs m => match xs with
  | [.int i, .int j] => ret (.int (min i j)) m
  | _ => none
theorem sc_pMin2 {K : PySem.W.Frag} {W : WX} : SC K W (RE K) rMin2 pMin2 := fun xs m res m' e r F H σ vs hr p => by
  unfold pMin2 at e
  split at e
  · rename_i i j
    cases e
    obtain ⟨v, w, rfl, pv, pw⟩ := rep2 p
    cases pv; cases pw
    have z : (if j < i then j else i) = min i j := by split <;> omega
    refine fun Q q => ⟨i, j, rfl, ?_⟩
    rw [z]; exact q _ r F H hr (Ext.refl hr) (.int _)
  · cases e
def pMax3 : List D → Store → MX D := fun xs m => match xs with
  | [.int i, .int j, .int k] => ret (.int (max (max i j) k)) m
  | _ => none
theorem sc_pMax3 {K : PySem.W.Frag} {W : WX} : SC K W (RE K) (rNuC3 nuMax3) pMax3 := fun xs m res m' e r F H σ vs hr p => by
  unfold pMax3 at e
  split at e
  · cases e
    exact y_max3 r F H vs hr p
  · cases e
def pMin3 : List D → Store → MX D := fun xs m => match xs with
  | [.int i, .int j, .int k] => ret (.int (min (min i j) k)) m
  | _ => none
theorem sc_pMin3 {K : PySem.W.Frag} {W : WX} : SC K W (RE K) (rNuC3 nuMin3) pMin3 := fun xs m res m' e r F H σ vs hr p => by
  unfold pMin3 at e
  split at e
  · cases e
    exact y_min3 r F H vs hr p
  · cases e
def pAbs : List D → Store → MX D := fun xs m => match xs with
  | [.int i] => ret (.int (if i < 0 then -i else i)) m
  | _ => none
theorem sc_pAbs {K : PySem.W.Frag} {W : WX} : SC K W (RE K) rAbs pAbs := fun xs m res m' e r F H σ vs hr p => by
  unfold pAbs at e
  split at e
  · cases e
    obtain ⟨v, rfl, pv⟩ := rep1 p
    cases pv
    exact fun Q q => ⟨_, rfl, q _ r F H hr (Ext.refl hr) (.int _)⟩
  · cases e
/-! ### lists of numbers, of truths -/
def toInts : List D → Option (List Int)
  | [] => some []
  | .int i :: ds => (toInts ds).map fun ns => i :: ns
  | _ :: _ => none
def bools : List D → Option (List Bool)
  | [] => some []
  | .bl i :: ds => (bools ds).map fun ns => i :: ns
  | _ :: _ => none
theorem toInts_eq : ∀ {ds : List D} {ns : List Int}, toInts ds = some ns → ds = ns.map D.int
  | [], _, h => by cases h; rfl
  | d :: ds, ns, h => by
    cases d with
    | int i =>
      unfold toInts at h
      cases q : toInts ds with
      | none => rw [q] at h; cases h
      | some ms => rw [q] at h; cases h; rw [toInts_eq q]; rfl
    | _ => cases h
theorem bools_eq : ∀ {ds : List D} {ns : List Bool}, bools ds = some ns → ds = ns.map D.bl
  | [], _, h => by cases h; rfl
  | d :: ds, ns, h => by
    cases d with
    | bl i =>
      unfold bools at h
      cases q : bools ds with
      | none => rw [q] at h; cases h
      | some ms => rw [q] at h; cases h; rw [bools_eq q]; rfl
    | _ => cases h
theorem toInts_map : ∀ ns : List Int, toInts (ns.map D.int) = some ns
  | [] => rfl
  | n :: ns => by
    show (toInts (ns.map D.int)).map _ = _
    rw [toInts_map ns]; rfl
theorem bools_map : ∀ ns : List Bool, bools (ns.map D.bl) = some ns
  | [] => rfl
  | n :: ns => by
    show (bools (ns.map D.bl)).map _ = _
    rw [bools_map ns]; rfl
def imax : List Int → Int
  | [] => 0
  | [a] => a
  | a :: b :: l => max a (imax (b :: l))
def imin : List Int → Int
  | [] => 0
  | [a] => a
  | a :: b :: l => min a (imin (b :: l))
theorem imax_mem : ∀ {l : List Int}, l ≠ [] → imax l ∈ l
  | [a], _ => List.mem_cons_self
  | a :: b :: l, _ => by
    have ih := imax_mem (l := b :: l) (by simp)
    show max a (imax (b :: l)) ∈ _
    rcases Int.le_total a (imax (b :: l)) with h | h
    · rw [Int.max_eq_right h]; exact List.mem_cons_of_mem _ ih
    · rw [Int.max_eq_left h]; exact List.mem_cons_self
theorem imax_ge : ∀ {l : List Int} {x : Int}, x ∈ l → x ≤ imax l
  | [a], x, h => by cases List.mem_singleton.mp h; exact Int.le_refl _
  | a :: b :: l, x, h => by
    show x ≤ max a (imax (b :: l))
    rcases List.mem_cons.mp h with rfl | h
    · exact Int.le_max_left _ _
    · exact Int.le_trans (imax_ge h) (Int.le_max_right _ _)
theorem imin_mem : ∀ {l : List Int}, l ≠ [] → imin l ∈ l
  | [a], _ => List.mem_cons_self
  | a :: b :: l, _ => by
    have ih := imin_mem (l := b :: l) (by simp)
    show min a (imin (b :: l)) ∈ _
    rcases Int.le_total a (imin (b :: l)) with h | h
    · rw [Int.min_eq_left h]; exact List.mem_cons_self
    · rw [Int.min_eq_right h]; exact List.mem_cons_of_mem _ ih
theorem imin_le : ∀ {l : List Int} {x : Int}, x ∈ l → imin l ≤ x
  | [a], x, h => by cases List.mem_singleton.mp h; exact Int.le_refl _
  | a :: b :: l, x, h => by
    show min a (imin (b :: l)) ≤ x
    rcases List.mem_cons.mp h with rfl | h
    · exact Int.min_le_left _ _
    · exact Int.le_trans (Int.min_le_right _ _) (imin_le h)
def pSum : List D → Store → MX D := fun xs m => match xs with
  | [d] => (rdQ m d).bind fun ds => (toInts ds).bind fun ns => ret (.int ns.sum) m
  | _ => none
theorem sc_pSum {K : PySem.W.Frag} {W : WX} : SC K W (RE K) (rSum K) pSum := fun xs m res m' e r F H σ vs hr p => by
  unfold pSum at e
  split at e
  · rename_i d
    cases h0 : rdQ m d with
    | none => rw [h0] at e; cases e
    | some ds =>
      rw [h0] at e
      simp only [Option.bind_some] at e
      cases h1 : toInts ds with
      | none => rw [h1] at e; cases e
      | some ns =>
        rw [h1] at e; cases e
        cases toInts_eq h1
        obtain ⟨v, rfl, pv⟩ := rep1 p
        obtain ⟨a, ws, rfl, hs, ra⟩ := rdQ_get h0 hr pv
        cases ra.ints
        exact fun Q q => ⟨_, _, rfl, hs, q _ r F H hr (Ext.refl hr) (.int _)⟩
  · cases e
def pMaxL : List D → Store → MX D := fun xs m => match xs with
  | [d] => (rdQ m d).bind fun ds => (toInts ds).bind fun ns => if ns.length = 0 then none else ret (.int (imax ns)) m
  | _ => none
theorem sc_pMaxL {K : PySem.W.Frag} {W : WX} : SC K W (RE K) (rMax K) pMaxL := fun xs m res m' e r F H σ vs hr p => by
  unfold pMaxL at e
  split at e
  · rename_i d
    cases h0 : rdQ m d with
    | none => rw [h0] at e; cases e
    | some ds =>
      rw [h0] at e
      simp only [Option.bind_some] at e
      cases h1 : toInts ds with
      | none => rw [h1] at e; cases e
      | some ns =>
        rw [h1] at e
        simp only [Option.bind_some] at e
        split at e
        · cases e
        · rename_i hz
          cases e
          cases toInts_eq h1
          obtain ⟨v, rfl, pv⟩ := rep1 p
          obtain ⟨a, ws, rfl, hs, ra⟩ := rdQ_get h0 hr pv
          cases ra.ints
          have hne : ns ≠ [] := fun z => hz (by rw [z]; rfl)
          refine fun Q q => ⟨_, _, rfl, hs, Nat.pos_of_ne_zero hz, fun k hk hall => ?_⟩
          have : k = imax ns := Int.le_antisymm (imax_ge hk) (hall _ (imax_mem hne))
          rw [this]
          exact q _ r F H hr (Ext.refl hr) (.int _)
  · cases e
def pMinL : List D → Store → MX D := fun xs m => match xs with
  | [d] => (rdQ m d).bind fun ds => (toInts ds).bind fun ns => if ns.length = 0 then none else ret (.int (imin ns)) m
  | _ => none
theorem sc_pMinL {K : PySem.W.Frag} {W : WX} : SC K W (RE K) (rMin K) pMinL := fun xs m res m' e r F H σ vs hr p => by
  unfold pMinL at e
  split at e
  · rename_i d
    cases h0 : rdQ m d with
    | none => rw [h0] at e; cases e
    | some ds =>
      rw [h0] at e
      simp only [Option.bind_some] at e
      cases h1 : toInts ds with
      | none => rw [h1] at e; cases e
      | some ns =>
        rw [h1] at e
        simp only [Option.bind_some] at e
        split at e
        · cases e
        · rename_i hz
          cases e
          cases toInts_eq h1
          obtain ⟨v, rfl, pv⟩ := rep1 p
          obtain ⟨a, ws, rfl, hs, ra⟩ := rdQ_get h0 hr pv
          cases ra.ints
          have hne : ns ≠ [] := fun z => hz (by rw [z]; rfl)
          refine fun Q q => ⟨_, _, rfl, hs, Nat.pos_of_ne_zero hz, fun k hk hall => ?_⟩
          have : k = imin ns := Int.le_antisymm (hall _ (imin_mem hne)) (imin_le hk)
          rw [this]
          exact q _ r F H hr (Ext.refl hr) (.int _)
  · cases e
def pAll : List D → Store → MX D := fun xs m => match xs with
  | [d] => (rdQ m d).bind fun ds => (bools ds).bind fun ns => ret (.bl (ns.all id)) m
  | _ => none
theorem sc_pAll {K : PySem.W.Frag} {W : WX} : SC K W (RE K) (rAll K) pAll := fun xs m res m' e r F H σ vs hr p => by
  unfold pAll at e
  split at e
  · rename_i d
    cases h0 : rdQ m d with
    | none => rw [h0] at e; cases e
    | some ds =>
      rw [h0] at e
      simp only [Option.bind_some] at e
      cases h1 : bools ds with
      | none => rw [h1] at e; cases e
      | some ns =>
        rw [h1] at e; cases e
        cases bools_eq h1
        obtain ⟨v, rfl, pv⟩ := rep1 p
        obtain ⟨a, ws, rfl, hs, ra⟩ := rdQ_get h0 hr pv
        cases ra.bls
        exact fun Q q => ⟨_, _, rfl, hs, q _ r F H hr (Ext.refl hr) (.bl _)⟩
  · cases e
def pAny : List D → Store → MX D := fun xs m => match xs with
  | [d] => (rdQ m d).bind fun ds => (bools ds).bind fun ns => ret (.bl (ns.any id)) m
  | _ => none
theorem sc_pAny {K : PySem.W.Frag} {W : WX} : SC K W (RE K) (rAny K) pAny := fun xs m res m' e r F H σ vs hr p => by
  unfold pAny at e
  split at e
  · rename_i d
    cases h0 : rdQ m d with
    | none => rw [h0] at e; cases e
    | some ds =>
      rw [h0] at e
      simp only [Option.bind_some] at e
      cases h1 : bools ds with
      | none => rw [h1] at e; cases e
      | some ns =>
        rw [h1] at e; cases e
        cases bools_eq h1
        obtain ⟨v, rfl, pv⟩ := rep1 p
        obtain ⟨a, ws, rfl, hs, ra⟩ := rdQ_get h0 hr pv
        cases ra.bls
        exact fun Q q => ⟨_, _, rfl, hs, q _ r F H hr (Ext.refl hr) (.bl _)⟩
  · cases e
end DL
namespace DL
open PySem PySem.Spec PyProof.Rows L2
section
variable {K : PySem.W.Frag} {W : WX} {ta tb tc : TE} {tas : TA} {a b c : ME} {as : MA}
/-- new lists of two values -/
def S2F (K : PySem.W.Frag) (W : WX) (rr : R2) (o : D → D → Store → MX FT) : Prop := ∀ x y m res m', o x y m = some (res, m') → ∀ r F H σ vx vy, HR K r F H m → Rep K r F vx x → Rep K r F vy y → JAt K W (RF K) r F H σ m (rr vx vy) res m'
def fOp (o : D → D → Store → MX FT) (a b : ME) : MF := fun δ m => (a δ m).bind fun x m => (b δ m).bind fun y m => o x y m
theorem so_fop {rr : R2} {o : D → D → Store → MX FT} (ho : S2F K W rr o) (ha : So K W (RE K) ta a) (hb : So K W (RE K) tb b) : So K W (RF K) (tOp rr ta tb) (fOp o a b) := fun δ m res m' e r F H σ hr er => by
  show JAt K W (RF K) r F H σ m (fun H Q => ta σ H fun x H1 => tb σ H1 fun y H2 => rr x y H2 Q) res m'
  rcases bind_some e with ⟨x, m1, e1, e2⟩ | ⟨y, e1, rfl⟩
  · refine (ha δ m _ _ e1 r F H σ hr er).bind rf_mon hr fun v r1 F1 H1 hr1 x1 rv => ?_
    rcases bind_some e2 with ⟨y, m2, e3, e4⟩ | ⟨y, e3, rfl⟩
    · refine (hb δ m1 _ _ e3 r1 F1 H1 σ hr1 (er.ext x1)).bind rf_mon hr1 fun w r2 F2 H2 hr2 x2 rw => ?_
      exact ho x y m2 res m' e4 r2 F2 H2 σ v w hr2 (rv.mono x2.pre x2.sub) rw
    · exact (hb δ m1 _ _ e3 r1 F1 H1 σ hr1 (er.ext x1)).thrown
  · exact (ha δ m _ _ e1 r F H σ hr er).thrown
def pCat : D → D → Store → MX FT := fun x y m => (rdL m x).bind fun xs => (rdL m y).bind fun ys => if xs.length + ys.length ≤ 100000 then ret (.own (xs ++ ys)) m else none
theorem s2_pCat : S2F K W rCat pCat := fun x y m res m' e r F H σ vx vy hr px py => by
  unfold pCat at e
  cases h1 : rdL m x with
  | none => rw [h1] at e; cases e
  | some xs =>
    rw [h1] at e
    cases h2 : rdL m y with
    | none => rw [h2] at e; cases e
    | some ys =>
      rw [h2] at e
      simp only [Option.bind_some] at e
      split at e
      · rename_i hl
        cases e
        obtain ⟨a, vs, rfl, e1, r1⟩ := rdL_get h1 hr px
        obtain ⟨b, ws, rfl, e2, r2⟩ := rdL_get h2 hr py
        exact fun Q q => ⟨a, b, vs, ws, rfl, rfl, e1, e2, Evl.sz_of (by rw [r1.len, r2.len]; exact hl), fun p hp => let ⟨q1, q2, q3⟩ := rf_new hr hp (r1.app r2); q _ r F _ q1 q2 q3⟩
      · cases e
theorem RepAll.flat {r : List Addr} {F : Hp} {vs : List V} {ds : List D} (h : RepAll K r F vs ds) : ∀ n : Nat, RepAll K r F (List.replicate n vs).flatten (List.replicate n ds).flatten
  | 0 => .nil
  | n + 1 => by
    rw [List.replicate_succ, List.replicate_succ, List.flatten_cons, List.flatten_cons]
    exact h.app (RepAll.flat h n)
def Rg62 (n : Int) : Prop := -(2 ^ 62) ≤ n ∧ n < 2 ^ 62
theorem rg62 {n : Int} (h1 : -1000000000000 ≤ n) (h2 : n ≤ 1000000000000) : Rg62 n := by
  unfold Rg62
  omega
theorem Rg62.wide {n : Int} (h : Rg62 n) : -(2 ^ 63) ≤ n ∧ n < 2 ^ 63 := by
  unfold Rg62 at h
  omega
open Classical in
noncomputable def pRep : D → D → Store → MX FT := fun x y m => match y with
  | .int k => (rdL m x).bind fun xs => if Rg62 k ∧ xs.length * k.toNat ≤ 100000 then ret (.own (List.replicate k.toNat xs).flatten) m else none
  | _ => none
theorem s2_pRep : S2F K W rRep pRep := fun x y m res m' e r F H σ vx vy hr px py => by
  cases y with
  | int k =>
    unfold pRep at e
    dsimp only at e
    cases h1 : rdL m x with
    | none => rw [h1] at e; cases e
    | some xs =>
      rw [h1] at e
      simp only [Option.bind_some] at e
      split at e
      · rename_i hl
        cases e
        cases py
        obtain ⟨a, vs, rfl, e1, r1⟩ := rdL_get h1 hr px
        exact fun Q q => ⟨a, k, vs, rfl, rfl, e1, hl.1.wide.1, hl.1.wide.2, Evl.sz_of (by rw [r1.len]; exact hl.2), fun p hp => let ⟨q1, q2, q3⟩ := rf_new hr hp (r1.flat k.toNat); q _ r F _ q1 q2 q3⟩
      · cases e
  | _ => cases e
/-- slices -/
abbrev MO := En → Store → MX (Option Int)
def oNone : MO := fun _ m => ret none m
def oSome (e : ME) : MO := fun δ m => (e δ m).bind fun x m => match x with
  | .int i => ret (some i) m
  | _ => none
theorem so_none : So K W RO tNoPart oNone := fun δ m res m' e r F H σ hr er => by cases e; exact fun Q q => q none r F H hr (Ext.refl hr) rfl
theorem so_some (h : So K W (RE K) ta a) : So K W RO (tPart ta) (oSome a) :=
  So.bind ro_mon h (k := fun (x : D) δ m => match x with
    | .int i => ret (some i) m
    | _ => none) (u := fun (x : V) σ H Q => ∃ i, x = .int i ∧ Q (some i) H) fun x δ m res m' e v r F H σ _ hr er rv => by
    cases x with
    | int c => cases rv; cases e; exact fun Q q => ⟨c, rfl, q _ r F H hr (Ext.refl hr) rfl⟩
    | _ => cases e
def cutD (xs : List D) (lo hi : Option Int) : List D := (xs.drop (HT.sIx xs.length 0 lo)).take (HT.sIx xs.length xs.length hi - HT.sIx xs.length 0 lo)
theorem RepAll.cutV {r : List Addr} {F : Hp} {vs : List V} {ds : List D} (h : RepAll K r F vs ds) (lo hi : Option Int) : RepAll K r F (L2.cutV vs lo hi) (cutD ds lo hi) := by
  unfold L2.cutV cutD
  rw [h.len]
  exact (h.drop _).take _
def fSl (a : ME) (l h : MO) : MF := fun δ m => (a δ m).bind fun x m => (l δ m).bind fun lo m => (h δ m).bind fun hi m => (rdQ m x).bind fun xs => ret (.own (cutD xs lo hi)) m
theorem so_sl {tl th : TO} {l h : MO} (ha : So K W (RE K) ta a) (hl : So K W RO tl l) (hh : So K W RO th h) : So K W (RF K) (tSl (rSlL K) ta tl th) (fSl a l h) := fun δ m res m' e r F H σ hr er => by
  show JAt K W (RF K) r F H σ m (fun H Q => ta σ H fun x H1 => tl σ H1 fun lo H2 => th σ H2 fun hi H3 => rSlL K x lo hi H3 Q) res m'
  rcases bind_some e with ⟨x, m1, e1, e2⟩ | ⟨y, e1, rfl⟩
  · refine (ha δ m _ _ e1 r F H σ hr er).bind rf_mon hr fun v r1 F1 H1 hr1 x1 rv => ?_
    rcases bind_some e2 with ⟨lo, m2, e3, e4⟩ | ⟨y, e3, rfl⟩
    · refine (hl δ m1 _ _ e3 r1 F1 H1 σ hr1 (er.ext x1)).bind rf_mon hr1 fun lo' r2 F2 H2 hr2 x2 rlo => ?_
      cases rlo
      rcases bind_some e4 with ⟨hi, m3, e5, e6⟩ | ⟨y, e5, rfl⟩
      · refine (hh δ m2 _ _ e5 r2 F2 H2 σ hr2 ((er.ext x1).ext x2)).bind rf_mon hr2 fun hi' r3 F3 H3 hr3 x3 rhi => ?_
        cases rhi
        cases h0 : rdQ m3 x with
        | none => rw [h0] at e6; cases e6
        | some xs =>
          rw [h0] at e6
          cases e6
          obtain ⟨p, vs, rfl, hs, ra⟩ := rdQ_get h0 hr3 ((rv.mono x2.pre x2.sub).mono x3.pre x3.sub)
          exact fun Q q => ⟨p, vs, rfl, hs, fun p' hp' => let ⟨q1, q2, q3⟩ := rf_new hr3 hp' (ra.cutV lo hi); q _ r3 F3 _ q1 q2 q3⟩
      · exact (hh δ m2 _ _ e5 r2 F2 H2 σ hr2 ((er.ext x1).ext x2)).thrown
    · exact (hl δ m1 _ _ e3 r1 F1 H1 σ hr1 (er.ext x1)).thrown
  · exact (ha δ m _ _ e1 r F H σ hr er).thrown
def fRev (a : ME) : MF := fun δ m => (a δ m).bind fun x m => (rdQ m x).bind fun xs => ret (.own xs.reverse) m
theorem so_rev (ha : So K W (RE K) ta a) : So K W (RF K) (tRevL K ta) (fRev a) :=
  So.bind rf_mon ha (k := fun (x : D) δ m => (rdQ m x).bind fun xs => ret (FT.own xs.reverse) m) (u := fun (x : V) σ H Q => ∃ a xs, x = .ref a ∧ SqL K H a xs ∧ ∀ p, H p = none → Q (.ref p) (upd H p (.lst xs.reverse))) fun x δ m res m' e v r F H σ _ hr er rv => by
    cases h0 : rdQ m x with
    | none => rw [h0] at e; cases e
    | some xs =>
      rw [h0] at e
      cases e
      obtain ⟨p, vs, rfl, hs, ra⟩ := rdQ_get h0 hr rv
      exact fun Q q => ⟨p, vs, rfl, hs, fun p' hp' => let ⟨q1, q2, q3⟩ := rf_new hr hp' ra.rev; q _ r F _ q1 q2 q3⟩
def fCB (p : List D → Store → MX FT) (as : MA) : MF := fun δ m => (as δ m).bind fun xs m => p xs m
theorem so_fCB {rr : List V → Hp → VK → Prop} {o : List D → Store → MX FT} (ho : SC K W (RF K) rr o) (hs : So K W (RA K) tas as) : So K W (RF K) (tCB rr tas) (fCB o as) := so_cb rf_mon ho hs
def pList : List D → Store → MX FT := fun xs m => match xs with
  | [d] => (rdS m d).bind fun ds => ret (.own ds) m
  | _ => none
theorem sc_pList : SC K W (RF K) (Evl.rListS K) pList := fun xs m res m' e r F H σ vs hr p => by
  unfold pList at e
  split at e
  · rename_i d
    cases h0 : rdS m d with
    | none => rw [h0] at e; cases e
    | some ds =>
      rw [h0] at e; cases e
      obtain ⟨v, rfl, pv⟩ := rep1 p
      obtain ⟨a, ws, rfl, hs, ra⟩ := rdS_get h0 hr pv
      exact fun Q q => ⟨_, _, rfl, hs, fun p' hp' => let ⟨q1, q2, q3⟩ := rf_new hr hp' ra; q _ r F _ q1 q2 q3⟩
  · cases e
/-- membership, flat items -/
def flatD : D → Bool
  | .non => true
  | .bl _ => true
  | .int _ => true
  | .str _ => true
  | _ => false
def eqF : D → D → Bool
  | .non, .non => true
  | .bl a, .bl b => a == b
  | .bl a, .int b => (if a then 1 else 0) == b
  | .int a, .bl b => a == (if b then 1 else 0)
  | .int a, .int b => a == b
  | .str a, .str b => a == b
  | _, _ => false
theorem flat_rep {r : List Addr} {F : Hp} {v : V} {d : D} (h : Rep K r F v d) (f : flatD d = true) : flatV v = true := by cases h <;> first | rfl | cases f
theorem eqF_rep {r : List Addr} {F : Hp} {v w : V} {d e : D} (h : Rep K r F v d) (h2 : Rep K r F w e) (f : flatD d = true) (f2 : flatD e = true) : eqV v w = eqF d e := by
  cases h <;> cases h2 <;> first | rfl | (exact absurd f Bool.false_ne_true) | (exact absurd f2 Bool.false_ne_true)
theorem flats_rep {r : List Addr} {F : Hp} {x : V} {d : D} (hx : Rep K r F x d) (fx : flatD d = true) : ∀ {vs : List V} {ds : List D}, RepAll K r F vs ds → ds.all flatD = true → vs.all flatV = true ∧ inV x vs = ds.any fun e => eqF e d
  | _, _, .nil, _ => ⟨rfl, rfl⟩
  | _, _, .cons h t, f => by
    rw [List.all_cons, Bool.and_eq_true] at f
    obtain ⟨i1, i2⟩ := flats_rep hx fx t f.2
    refine ⟨by rw [List.all_cons, flat_rep h f.1, i1]; rfl, ?_⟩
    unfold inV at i2 ⊢
    rw [List.any_cons, List.any_cons, i2, eqF_rep h hx f.1 fx]
def pIn (neg : Bool) : D → D → Store → MX D := fun x y m => (rdS m y).bind fun ys => if flatD x = true ∧ ys.all flatD = true then ret (.bl (if neg then !(ys.any fun e => eqF e x) else ys.any fun e => eqF e x)) m else none
theorem s2_pIn {neg : Bool} : S2 K W (rIn K neg) (pIn neg) := fun x y m res m' e r F H σ vx vy hr px py => by
  unfold pIn at e
  cases h0 : rdS m y with
  | none => rw [h0] at e; cases e
  | some ys =>
    rw [h0] at e
    simp only [Option.bind_some] at e
    split at e
    · rename_i hf
      cases e
      obtain ⟨a, ws, rfl, hs, ra⟩ := rdS_get h0 hr py
      obtain ⟨i1, i2⟩ := flats_rep px hf.1 ra hf.2
      refine fun Q q => ⟨_, _, rfl, hs, flat_rep px hf.1, i1, ?_⟩
      rw [i2]
      exact q _ r F H hr (Ext.refl hr) (.bl _)
    · cases e
def eBits (a : ME) : ME := fun δ m => (a δ m).bind fun x m => match x with
  | .int i => ret (.int (Builtin.Int.intBits i : Nat)) m
  | _ => none
theorem so_bits (ha : So K W (RE K) ta a) : So K W (RE K) (tBits ta) (eBits a) :=
  So.bind re_mon ha (k := fun (x : D) δ m => match x with
    | .int i => ret (.int (Builtin.Int.intBits i : Nat)) m
    | _ => none) (u := fun (x : V) σ H Q => ∃ i, x = .int i ∧ Q (.int (Builtin.Int.intBits i : Nat)) H) fun x δ m res m' e v r F H σ _ hr er rv => by
    cases x with
    | int i => cases rv; cases e; exact fun Q q => ⟨i, rfl, q _ r F H hr (Ext.refl hr) (.int _)⟩
    | _ => cases e
/-! ### methods of lists -/
def isLst (m : Store) (d : D) : Bool := (rdQ m d).isSome
theorem isLst_ty {m : Store} {d : D} {r : List Addr} {F H : Hp} {v : V} (h : isLst m d = true) (hr : HR K r F H m) (p : Rep K r F v d) : tyV K "list" v H := by
  unfold isLst at h
  cases h0 : rdQ m d with
  | none => rw [h0] at h; cases h
  | some xs =>
    obtain ⟨a, vs, rfl, hs, _⟩ := rdQ_get h0 hr p
    exact .inl ⟨rfl, vs, hs⟩
def eBM (p : D → List D → Store → MX D) (o : ME) (as : MA) : ME := fun δ m => (o δ m).bind fun x m => if isLst m x = true then (as δ m).bind fun xs m => p x xs m else none
def eBM0 (p : D → List D → Store → MX D) (o : ME) : ME := fun δ m => (o δ m).bind fun x m => if isLst m x = true then p x [] m else none
def SM (K : PySem.W.Frag) (W : WX) (rr : V → List V → Hp → VK → Prop) (o : D → List D → Store → MX D) : Prop := ∀ x xs m res m', o x xs m = some (res, m') → ∀ r F H σ v vs, HR K r F H m → Rep K r F v x → RepAll K r F vs xs → JAt K W (RE K) r F H σ m (rr v vs) res m'
theorem jat_and {K : PySem.W.Frag} {W : WX} {r : List Addr} {F H : Hp} {σ : L2.St} {m m' : Store} {P : Hp → Prop} {t : Hp → VK → Prop} {res : RX D} (hP : P H) (h : JAt K W (RE K) r F H σ m t res m') : JAt K W (RE K) r F H σ m (fun H Q => P H ∧ t H Q) res m' := by
  cases res with
  | ok z => exact fun Q q => ⟨hP, h Q q⟩
  | ex z => exact fun q Q => ⟨hP, h q Q⟩
theorem so_bm {rr : V → List V → Hp → VK → Prop} {p : D → List D → Store → MX D} (hp : SM K W rr p) (ho : So K W (RE K) ta a) (hs : So K W (RA K) tas as) : So K W (RE K) (tBM K "list" rr ta tas) (eBM p a as) :=
  So.bind re_mon ho (k := fun (x : D) δ m => if isLst m x = true then (as δ m).bind fun xs m => p x xs m else none) (u := fun (x : V) σ H Q => tyV K "list" x H ∧ tas σ H fun xs H2 => rr x xs H2 Q) fun x δ m res m' e v r F H σ _ hr er rv => by
    split at e
    · rename_i hl
      refine jat_and (P := fun H => tyV K "list" v H) (isLst_ty hl hr rv) ?_
      rcases bind_some e with ⟨xs, m1, e1, e2⟩ | ⟨y, e1, rfl⟩
      · exact (hs δ m _ _ e1 r F H σ hr er).bind re_mon hr fun vs r1 F1 H1 hr1 x1 rvs => hp x xs m1 res m' e2 r1 F1 H1 σ v vs hr1 (rv.mono x1.pre x1.sub) rvs
      · exact (hs δ m _ _ e1 r F H σ hr er).thrown
    · cases e
theorem so_bm0 {rr : V → List V → Hp → VK → Prop} {p : D → List D → Store → MX D} (hp : SM K W rr p) (ho : So K W (RE K) ta a) : So K W (RE K) (tBM0 K "list" rr ta) (eBM0 p a) :=
  So.bind re_mon ho (k := fun (x : D) δ m => if isLst m x = true then p x [] m else none) (u := fun (x : V) σ H Q => tyV K "list" x H ∧ rr x [] H Q) fun x δ m res m' e v r F H σ _ hr er rv => by
    split at e
    · rename_i hl
      exact jat_and (P := fun H => tyV K "list" v H) (isLst_ty hl hr rv) (hp x [] m res m' e r F H σ v [] hr rv .nil)
    · cases e
/-- the cell's list -/
def cellL (m : Store) : D → Option (Nat × List D)
  | .cell k => match m[k]? with
    | some (.lst xs) => some (k, xs)
    | _ => none
  | _ => none
theorem cellL_get {m : Store} {d : D} {r : List Addr} {F H : Hp} {v : V} {k : Nat} {xs : List D} (h : cellL m d = some (k, xs)) (hr : HR K r F H m) (p : Rep K r F v d) : ∃ a vs, v = .ref a ∧ r[k]? = some a ∧ m[k]? = some (.lst xs) ∧ H a = some (.lst vs) ∧ RepAll K r F vs xs := by
  cases d with
  | cell k' =>
    unfold cellL at h
    dsimp only at h
    split at h
    · rename_i ys e
      cases h
      cases p with
      | cell ea =>
        obtain ⟨_, vs, h1, h2⟩ := hr.cell _ _ _ ea e (fun z => nomatch z)
        exact ⟨_, _, rfl, ea, e, h1, h2⟩
    · cases h
  | _ => cases h
theorem putL {r : List Addr} {F H : Hp} {m : Store} {k : Nat} {a : Addr} {vs ws : List V} {xs ys : List D} (hr : HR K r F H m) (ea : r[k]? = some a) (hk : m[k]? = some (.lst xs)) (h1 : H a = some (.lst vs)) (q : RepAll K r F ws ys) :
    HR K r F (upd H a (.lst ws)) (m.set k (.lst ys)) ∧ Ext r F H m r F (upd H a (.lst ws)) (m.set k (.lst ys)) :=
  have lv : live m k := ⟨_, hk, fun z => nomatch z⟩
  ⟨hr.put lv ea (fun b z => by rw [h1] at z; cases z) ⟨_, upd_same, q⟩, Ext.put hr lv ea⟩
def pAppend : D → List D → Store → MX D := fun x as m => match as with
  | [d] => (cellL m x).bind fun p => if p.2.length < 100000 then ret .non (m.set p.1 (.lst (p.2 ++ [d]))) else none
  | _ => none
theorem sm_pAppend : SM K W rAppend pAppend := fun x xs m res m' e r F H σ v vs hr px ps => by
  unfold pAppend at e
  split at e
  · rename_i d
    cases h0 : cellL m x with
    | none => rw [h0] at e; cases e
    | some p =>
      obtain ⟨k, ys⟩ := p
      rw [h0] at e
      simp only [Option.bind_some] at e
      split at e
      · rename_i hl
        cases e
        obtain ⟨a, ws, rfl, ea, hk, h1, h2⟩ := cellL_get h0 hr px
        obtain ⟨y, rfl, py⟩ := rep1 ps
        obtain ⟨z1, z2⟩ := putL hr ea hk h1 (h2.app (.one py))
        exact fun Q q => ⟨_, ws, y, rfl, rfl, h1, Evl.sz_lt (by rw [h2.len]; exact hl), q _ r F _ z1 z2 .non⟩
      · cases e
  · cases e
def pReverse : D → List D → Store → MX D := fun x as m => match as with
  | [] => (cellL m x).bind fun p => ret .non (m.set p.1 (.lst p.2.reverse))
  | _ => none
theorem sm_pReverse : SM K W rReverse pReverse := fun x xs m res m' e r F H σ v vs hr px ps => by
  unfold pReverse at e
  split at e
  · cases h0 : cellL m x with
    | none => rw [h0] at e; cases e
    | some p =>
      obtain ⟨k, ys⟩ := p
      rw [h0] at e
      cases e
      obtain ⟨a, ws, rfl, ea, hk, h1, h2⟩ := cellL_get h0 hr px
      cases ps
      obtain ⟨z1, z2⟩ := putL hr ea hk h1 h2.rev
      exact fun Q q => ⟨_, ws, rfl, rfl, h1, q _ r F _ z1 z2 .non⟩
  · cases e
theorem RepAll.erase {r : List Addr} {F : Hp} : ∀ {vs : List V} {ds : List D} (i : Nat), RepAll K r F vs ds → RepAll K r F (vs.eraseIdx i) (ds.eraseIdx i)
  | _, _, _, .nil => .nil
  | _, _, 0, .cons _ t => t
  | _, _, i + 1, .cons q t => .cons q (RepAll.erase i t)
theorem RepAll.dropLast {r : List Addr} {F : Hp} {vs : List V} {ds : List D} (h : RepAll K r F vs ds) : RepAll K r F vs.dropLast ds.dropLast := by
  rw [List.dropLast_eq_take, List.dropLast_eq_take, h.len]; exact h.take _
def pPop : D → List D → Store → MX D := fun x as m => match as with
  | [] => (cellL m x).bind fun p => (p.2[p.2.length - 1]?).bind fun d => ret d (m.set p.1 (.lst p.2.dropLast))
  | _ => none
theorem sm_pPop : SM K W rPop pPop := fun x xs m res m' e r F H σ v vs hr px ps => by
  unfold pPop at e
  split at e
  · cases h0 : cellL m x with
    | none => rw [h0] at e; cases e
    | some p =>
      obtain ⟨k, ys⟩ := p
      rw [h0] at e
      simp only [Option.bind_some] at e
      cases hd : ys[ys.length - 1]? with
      | none => rw [hd] at e; cases e
      | some d =>
        rw [hd] at e
        cases e
        obtain ⟨a, ws, rfl, ea, hk, h1, h2⟩ := cellL_get h0 hr px
        cases ps
        obtain ⟨z1, z2⟩ := putL hr ea hk h1 h2.dropLast
        obtain ⟨y, ey, py⟩ := h2.get hd
        exact fun Q q => ⟨_, ws, y, rfl, rfl, h1, by rw [h2.len]; exact ey, q _ r F _ z1 z2 py⟩
  · cases e
open Classical in
noncomputable def pPopAt : D → List D → Store → MX D := fun x as m => match as with
  | [.int i] => (cellL m x).bind fun p => if Rg62 i then (seqIndex? i p.2.length).bind fun j => (p.2[j]?).bind fun d => ret d (m.set p.1 (.lst (p.2.eraseIdx j))) else none
  | _ => none
theorem sm_pPopAt : SM K W rPopAt pPopAt := fun x xs m res m' e r F H σ v vs hr px ps => by
  unfold pPopAt at e
  split at e
  · rename_i i
    cases h0 : cellL m x with
    | none => rw [h0] at e; cases e
    | some p =>
      obtain ⟨k, ys⟩ := p
      rw [h0] at e
      simp only [Option.bind_some] at e
      split at e
      · rename_i hb
        cases hj : seqIndex? i ys.length with
        | none => rw [hj] at e; cases e
        | some j =>
          rw [hj] at e
          simp only [Option.bind_some] at e
          cases hd : ys[j]? with
          | none => rw [hd] at e; cases e
          | some d =>
            rw [hd] at e
            cases e
            obtain ⟨a, ws, rfl, ea, hk, h1, h2⟩ := cellL_get h0 hr px
            obtain ⟨y, rfl, py⟩ := rep1 ps
            cases py
            obtain ⟨z1, z2⟩ := putL hr ea hk h1 (h2.erase j)
            obtain ⟨y, ey, py⟩ := h2.get hd
            exact fun Q q => ⟨_, ws, i, j, y, rfl, rfl, h1, hb.wide.1, hb.wide.2, by rw [h2.len]; exact hj, ey, q _ r F _ z1 z2 py⟩
      · cases e
  · cases e
end
/-- xs[i] = e -/
def sSetI (e o i : ME) : MS := fun δ m => (e δ m).run δ fun d m => (o δ m).run δ fun x m => (i δ m).run δ fun y m => match y with
  | .int k => (cellL m x).bind fun p => (ixN p.2.length k).bind fun j => some (.nx δ (m.set p.1 (.lst (p.2.set j d))))
  | _ => none
theorem ss_setI {K : PySem.W.Frag} {te to ti : WX → TE} {e o i : ME} (he : ∀ W, So K W (RE K) (te W) e) (ho : ∀ W, So K W (RE K) (to W) o) (hi : ∀ W, So K W (RE K) (ti W) i) : SS K (fun W => tAsg (te W) (gSub (to W) (ti W) rSetL)) (sSetI e o i) := fun W δ m out q r F H σ D hr er h => by
  show te W σ H fun v H1 => to W σ H1 fun o H2 => ti W σ H2 fun i H3 => rSetL o i v H3 fun H4 => D.nx σ H4
  rcases run_some q with ⟨d, m1, e1, q⟩ | ⟨y, m1, e1, rfl⟩
  · refine he W δ m _ _ e1 r F H σ hr er _ fun v r1 F1 H1 hr1 x1 rv => ?_
    have er1 := er.ext x1
    rcases run_some q with ⟨x, m2, e2, q⟩ | ⟨y, m2, e2, rfl⟩
    · refine ho W δ m1 _ _ e2 r1 F1 H1 σ hr1 er1 _ fun ov r2 F2 H2 hr2 x2 rx => ?_
      have er2 := er1.ext x2
      have x02 := x1.trans hr1.len hr.len x2
      rcases run_some q with ⟨y, m3, e3, q⟩ | ⟨y, m3, e3, rfl⟩
      · refine hi W δ m2 _ _ e3 r2 F2 H2 σ hr2 er2 _ fun iv r3 F3 H3 hr3 x3 ry => ?_
        have er3 := er2.ext x3
        have x03 := x02.trans hr2.len hr.len x3
        cases y with
        | int k =>
          dsimp only at q
          cases h0 : cellL m3 x with
          | none => rw [h0] at q; cases q
          | some p =>
            obtain ⟨kk, ys⟩ := p
            rw [h0] at q
            simp only [Option.bind_some] at q
            cases hj : ixN ys.length k with
            | none => rw [hj] at q; cases q
            | some j =>
              rw [hj] at q
              cases q
              cases ry
              obtain ⟨a, ws, rfl, ea, hk, h1, h2⟩ := cellL_get h0 hr3 (rx.mono x3.pre x3.sub)
              obtain ⟨z1, z2⟩ := putL hr3 ea hk h1 (h2.set ((rv.mono x2.pre x2.sub).mono x3.pre x3.sub) j)
              exact ⟨a, ws, k, j, rfl, rfl, h1, by rw [h2.len]; exact hj, h σ r3 F3 _ z1 er3 (x03.trans hr3.len hr.len z2)⟩
        | _ => cases q
      · exact hi W δ m2 _ _ e3 r2 F2 H2 σ hr2 er2 (fun r' F' H' hr' x' => h σ r' F' H' hr' (er2.ext x') (x02.trans hr2.len hr.len x')) _
    · exact ho W δ m1 _ _ e2 r1 F1 H1 σ hr1 er1 (fun r' F' H' hr' x' => h σ r' F' H' hr' (er1.ext x') (x1.trans hr1.len hr.len x')) _
  · exact he W δ m _ _ e1 r F H σ hr er (fun r' F' H' hr' x' => h σ r' F' H' hr' (er.ext x') x') _
/-- x += e of a name -/
def sAug (i : Nat) (f : Int → Int → Int) (e : ME) : MS := fun δ m => match δ[i]? with
  | some (some (.int a)) => (e δ m).run δ fun d m => match d with
    | .int b => some (.nx (δ.set i (some (.int (f a b)))) m)
    | _ => none
  | _ => none
theorem ss_aug {K : PySem.W.Frag} {te : WX → TE} {e : ME} {i : Nat} {f : Int → Int → Int} (he : ∀ W, So K W (RE K) (te W) e) : SS K (fun W => tAug i (te W) (ipI f)) (sAug i f e) := fun W δ m out q r F H σ D hr er h => by
  unfold sAug at q
  split at q
  · rename_i a hi
    obtain ⟨v, ev, pv⟩ := er.2 i _ hi
    cases pv
    refine ⟨_, ev, ?_⟩
    rcases run_some q with ⟨d, m1, e1, q⟩ | ⟨y, m1, e1, rfl⟩
    · refine he W δ m _ _ e1 r F H σ hr er _ fun w r1 F1 H1 hr1 x1 rw => ?_
      cases d with
      | int b =>
        cases q
        cases rw
        exact ⟨a, b, rfl, rfl, h _ r1 F1 H1 hr1 ((er.ext x1).set i (.int _)) x1⟩
      | _ => cases q
    · exact he W δ m _ _ e1 r F H σ hr er (fun r' F' H' hr' x' => h σ r' F' H' hr' (er.ext x') x') _
  · cases q
/-! ### what is walked -/
section
variable {K : PySem.W.Frag} {W : WX} {ta : TE} {tas : TA} {a : ME} {as : MA}
def srcOf : D → List D → List (Nat × List D)
  | .cell k, xs => [(k, xs)]
  | _, _ => []
def wList (e : ME) : MI := fun δ m => (e δ m).bind fun x m => (rdQ m x).bind fun xs => ret ⟨xs, srcOf x xs⟩ m
/-- while the walk's source stays, it reads the same -/
theorem src_stays {m m' : Store} {d : D} {xs : List D} (h : rdQ m d = some xs) (hc : ∀ p ∈ srcOf d xs, m'[p.1]? = some (.lst p.2)) : rdQ m' d = some xs := by
  cases d with
  | lst ys => exact h
  | scr ns => exact h
  | cell k =>
    have := hc (k, xs) (by simp [srcOf])
    show (match m'[k]? with | some (.lst xs) => some xs | _ => none) = some xs
    rw [this]
  | _ => cases h
theorem so_wList (he : So K W (RE K) ta a) : So K W (RI K) (iList K ta) (wList a) :=
  So.bind ri_mon he (k := fun (x : D) δ m => (rdQ m x).bind fun xs => ret (Wk.mk xs (srcOf x xs)) m) (u := fun (x : V) σ H R => ∃ a, x = .ref a ∧ (∃ xs, SqL K H a xs) ∧ R (Itl K a) H) fun x δ m res m' e v r F H σ _ hr er rv => by
    cases h0 : rdQ m x with
    | none => rw [h0] at e; cases e
    | some xs =>
      rw [h0] at e
      cases e
      obtain ⟨p, vs, rfl, hs, _⟩ := rdQ_get h0 hr rv
      refine fun Q q => ⟨_, rfl, ⟨_, hs⟩, q _ r F H hr (Ext.refl hr) fun r' F' H' m' pr sm hr' hC i => ?_⟩
      obtain ⟨p', ws, ep, hs', ra⟩ := rdQ_get (src_stays h0 hC) hr' (rv.mono pr sm)
      cases ep
      refine ⟨fun d hd => ?_, fun hi => ⟨_, hs', by rw [ra.len]; exact hi⟩⟩
      obtain ⟨v, e1, p1⟩ := ra.get hd
      refine ⟨⟨_, v, hs', e1⟩, fun x H'' y => ?_⟩
      obtain ⟨rfl, y⟩ := y
      have := y _ hs'
      rw [e1] at this; cases this
      exact ⟨F', hr', Ext.refl hr', p1⟩
def wTup (e : ME) : MI := fun δ m => (e δ m).bind fun x m => match x with
  | .tup xs => ret ⟨xs, []⟩ m
  | _ => none
theorem so_wTup (he : So K W (RE K) ta a) : So K W (RI K) (iTup K ta) (wTup a) :=
  So.bind ri_mon he (k := fun (x : D) δ m => match x with
    | .tup xs => ret (Wk.mk xs []) m
    | _ => none) (u := fun (x : V) σ H R => ∃ a, x = .ref a ∧ (∃ xs, SqT K H a xs) ∧ R (Itt K a) H) fun x δ m res m' e v r F H σ _ hr er rv => by
    cases x with
    | tup xs =>
      cases e
      cases rv with
      | tup hs ha =>
        refine fun Q q => ⟨_, rfl, ⟨_, SqT.of (hr.sub _ _ hs)⟩, q _ r F H hr (Ext.refl hr) fun r' F' H' m' pr sm hr' _ i => ?_⟩
        have hH := SqT.of (K := K) (hr'.sub _ _ (sm _ _ hs))
        refine ⟨fun d hd => ?_, fun hi => ⟨_, hH, by rw [ha.len]; exact hi⟩⟩
        obtain ⟨v, e1, p⟩ := ha.get hd
        refine ⟨⟨_, v, hH, e1⟩, fun x H'' y => ?_⟩
        obtain ⟨rfl, y⟩ := y
        have := y _ hH
        rw [e1] at this; cases this
        exact ⟨F', hr', Ext.refl hr', p.mono pr sm⟩
    | _ => cases e
open Classical in
noncomputable def wRng1 (as : MA) : MI := fun δ m => (as δ m).bind fun xs m => match xs with
  | [.int n] => if Rg62 n then ret ⟨rng 0 n.toNat, []⟩ m else none
  | _ => none
open Classical in
theorem so_wRng1 (hs : So K W (RA K) tas as) : So K W (RI K) (iRng1 tas) (wRng1 as) :=
  So.bind ri_mon hs (k := fun (xs : List D) δ m => match xs with
    | [.int n] => if Rg62 n then ret (Wk.mk (rng 0 n.toNat) []) m else none
    | _ => none) (u := fun (vs : List V) σ H R => ∃ j : Int, vs = [.int j] ∧ -(2 ^ 62) ≤ j ∧ j < 2 ^ 62 ∧ R (Itr 0 j.toNat) H) fun x δ m res m' e v r F H σ _ hr er rv => by
    split at e
    · rename_i n
      split at e
      · rename_i hn
        cases e
        obtain ⟨w, rfl, pw⟩ := rep1 rv
        cases pw
        exact fun Q q => ⟨n, rfl, hn.1, hn.2, q _ r F H hr (Ext.refl hr) itr_ok⟩
      · cases e
    · cases e
open Classical in
noncomputable def wRng2 (as : MA) : MI := fun δ m => (as δ m).bind fun xs m => match xs with
  | [.int a, .int b] => if Rg62 a ∧ Rg62 b then ret ⟨rng a (b - a).toNat, []⟩ m else none
  | _ => none
open Classical in
theorem so_wRng2 (hs : So K W (RA K) tas as) : So K W (RI K) (iRng2 tas) (wRng2 as) :=
  So.bind ri_mon hs (k := fun (xs : List D) δ m => match xs with
    | [.int a, .int b] => if Rg62 a ∧ Rg62 b then ret (Wk.mk (rng a (b - a).toNat) []) m else none
    | _ => none) (u := fun (vs : List V) σ H R => ∃ i j : Int, vs = [.int i, .int j] ∧ (-(2 ^ 62) ≤ i ∧ i < 2 ^ 62 ∧ -(2 ^ 62) ≤ j ∧ j < 2 ^ 62) ∧ R (Itr i (j - i).toNat) H) fun x δ m res m' e v r F H σ _ hr er rv => by
    split at e
    · rename_i n k
      split at e
      · rename_i hn
        cases e
        obtain ⟨w, w2, rfl, pw, pw2⟩ := rep2 rv
        cases pw; cases pw2
        exact fun Q q => ⟨n, k, rfl, ⟨hn.1.1, hn.1.2, hn.2.1, hn.2.2⟩, q _ r F H hr (Ext.refl hr) itr_ok⟩
      · cases e
    · cases e
/-- enumerate(xs), zip(xs, ys) -/
def enumD : Nat → List D → List D
  | _, [] => []
  | n, x :: xs => .tup [.int n, x] :: enumD (n + 1) xs
theorem enumD_get : ∀ {xs : List D} {n i : Nat} {d : D}, (enumD n xs)[i]? = some d → ∃ x, xs[i]? = some x ∧ d = .tup [.int ((n + i : Nat) : Int), x]
  | [], _, _, _, h => by simp [enumD] at h
  | x :: xs, n, 0, d, h => by simp [enumD] at h; exact ⟨x, rfl, by rw [← h]; rfl⟩
  | x :: xs, n, i + 1, d, h => by
    simp [enumD] at h
    obtain ⟨y, h1, h2⟩ := enumD_get h
    refine ⟨y, by simpa using h1, ?_⟩
    rw [h2, show n + 1 + i = n + (i + 1) by omega]
theorem enumD_len : ∀ (xs : List D) (n : Nat), (enumD n xs).length = xs.length
  | [], _ => rfl
  | x :: xs, n => by simp [enumD, enumD_len xs]
def zipD : List D → List D → List D
  | x :: xs, y :: ys => .tup [x, y] :: zipD xs ys
  | _, _ => []
theorem zipD_get : ∀ {xs ys : List D} {i : Nat} {d : D}, (zipD xs ys)[i]? = some d → ∃ x y, xs[i]? = some x ∧ ys[i]? = some y ∧ d = .tup [x, y]
  | [], _, _, _, h => by simp [zipD] at h
  | _ :: _, [], _, _, h => by simp [zipD] at h
  | x :: xs, y :: ys, 0, d, h => by simp [zipD] at h; exact ⟨x, y, rfl, rfl, h.symm⟩
  | x :: xs, y :: ys, i + 1, d, h => by
    simp [zipD] at h
    obtain ⟨a, b, h1, h2, h3⟩ := zipD_get h
    exact ⟨a, b, by simpa using h1, by simpa using h2, h3⟩
theorem zipD_len : ∀ (xs ys : List D), (zipD xs ys).length = min xs.length ys.length
  | [], ys => by simp [zipD]
  | _ :: _, [] => by simp [zipD]
  | x :: xs, y :: ys => by simp [zipD, zipD_len xs ys]
def wEnum (as : MA) : MI := fun δ m => (as δ m).bind fun ds m => match ds with
  | [d] => (rdQ m d).bind fun xs => ret ⟨enumD 0 xs, srcOf d xs⟩ m
  | _ => none
theorem so_wEnum (hs : So K W (RA K) tas as) : So K W (RI K) (iEnum K tas) (wEnum as) :=
  So.bind ri_mon hs (k := fun (ds : List D) δ m => match ds with
    | [d] => (rdQ m d).bind fun xs => ret (Wk.mk (enumD 0 xs) (srcOf d xs)) m
    | _ => none) (u := fun (vs : List V) σ H R => ∃ a xs, vs = [.ref a] ∧ SqL K H a xs ∧ R (Ite K a) H) fun x δ m res m' e v r F H σ _ hr er rv => by
    split at e
    · rename_i d
      cases h0 : rdQ m d with
      | none => rw [h0] at e; cases e
      | some xs =>
        rw [h0] at e
        cases e
        obtain ⟨w, rfl, pw⟩ := rep1 rv
        obtain ⟨p, vs, rfl, hs, _⟩ := rdQ_get h0 hr pw
        refine fun Q q => ⟨_, _, rfl, hs, q _ r F H hr (Ext.refl hr) fun r' F' H' m' pr sm hr' hC i => ?_⟩
        obtain ⟨p', ws, ep, hs', ra⟩ := rdQ_get (src_stays h0 hC) hr' (pw.mono pr sm)
        cases ep
        refine ⟨fun d hd => ?_, fun hi => ⟨_, hs', by rw [ra.len]; rw [enumD_len] at hi; exact hi⟩⟩
        obtain ⟨z, hz, rfl⟩ := enumD_get hd
        obtain ⟨v, e1, p1⟩ := ra.get hz
        refine ⟨⟨_, v, hs', e1⟩, fun x H'' y => ?_⟩
        obtain ⟨T, x, rfl, hT, rfl, y⟩ := y
        have := y _ hs'
        rw [e1] at this; cases this
        have e1 := Ext.laid hr' (o := .tup [.int (i : Int), v]) hT
        refine ⟨_, hr'.laid hT, e1, .tup upd_same ?_⟩
        rw [Nat.zero_add]
        exact .cons (.int _) (.cons (p1.mono (Pre.refl _) e1.sub) .nil)
    · cases e
def wZip (as : MA) : MI := fun δ m => (as δ m).bind fun ds m => match ds with
  | [d, e] => (rdQ m d).bind fun xs => (rdQ m e).bind fun ys => ret ⟨zipD xs ys, srcOf d xs ++ srcOf e ys⟩ m
  | _ => none
theorem so_wZip (hs : So K W (RA K) tas as) : So K W (RI K) (iZip K tas) (wZip as) :=
  So.bind ri_mon hs (k := fun (ds : List D) δ m => match ds with
    | [d, e] => (rdQ m d).bind fun xs => (rdQ m e).bind fun ys => ret (Wk.mk (zipD xs ys) (srcOf d xs ++ srcOf e ys)) m
    | _ => none) (u := fun (vs : List V) σ H R => ∃ a b xs ys, vs = [.ref a, .ref b] ∧ SqL K H a xs ∧ SqL K H b ys ∧ R (Itz K a b) H) fun x δ m res m' e v r F H σ _ hr er rv => by
    split at e
    · rename_i d d2
      cases h0 : rdQ m d with
      | none => rw [h0] at e; cases e
      | some xs =>
        rw [h0] at e
        simp only [Option.bind_some] at e
        cases h1 : rdQ m d2 with
        | none => rw [h1] at e; cases e
        | some ys =>
          rw [h1] at e
          cases e
          obtain ⟨w, w2, rfl, pw, pw2⟩ := rep2 rv
          obtain ⟨p, vs, rfl, hs, _⟩ := rdQ_get h0 hr pw
          obtain ⟨p2, vs2, rfl, hs2, _⟩ := rdQ_get h1 hr pw2
          refine fun Q q => ⟨_, _, _, _, rfl, hs, hs2, q _ r F H hr (Ext.refl hr) fun r' F' H' m' pr sm hr' hC i => ?_⟩
          obtain ⟨p', ws, ep, hs', ra⟩ := rdQ_get (src_stays h0 fun p hp => hC p (List.mem_append_left _ hp)) hr' (pw.mono pr sm)
          cases ep
          obtain ⟨p', ws2, ep, hs2', ra2⟩ := rdQ_get (src_stays h1 fun p hp => hC p (List.mem_append_right _ hp)) hr' (pw2.mono pr sm)
          cases ep
          refine ⟨fun d hd => ?_, fun hi => ⟨_, _, hs', hs2', by rw [ra.len, ra2.len]; rw [zipD_len] at hi; omega⟩⟩
          obtain ⟨z, z2, hz, hz2, rfl⟩ := zipD_get hd
          obtain ⟨v, e1, p1⟩ := ra.get hz
          obtain ⟨v2, e2, p2⟩ := ra2.get hz2
          refine ⟨⟨_, _, v, v2, hs', hs2', e1, e2⟩, fun x H'' y => ?_⟩
          obtain ⟨T, x, x2, rfl, hT, rfl, y, y2⟩ := y
          have q1 := y _ hs'
          rw [e1] at q1; cases q1
          have q2 := y2 _ hs2'
          rw [e2] at q2; cases q2
          have e1 := Ext.laid hr' (o := .tup [v, v2]) hT
          exact ⟨_, hr'.laid hT, e1, .tup upd_same (.cons (p1.mono (Pre.refl _) e1.sub) (.cons (p2.mono (Pre.refl _) e1.sub) .nil))⟩
    · cases e
end
end DL
namespace DL
open PySem PySem.Spec PyProof.Rows L2
/-! ### isinstance of built-in types -/
def tyN (m : Store) : D → Option String
  | .non => some "NoneType"
  | .bl _ => some "bool"
  | .int _ => some "int"
  | .str _ => some "str"
  | .lst _ => some "list"
  | .tup _ => some "tuple"
  | .cell k => match m[k]? with
    | some (.lst _) => some "list"
    | _ => none
  | _ => none
theorem tyN_tn {m : Store} {d : D} {n : String} (h : tyN m d = some n) : Tn m d n := by
  cases d with
  | non => cases h; exact .non
  | bl _ => cases h; exact .bl
  | int _ => cases h; exact .int
  | str _ => cases h; exact .str
  | lst _ => cases h; exact .lst
  | tup _ => cases h; exact .tup
  | cell k =>
    unfold tyN at h
    dsimp only at h
    split at h
    · rename_i e; cases h; exact .cell e
    · cases h
  | scr _ => cases h
  | exc _ => cases h
def isTy (n c : String) : Bool := decide (n = c) || (decide (n = "bool") && decide (c = "int"))
def tyNames : List String := ["NoneType", "bool", "int", "str", "list", "tuple"]
theorem tyN_mem {m : Store} {d : D} {n : String} (h : tyN m d = some n) : n ∈ tyNames := by
  have := tyN_tn h
  cases this <;> decide
def kitAll (c : String) : Bool := tyNames.all fun n => decide (kitB n c = some (isTy n c))
theorem ka_int : kitAll "int" = true := by decide +kernel
theorem ka_bool : kitAll "bool" = true := by decide +kernel
theorem ka_str : kitAll "str" = true := by decide +kernel
theorem ka_list : kitAll "list" = true := by decide +kernel
theorem ka_tuple : kitAll "tuple" = true := by decide +kernel
def eIsT (c : String) (a : ME) : ME := fun δ m => (a δ m).bind fun x m => (tyN m x).bind fun n => ret (.bl (isTy n c)) m
theorem so_isT {K : PySem.W.Frag} {W : WX} {ta : TE} {a : ME} {c : String} (hc : kitAll c = true) (ha : So K W (RE K) ta a) : So K W (RE K) (tCB (rIsi K) (tCons ta (tCons (tC (.ty c)) tNil))) (eIsT c a) :=
  So.bind re_mon ha (k := fun (x : D) δ m => (tyN m x).bind fun n => ret (.bl (isTy n c)) m) (u := fun (x : V) σ H Q => rIsi K [x, .ty c] H Q) fun x δ m res m' e v r F H σ _ hr er rv => by
    cases h : tyN m x with
    | none => rw [h] at e; cases e
    | some n =>
      rw [h] at e
      cases e
      have hb : kitB n c = some (isTy n c) := of_decide_eq_true (List.all_eq_true.mp hc n (tyN_mem h))
      exact y_isi (tyN_tn h) hb r F H v hr rv
/-! ### errors -/
def isXk (c y : Str) : Bool := decide (c = "ShelfError") || (decide (c = "ValueError") || decide (y = c))
def eIsX (ns : List Str) (c : Str) (a : ME) : ME := fun δ m => (a δ m).bind fun x m => match x with
  | .exc y => if y = "ShelfError" ∨ y ∈ ns then ret (.bl (isXk c y)) m else none
  | .non => ret (.bl false) m
  | _ => none
/-- what isinstance asks of a class, by its name -/
structure CK (K : PySem.W.Frag) (ns : List Str) (c : Str) (cv : V) (cu : Value) : Prop where
  cls : ClsV cv cu
  one : ∀ y : Str, y = ("ShelfError" : Str) ∨ y ∈ ns → PySem.W.kitOne K (.ref (ga K y)) cu = some (isXk c y)
  non : PySem.W.kitOne K (.type "NoneType") cu = some false
theorem ck_up {K : PySem.W.Frag} {ns : List Str} (xs : Xs K ns) : CK K ns "ShelfError" (.ref (ga K "ShelfError")) (.ref (ga K "ShelfError")) :=
  ⟨.own _, fun y hy => by
    rcases hy with rfl | hy
    · exact xs.up.s
    · exact (xs.one y hy).s, xs.up.n⟩
theorem ck_ve {K : PySem.W.Frag} {ns : List Str} (xs : Xs K ns) : CK K ns "ValueError" (.ty "ValueError") (.type "ValueError") :=
  ⟨.ty _, fun y hy => by
    rcases hy with rfl | hy
    · exact xs.up.v
    · exact (xs.one y hy).v, xs.nv⟩
theorem ck_one {K : PySem.W.Frag} {ns : List Str} (xs : Xs K ns) {c : Str} (hc : c ∈ ns) (h1 : c ≠ "ShelfError" ∧ c ≠ "ValueError") : CK K ns c (.ref (ga K c)) (.ref (ga K c)) :=
  ⟨.own _, fun y hy => by
    have e : isXk c y = decide (y = c) := by unfold isXk; rw [decide_eq_false h1.1, decide_eq_false h1.2]; rfl
    rw [e]
    rcases hy with rfl | hy
    · rw [xs.down c hc, decide_eq_false (fun z => h1.1 z.symm)]
    · exact xs.kit y hy c hc, (xs.one c hc).n⟩
theorem so_isX {K : PySem.W.Frag} {W : WX} {ta : TE} {a : ME} {ns : List Str} {c : Str} {cv : V} {cu : Value} (xs : Xs K ns) (ck : CK K ns c cv cu) (ha : So K W (RE K) ta a) : So K W (RE K) (tCB (rIsA K) (tCons ta (tCons (tC cv) tNil))) (eIsX ns c a) :=
  So.bind re_mon ha (k := fun (x : D) δ m => match x with
    | .exc y => if y = "ShelfError" ∨ y ∈ ns then ret (.bl (isXk c y)) m else none
    | .non => ret (.bl false) m
    | _ => none) (u := fun (x : V) σ H Q => rIsA K [x, cv] H Q) fun x δ m res m' e v r F H σ _ hr er rv => by
    cases x with
    | exc y =>
      dsimp only at e
      split at e
      · rename_i hy
        cases e
        cases rv with
        | exc h =>
          have hE : ExcC K (ga K y) := by
            rcases hy with rfl | hy
            · exact xs.up.c
            · exact (xs.one y hy).c
          exact fun Q q => .inl ⟨_, ga K y, cv, cu, _, rfl, h.imp (hr.sub _ _) (hr.sub _ _), hE, ck.cls, ck.one y hy, q _ r F H hr (Ext.refl hr) (.bl _)⟩
      · cases e
    | non =>
      cases e
      cases rv
      exact fun Q q => .inr ⟨.non, cv, .type "NoneType", cu, false, rfl, ck.cls, .base .non, ck.non, q _ r F H hr (Ext.refl hr) (.bl _)⟩
    | _ => cases e
def eExc (x : Str) (as : MA) : ME := fun δ m => (as δ m).bind fun _ m => ret (.exc x) m
theorem so_exc {K : PySem.W.Frag} {W : WX} {tas : TA} {as : MA} {x : Str} (hs : So K W (RA K) tas as) : So K W (RE K) (tExc (ga K x) tas) (eExc x as) :=
  So.bind re_mon hs (k := fun (_ : List D) δ m => ret (.exc x) m) (u := fun (_ : List V) σ H Q => ∀ a, H a = none → Q (.ref a) (upd H a (ExO (.ref (ga K x)) a))) fun ds δ m res m' e v r F H σ _ hr er rv => by
    cases e
    exact fun Q q a na => q _ r _ _ (hr.laid na) (Ext.laid hr na) (.exc (.inr upd_same))
/-- try: .. except ShelfError as i: j = i -/
def sTry (ns : List Str) (i j : Nat) (b : MS) : MS := fun δ m => match b δ m with
  | some (.ex x δ1 m1) => if x ∈ ns then some (.nx (((δ1.set i (some (.exc x))).set j (some (.exc x))).set i none) m1) else none
  | o => o
theorem ss_try {K : PySem.W.Frag} {ns : List Str} {i j : Nat} {t : WX → TS} {b : MS} (xs : Xs K ns) (hb : SS K t b) : SS K (fun _ => tTry K (.ref (ga K "ShelfError")) i j t) (sTry ns i j b) := fun W δ m o q => by
  unfold sTry at q
  cases h : b δ m with
  | none => rw [h] at q; cases q
  | some o1 =>
    rw [h] at q
    cases o1 with
    | ex x δ1 m1 =>
      dsimp only at q
      split at q
      · rename_i hx
        cases q
        exact ys_tryX (fun W' => hb W' δ m _ h) (xs.exm x hx)
      · cases q
    | nx δ1 m1 => cases q; exact fun r F H σ D hr er k => hb _ δ m _ h r F H σ D hr er k
    | rt d m1 => cases q; exact fun r F H σ D hr er k => hb _ δ m _ h r F H σ D hr er k
    | bk δ1 m1 => cases q; exact fun r F H σ D hr er k => hb _ δ m _ h r F H σ D hr er k
    | ct δ1 m1 => cases q; exact fun r F H σ D hr er k => hb _ δ m _ h r F H σ D hr er k
/-! ### sorted -/
def isort (ns : List Int) : List Int := ns.mergeSort fun a b => decide (a ≤ b)
theorem isort_perm (ns : List Int) : (isort ns).Perm ns := List.mergeSort_perm _ _
theorem isort_sorted (ns : List Int) : (isort ns).Pairwise (· ≤ ·) := by
  have := List.pairwise_mergeSort (le := fun a b : Int => decide (a ≤ b)) (fun a b c h1 h2 => by simp at *; omega) (fun a b => by simp; omega) ns
  exact this.imp fun h => by simpa using h
theorem isort_uniq {ns ns' : List Int} (h1 : ns'.Perm ns) (h2 : ns'.Pairwise (· ≤ ·)) : ns' = isort ns :=
  List.Perm.eq_of_pairwise (le := (· ≤ ·)) (fun a b _ _ x y => Int.le_antisymm x y) h2 (isort_sorted ns) (h1.trans (isort_perm ns).symm)
def pSortI : List D → Store → MX FT := fun xs m => match xs with
  | [d] => (rdQ m d).bind fun ds => (toInts ds).bind fun ns => ret (.own ((isort ns).map D.int)) m
  | _ => none
theorem sc_pSortI {K : PySem.W.Frag} {W : WX} : SC K W (RF K) (rSortedI K) pSortI := fun xs m res m' e r F H σ vs hr p => by
  unfold pSortI at e
  split at e
  · rename_i d
    cases h0 : rdQ m d with
    | none => rw [h0] at e; cases e
    | some ds =>
      rw [h0] at e
      simp only [Option.bind_some] at e
      cases h1 : toInts ds with
      | none => rw [h1] at e; cases e
      | some ns =>
        rw [h1] at e; cases e
        cases toInts_eq h1
        obtain ⟨v, rfl, pv⟩ := rep1 p
        obtain ⟨a, ws, rfl, hs, ra⟩ := rdQ_get h0 hr pv
        cases ra.ints
        refine fun Q q => ⟨_, _, rfl, hs, fun ns' p' h2 h3 hp' => ?_⟩
        rw [isort_uniq h2 h3]
        obtain ⟨q1, q2, q3⟩ := rf_new hr hp' (repAll_ints (isort ns))
        exact q _ r F _ q1 q2 q3
  · cases e
abbrev Sp2 := Int × Int
def eS (s : Sp2) : D := .tup [.int s.1, .int s.2]
def toPairs : List D → Option (List Sp2)
  | [] => some []
  | .tup [.int a, .int b] :: ds => (toPairs ds).map fun ps => (a, b) :: ps
  | _ :: _ => none
theorem toPairs_map : ∀ ps : List Sp2, toPairs (ps.map eS) = some ps
  | [] => rfl
  | p :: ps => by
    show (toPairs (ps.map eS)).map _ = _
    rw [toPairs_map ps]; rfl
theorem toPairs_eq : ∀ {ds : List D} {ps : List Sp2}, toPairs ds = some ps → ds = ps.map eS
  | [], _, h => by cases h; rfl
  | d :: ds, ps, h => by
    unfold toPairs at h
    split at h
    · rename_i e; cases e
    · rename_i a b ds' e
      cases e
      cases q : toPairs ds with
      | none => rw [q] at h; cases h
      | some qs => rw [q] at h; cases h; rw [toPairs_eq q]; rfl
    · cases h
def lexle (p q : Sp2) : Bool := !SrtO.lexB q p
theorem lexle_iff {p q : Sp2} : lexle p q = true ↔ p.1 < q.1 ∨ (p.1 = q.1 ∧ p.2 ≤ q.2) := by
  unfold lexle
  have h := SrtO.lexB_iff (p := q) (q := p)
  cases z : SrtO.lexB q p with
  | true =>
    have := h.mp z
    simp; omega
  | false =>
    have hn : ¬ (q.1 < p.1 ∨ q.1 = p.1 ∧ q.2 < p.2) := fun w => by rw [h.mpr w] at z; cases z
    simp; omega
def psort (ps : List Sp2) : List Sp2 := ps.mergeSort lexle
theorem psort_perm (ps : List Sp2) : (psort ps).Perm ps := List.mergeSort_perm _ _
theorem psort_sorted (ps : List Sp2) : (psort ps).Pairwise fun p q => lexle p q = true :=
  List.pairwise_mergeSort (le := lexle) (fun a b c h1 h2 => by rw [lexle_iff] at *; omega) (fun a b => by
    by_cases h : lexle a b = true
    · rw [h]; rfl
    · have : lexle b a = true := by rw [lexle_iff] at *; omega
      rw [this]; simp) ps
theorem psort_uniq {ps ps' : List Sp2} (h1 : ps'.Perm ps) (h2 : ps'.Pairwise fun p q => lexle p q = true) : ps' = psort ps :=
  List.Perm.eq_of_pairwise (le := fun p q => lexle p q = true) (fun a b _ _ x y => by
    rw [lexle_iff] at x y
    exact Prod.ext (by omega) (by omega)) h2 (psort_sorted ps) (h1.trans (psort_perm ps).symm)
def keyP (H : Hp) : V → Int × Int
  | .ref t => match H t with
    | some (.tup [.int a, .int b]) => (a, b)
    | _ => (0, 0)
  | _ => (0, 0)
theorem keyP_rep {K : PySem.W.Frag} {r : List Addr} {F H : Hp} (s : Same F H) {v : V} {p : Sp2} (h : Rep K r F v (eS p)) : keyP H v = p ∧ ∃ t, v = .ref t ∧ H t = some (.tup [.int p.1, .int p.2]) := by
  cases h with
  | tup hs ha =>
    obtain ⟨x, y, rfl, px, py⟩ := rep2 ha
    cases px; cases py
    have e := s _ _ hs
    exact ⟨by show (match H _ with | some (.tup [.int a, .int b]) => (a, b) | _ => (0, 0)) = p; rw [e], _, rfl, e⟩
theorem keys_rep {K : PySem.W.Frag} {r : List Addr} {F H : Hp} (s : Same F H) : ∀ {vs : List V} {ps : List Sp2}, RepAll K r F vs (ps.map eS) → vs.map (keyP H) = ps ∧ ∀ v ∈ vs, Rep K r F v (eS (keyP H v))
  | [], [], _ => ⟨rfl, fun v hv => nomatch hv⟩
  | v :: vs, p :: ps, .cons h t => by
    obtain ⟨e1, e2⟩ := keys_rep s t
    obtain ⟨e3, _⟩ := keyP_rep s h
    refine ⟨by rw [List.map_cons, e1, e3], fun w hw => ?_⟩
    rcases List.mem_cons.mp hw with rfl | hw
    · rw [e3]; exact h
    · exact e2 w hw
theorem rep_keys {K : PySem.W.Frag} {r : List Addr} {F : Hp} {k : V → Int × Int} : ∀ {vs : List V}, (∀ v ∈ vs, Rep K r F v (eS (k v))) → RepAll K r F vs ((vs.map k).map eS)
  | [], _ => .nil
  | v :: vs, h => .cons (h v List.mem_cons_self) (rep_keys fun w hw => h w (List.mem_cons_of_mem _ hw))
def pSortP : List D → Store → MX FT := fun xs m => match xs with
  | [d] => (rdQ m d).bind fun ds => (toPairs ds).bind fun ps => ret (.own ((psort ps).map eS)) m
  | _ => none
theorem sc_pSortP {K : PySem.W.Frag} {W : WX} : SC K W (RF K) (rSortedPO K) pSortP := fun xs m res m' e r F H σ vs hr p => by
  unfold pSortP at e
  split at e
  · rename_i d
    cases h0 : rdQ m d with
    | none => rw [h0] at e; cases e
    | some ds =>
      rw [h0] at e
      simp only [Option.bind_some] at e
      cases h1 : toPairs ds with
      | none => rw [h1] at e; cases e
      | some ps =>
        rw [h1] at e; cases e
        cases toPairs_eq h1
        obtain ⟨v, rfl, pv⟩ := rep1 p
        obtain ⟨a, ws, rfl, hs, ra⟩ := rdQ_get h0 hr pv
        obtain ⟨e1, e2⟩ := keys_rep hr.sub ra
        refine fun Q q => ⟨_, ws, keyP H, rfl, hs, fun x hx => (keyP_rep hr.sub (e2 x hx)).2, fun ys p' h2 h3 hp' => ?_⟩
        have hp : ys.Perm ws := h3.perm
        have e3 : ys.map (keyP H) = psort ps := by
          refine psort_uniq ?_ ?_
          · rw [← e1]; exact hp.map _
          · rw [List.pairwise_map]
            exact h2.imp fun {x y} z => by
              show (!SrtO.lexB (keyP H y) (keyP H x)) = true
              rw [show SrtO.lexB (keyP H y) (keyP H x) = false from z]; rfl
        have ra2 : RepAll K r F ys ((psort ps).map eS) := by
          rw [← e3]
          exact rep_keys fun y hy => e2 y (hp.mem_iff.mp hy)
        obtain ⟨q1, q2, q3⟩ := rf_new hr hp' ra2
        exact q _ r F _ q1 q2 q3
  · cases e
/-! ### callees, the law's own call -/
theorem fn_okG {CX : CXT} {P : Program} {w : World} {K : PySem.W.Frag} {mg : Str → Option Value} {base : Heap} {x qual : Str} {params : Arguments} {body : List Stmt} {scope : Scope} {f : Addr} {fd : FuncData} {N ps : List Str} {k n kk : Nat} {b : MS} {ff : FnS}
    (F : FunD K x qual params body scope [] [] f fd) (sc : FnScope N ps scope) (t : WX → TS)
    (hP : ∀ (cdv : Value) (A : Around) (outer : List Env) (s : Shared) (H : Hp) (E : XK), Room k (A.deeper (envOfC qual scope s.heap.objs.size f cdv)) → PSs (cxOf CX P w K mg base N qual scope f cdv A outer s H E) body (t fun cls d _ H' => E cls d H'))
    (hS : SS K t b) (hf : ff = fnOf n kk b) (hn : ps.length = n) (hk : N.length = kk) : FnOk P w K mg base CX (k + 1) f fd ps (spF K ff) := by
  subst hf hn hk
  exact fn_okF F sc t hP hS
def CalF (P : Program) (w : World) (K : PySem.W.Frag) (mg : Str → Option Value) (base : Heap) (x : Str) (k : Nat) (ps : List Str) (f : FnS) : Prop :=
  ∃ fd, FnOk P w K mg base (L2.CX P w) k (He.ga K x) fd ps (spF K f) ∧ Binds K fd ps [] ∧ PySem.W.keepIn K (.ref (He.ga K x)) = true ∧ mg x = some (.ref (He.ga K x))
section
variable {X : Cx} {k : Nat} {ps : List Str} {f : FnS} {x : Str} {p pos : Pos} {e : Expr} {es : List Expr} {t : TA}
theorem pc_own {j : Nat} (C : CalF X.prog X.w X.K X.mg X.base x j ps f) (hr : Room j X.A) (hg : Gl X x) (ha : PA X (e :: es) t) (hdb : (x == ("__debug__" : Str)) = false := by decide)
    (he : starEach (e :: es) X.env = (false, eval e X.env) :: starEach es X.env := by rfl) (hpl : (backTo pos (starEach es X.env)).any (·.1) = false := by rfl) : PE X (.Call (.Name x p) (e :: es) [] pos) (tCall (spF X.K f) [] E0 t) := by
  obtain ⟨fd, F, b, kp, m⟩ := C
  exact pe_call F hr hg m kp b .nil passL ha hdb he hpl
theorem pc_own0 {j : Nat} (C : CalF X.prog X.w X.K X.mg X.base x j ps f) (hr : Room j X.A) (hg : Gl X x) (hdb : (x == ("__debug__" : Str)) = false := by decide) : PE X (.Call (.Name x p) [] [] pos) (tCall (spF X.K f) [] E0 tNil) := by
  obtain ⟨fd, F, b, kp, m⟩ := C
  exact pe_call0 F hr hg m kp b .nil passL hdb
theorem pc_ownS {j : Nat} {W : WX} (C : CalF X.prog X.w X.K X.mg X.base x j ps f) (tk : Takes X W) (hr : Room j X.A) (hg : Gl X x) (ha : PA X (e :: es) t) (hdb : (x == ("__debug__" : Str)) = false := by decide)
    (he : starEach (e :: es) X.env = (false, eval e X.env) :: starEach es X.env := by rfl) (hpl : (backTo pos (starEach es X.env)).any (·.1) = false := by rfl) : PE X (.Call (.Name x p) (e :: es) [] pos) (tCallS (spF X.K f) (WE W) t) := by
  obtain ⟨fd, F, b, kp, m⟩ := C
  exact pe_callS F hr hg m kp b (fun σ => passAt tk σ) ha hdb he hpl
end
theorem law_startF {K : PySem.W.Frag} {f : FnS} {H : Hp} {a : Addr} {ns : List Int} (hS : SqL K H a (ns.map V.int)) {m' : Store} (h : f [.scr ns] [] = some (.ok (.pl (.bl true)), m')) : spF K f [.ref a] H (fun v _ => v = .bl true) (fun _ _ _ => False) :=
  ⟨[], H, [], [.scr ns], .ok (.pl (.bl true)), m', ⟨rfl, Same.refl _, fun k a c e => by simp at e, fun k l a e => by simp at e⟩, .cons (.scr hS) .nil, h, fun v r F H _ _ p => by
    obtain ⟨as, ⟨p, _⟩, _⟩ := p
    cases p; rfl⟩
end DL
/-! Plain proofs about evaluators: what holds behind a run. -/
namespace DL
open PySem PySem.Spec PyProof.Rows L2
def wp {α : Type} (x : MX α) (Q : RX α → Store → Prop) : Prop := match x with
  | some (r, m) => Q r m
  | none => False
def ws (x : Option OT) (Q : OT → Prop) : Prop := match x with
  | some o => Q o
  | none => False
section
variable {α β : Type} {a : α} {m : Store} {x : MX α} {Q Q' : RX α → Store → Prop} {o : OT} {R R' : OT → Prop} {y : Option OT} {δ : En}
theorem wp_some {r : RX α} : wp (some (r, m)) Q = Q r m := rfl
theorem wp_none : wp (none : MX α) Q = False := rfl
theorem ws_some : ws (some o) R = R o := rfl
theorem ws_none : ws none R = False := rfl
theorem wp_mono (h : wp x Q) (k : ∀ r m, Q r m → Q' r m) : wp x Q' := by
  cases x with
  | none => exact h
  | some p => exact k _ _ h
theorem ws_mono (h : ws y R) (k : ∀ o, R o → R' o) : ws y R' := by
  cases y with
  | none => exact h
  | some p => exact k _ h
theorem wp_get (h : wp x Q) : ∃ r m, x = some (r, m) ∧ Q r m := by
  cases x with
  | none => exact h.elim
  | some p => exact ⟨p.1, p.2, rfl, h⟩
theorem ws_get (h : ws y R) : ∃ o, y = some o ∧ R o := by
  cases y with
  | none => exact h.elim
  | some p => exact ⟨p, rfl, h⟩
theorem wp_bind {k : α → Store → MX β} {Q : RX β → Store → Prop} : wp (x.bind k) Q = wp x (fun r m => match r with | .ok a => wp (k a m) Q | .ex y => Q (.ex y) m) := by
  cases x with
  | none => rfl
  | some p =>
    obtain ⟨r, m⟩ := p
    cases r <;> rfl
theorem wp_sure {k : α → Store → MX β} {Q : RX β → Store → Prop} : wp (x.sure k) Q = wp x (fun r m => match r with | .ok a => wp (k a m) Q | .ex _ => False) := by
  cases x with
  | none => rfl
  | some p =>
    obtain ⟨r, m⟩ := p
    cases r <;> rfl
theorem ws_run {k : α → Store → Option OT} : ws (x.run δ k) R = wp x (fun r m => match r with | .ok a => ws (k a m) R | .ex y => R (.ex y δ m)) := by
  cases x with
  | none => rfl
  | some p =>
    obtain ⟨r, m⟩ := p
    cases r <;> rfl
theorem ws_seq {a b : MS} : ws (sSeq a b δ m) R = ws (a δ m) (fun o => match o with | .nx δ m => ws (b δ m) R | o => R o) := by
  unfold sSeq
  cases a δ m with
  | none => rfl
  | some o => cases o <;> rfl
theorem wp_ite {c : Prop} [Decidable c] {x y : MX α} : wp (if c then x else y) Q = if c then wp x Q else wp y Q := by split <;> rfl
theorem ws_ite {c : Prop} [Decidable c] {x y : Option OT} : ws (if c then x else y) R = if c then ws x R else ws y R := by split <;> rfl
end
theorem and_ret {b c : Bool} {m : Store} : cond b (ret (D.bl c) m) (ret (D.bl false) m) = ret (D.bl (b && c)) m := by cases b <;> rfl
theorem or_ret {b c : Bool} {m : Store} : cond b (ret (D.bl true) m) (ret (D.bl c) m) = ret (D.bl (b || c)) m := by cases b <;> rfl
theorem and_retB {b c : Bool} {m : Store} : cond b (ret c m) (ret false m) = ret (b && c) m := by cases b <;> rfl
theorem or_retB {b c : Bool} {m : Store} : cond b (ret true m) (ret c m) = ret (b || c) m := by cases b <;> rfl
theorem wp_cond {α : Type} {b : Bool} {x y : MX α} {Q : RX α → Store → Prop} : wp (cond b x y) Q = ((b = true → wp x Q) ∧ (b = false → wp y Q)) := by cases b <;> simp
theorem ws_cond {b : Bool} {x y : Option OT} {R : OT → Prop} : ws (cond b x y) R = ((b = true → ws x R) ∧ (b = false → ws y R)) := by cases b <;> simp
theorem atI_0 {α : Type} {x : α} {xs : List α} : L2.atI (x :: xs) 0 = some x := by
  rw [atI_of (by omega) (by simp <;> omega)]; rfl
theorem atI_1 {α : Type} {x y : α} {xs : List α} : L2.atI (x :: y :: xs) 1 = some y := by
  rw [atI_of (by omega) (by simp <;> omega)]; rfl
theorem atI_2 {α : Type} {x y z : α} {xs : List α} : L2.atI (x :: y :: z :: xs) 2 = some z := by
  rw [atI_of (by omega) (by simp <;> omega)]; rfl
theorem atI_3 {α : Type} {x y z u : α} {xs : List α} : L2.atI (x :: y :: z :: u :: xs) 3 = some u := by
  rw [atI_of (by omega) (by simp <;> omega)]; rfl
theorem atI_last {α : Type} {xs : List α} {x : α} : L2.atI (xs ++ [x]) (-1) = some x := by
  unfold L2.atI ixN
  have hl : (xs ++ [x]).length = xs.length + 1 := by simp
  rw [if_neg (show ¬ (0 : Int) ≤ -1 by omega), hl, if_pos (show -((xs.length + 1 : Nat) : Int) ≤ -1 by omega)]
  simp only [Option.bind_some]
  have : ((-1 : Int) + ((xs.length + 1 : Nat) : Int)).toNat = xs.length := by omega
  rw [this]; simp
theorem wp_fn {n N : Nat} {b : MS} {ds : List D} {m : Store} {Q : RX FT → Store → Prop} (h : ds.length = n) : wp (fnOf n N b ds m) Q = ws (b (st N ds) m) (fun o => wp (endF m (some o)) Q) := by
  unfold fnOf
  rw [if_pos h]
  cases b (st N ds) m with
  | none => rfl
  | some o => rfl
theorem wp_fnI {n N : Nat} {b : MS} {ds : List D} {m : Store} {Q : RX FT → Store → Prop} (h : ds.length = n) (k : ws (b (st N ds) m) (fun o => wp (endF m (some o)) Q)) : wp (fnOf n N b ds m) Q := by
  rw [wp_fn h]; exact k
theorem endF_rt {m m' : Store} {d : D} : endF m (some (.rt d m')) = finF m d m' := rfl
theorem endF_nx {m m' : Store} {δ : En} : endF m (some (.nx δ m')) = finF m .non m' := rfl
theorem endF_ex {m m' : Store} {δ : En} {x : Str} : endF m (some (.ex x δ m')) = (cutS m m').map fun m => (.ex x, m) := rfl
theorem cut_same {m m' : Store} (h : m'.length = m.length) : cutS m m' = some m' := by unfold cutS; rw [if_pos h]
theorem cut_app {m0 m l : Store} (hl : m.length = m0.length) (ti : Tidy m0 m) : cutS m0 (m ++ l) = some m := by
  unfold cutS
  by_cases hz : (m ++ l).length = m0.length
  · rw [if_pos hz]
    have : l = [] := by
      rw [List.length_append] at hz
      exact List.eq_nil_of_length_eq_zero (by omega)
    subst this
    rw [List.append_nil]
  · rw [if_neg hz]
    have e : (m ++ l).take m0.length = m := by rw [← hl]; simp
    rw [e, if_pos ti]
theorem ixN_lit30 : ixN 3 0 = some 0 := rfl
theorem ixN_lit31 : ixN 3 1 = some 1 := rfl
theorem ixN_lit32 : ixN 3 2 = some 2 := rfl
/-- for, by an invariant over what is left -/
theorem ws_for {g : MG} {b : MS} {c : Store → Prop} {R : OT → Prop} (I : List D → En → Store → Prop) (hc : ∀ l δ m, I l δ m → c m) (hend : ∀ δ m, I [] δ m → R (.nx δ m))
    (step : ∀ x l δ m, I (x :: l) δ m → ∃ δ1, g x δ = some δ1 ∧ ws (b δ1 m) (fun o => match o with | .nx δ m => I l δ m | .ct δ m => I l δ m | .bk δ m => R (.nx δ m) | o => R o)) :
    ∀ {l : List D} {δ : En} {m : Store}, I l δ m → ws (forM g b c l δ m) R
  | [], δ, m, h => by
    unfold forM
    rw [if_pos (hc _ _ _ h)]
    exact hend δ m h
  | x :: l, δ, m, h => by
    unfold forM
    rw [if_pos (hc _ _ _ h)]
    obtain ⟨δ1, e1, h1⟩ := step x l δ m h
    rw [e1]
    simp only [Option.bind_some]
    obtain ⟨o, e2, h2⟩ := ws_get h1
    rw [e2]
    cases o with
    | nx δ m => exact ws_for I hc hend step h2
    | ct δ m => exact ws_for I hc hend step h2
    | bk δ m => exact h2
    | rt d m => exact h2
    | ex y δ m => exact h2
/-- it goes on -/
def Nx (I : En → Store → Prop) (o : OT) : Prop := ∃ δ m, o = .nx δ m ∧ I δ m
theorem nx_nx {I : En → Store → Prop} {δ : En} {m : Store} : Nx I (.nx δ m) = I δ m := propext ⟨fun ⟨_, _, e, h⟩ => by cases e; exact h, fun h => ⟨_, _, rfl, h⟩⟩
/-- for, whose body goes on -/
theorem forN {g : MG} {b : MS} {c : Store → Prop} (I : List D → En → Store → Prop) (hc : ∀ l δ m, I l δ m → c m) (step : ∀ x l δ m, I (x :: l) δ m → ∃ δ1, g x δ = some δ1 ∧ ws (b δ1 m) (Nx (I l))) {l : List D} {δ : En} {m : Store} (h : I l δ m) : ws (forM g b c l δ m) (Nx (I [])) :=
  ws_for (R := Nx (I [])) I hc (fun δ m h => ⟨δ, m, rfl, h⟩) (fun x l δ m h => by
    obtain ⟨δ1, e1, h1⟩ := step x l δ m h
    refine ⟨δ1, e1, ws_mono h1 ?_⟩
    rintro o ⟨δ2, m2, rfl, h2⟩
    exact h2) h
/-- for over typed items -/
theorem ws_forT {α : Type} {g : MG} {b : MS} {c : Store → Prop} {R : OT → Prop} (en : α → D) (I : List α → En → Store → Prop) (hc : ∀ l δ m, I l δ m → c m) (hend : ∀ δ m, I [] δ m → R (.nx δ m))
    (step : ∀ x l δ m, I (x :: l) δ m → ∃ δ1, g (en x) δ = some δ1 ∧ ws (b δ1 m) (fun o => match o with | .nx δ m => I l δ m | .ct δ m => I l δ m | .bk δ m => R (.nx δ m) | o => R o)) {l : List α} {δ : En} {m : Store} (h : I l δ m) : ws (forM g b c (l.map en) δ m) R :=
  ws_for (R := R) (fun l' δ m => ∃ l, l' = l.map en ∧ I l δ m) (fun _ _ _ ⟨l, _, h⟩ => hc l _ _ h) (fun δ m ⟨l, e, h⟩ => by
    cases l with
    | nil => exact hend δ m h
    | cons _ _ => cases e) (fun x l' δ m ⟨l, e, h⟩ => by
    cases l with
    | nil => cases e
    | cons y l =>
      cases e
      obtain ⟨δ1, e1, h1⟩ := step y l δ m h
      refine ⟨δ1, e1, ws_mono h1 fun o h => ?_⟩
      cases o with
      | nx δ m => exact ⟨l, rfl, h⟩
      | ct δ m => exact ⟨l, rfl, h⟩
      | bk δ m => exact h
      | rt d m => exact h
      | ex y δ m => exact h) ⟨l, rfl, h⟩
theorem forT {α : Type} {g : MG} {b : MS} {c : Store → Prop} (en : α → D) (I : List α → En → Store → Prop) (hc : ∀ l δ m, I l δ m → c m) (step : ∀ x l δ m, I (x :: l) δ m → ∃ δ1, g (en x) δ = some δ1 ∧ ws (b δ1 m) (Nx (I l))) {l : List α} {δ : En} {m : Store} (h : I l δ m) : ws (forM g b c (l.map en) δ m) (Nx (I [])) :=
  ws_forT (R := Nx (I [])) en I hc (fun δ m h => ⟨δ, m, rfl, h⟩) (fun x l δ m h => by
    obtain ⟨δ1, e1, h1⟩ := step x l δ m h
    refine ⟨δ1, e1, ws_mono h1 ?_⟩
    rintro o ⟨δ2, m2, rfl, h2⟩
    exact h2) h
/-- for that folds a typed state -/
theorem forF {α S : Type} {g : MG} {b : MS} {c : Store → Prop} (en : α → D) (f : S → α → S) (st : S → En → Store → Prop) (xs : List α) (hc : ∀ s δ m, st s δ m → c m)
    (step : ∀ s x δ m, x ∈ xs → st s δ m → ∃ δ1, g (en x) δ = some δ1 ∧ ws (b δ1 m) (Nx (st (f s x)))) {s0 : S} {δ : En} {m : Store} (h : st s0 δ m) : ws (forM g b c (xs.map en) δ m) (Nx (st (xs.foldl f s0))) := by
  have key := forT (g := g) (b := b) (c := c) en (fun l δ m => ∃ pre, xs = pre ++ l ∧ st (pre.foldl f s0) δ m) (fun l δ m ⟨pre, _, h⟩ => hc _ _ _ h) (fun x l δ m ⟨pre, e, h⟩ => by
    obtain ⟨δ1, e1, h1⟩ := step _ x δ m (by rw [e]; simp) h
    refine ⟨δ1, e1, ws_mono h1 ?_⟩
    rintro o ⟨δ2, m2, rfl, h2⟩
    refine ⟨δ2, m2, rfl, pre ++ [x], by rw [e]; simp, ?_⟩
    rw [List.foldl_append]; exact h2) (l := xs) (δ := δ) (m := m) ⟨[], rfl, h⟩
  refine ws_mono key ?_
  rintro o ⟨δ2, m2, rfl, pre, e, h2⟩
  rw [List.append_nil] at e
  subst e
  exact ⟨δ2, m2, rfl, h2⟩
/-- while, by an invariant and a measure -/
theorem ws_while {t : MT} {b : MS} {R : OT → Prop} (I : Nat → En → Store → Prop)
    (step : ∀ n δ m, I n δ m → wp (t δ m) (fun r m1 => match r with
      | .ok true => ws (b δ m1) (fun o => match o with | .nx δ m => ∃ k, k < n ∧ I k δ m | .ct δ m => ∃ k, k < n ∧ I k δ m | .bk δ m => R (.nx δ m) | o => R o)
      | .ok false => R (.nx δ m1)
      | .ex y => R (.ex y δ m1))) : ∀ {n : Nat} {δ : En} {m : Store}, I n δ m → ws (sWhile t b δ m) R := by
  have key : ∀ N n δ m, n < N → I n δ m → ws (whileN t b N δ m) R := by
    intro N
    induction N with
    | zero => intro n δ m h; omega
    | succ N ih =>
      intro n δ m hn h
      unfold whileN
      obtain ⟨r, m1, e1, h1⟩ := wp_get (step n δ m h)
      rw [e1]
      cases r with
      | ex y => exact h1
      | ok c =>
        cases c with
        | false => exact h1
        | true =>
          rw [run_ok]
          dsimp only [cond] at h1 ⊢
          obtain ⟨o, e2, h2⟩ := ws_get h1
          rw [e2]
          cases o with
          | nx δ m => obtain ⟨k, hk, h2⟩ := h2; exact ih k δ m (by omega) h2
          | ct δ m => obtain ⟨k, hk, h2⟩ := h2; exact ih k δ m (by omega) h2
          | bk δ m => exact h2
          | rt d m => exact h2
          | ex y δ m => exact h2
  intro n δ m h
  obtain ⟨o, e, h2⟩ := ws_get (key (n + 1) n δ m (by omega) h)
  rw [sWhile_eq e]
  exact h2
/-- a comprehension over typed items that changes nothing -/
theorem lcM_pure {α : Type} {g : MG} {t : MT} {e : ME} {c : Store → Prop} {δ : En} {m : Store} (hc : c m) (en : α → D) (p : α → Bool) (f : α → D) : ∀ (ys : List α),
    (∀ y ∈ ys, ∃ δ1, g (en y) δ = some δ1 ∧ t δ1 m = ret (p y) m ∧ (p y = true → e δ1 m = ret (f y) m)) → lcM g t e c δ (ys.map en) m = ret ((ys.filter p).map f) m
  | [], _ => by
    rw [List.map_nil]
    unfold lcM
    rw [if_pos hc]; rfl
  | y :: ys, h => by
    obtain ⟨δ1, e1, e2, e3⟩ := h y List.mem_cons_self
    have ih := lcM_pure hc en p f ys fun z hz => h z (List.mem_cons_of_mem _ hz)
    rw [List.map_cons]
    unfold lcM
    rw [if_pos hc, e1]
    simp only [Option.bind_some]
    rw [e2]
    cases hp : p y with
    | true =>
      show MX.sure (e δ1 m) _ = _
      rw [e3 hp]
      show MX.sure (lcM g t e c δ (ys.map en) m) _ = _
      rw [ih, List.filter_cons, if_pos hp]; rfl
    | false =>
      show lcM g t e c δ (ys.map en) m = _
      rw [ih, List.filter_cons, hp]; rfl
theorem lcM_map {α : Type} {g : MG} {e : ME} {c : Store → Prop} {δ : En} {m : Store} (hc : c m) (en : α → D) (f : α → D) (ys : List α)
    (h : ∀ y ∈ ys, ∃ δ1, g (en y) δ = some δ1 ∧ e δ1 m = ret (f y) m) : lcM g mYes e c δ (ys.map en) m = ret (ys.map f) m := by
  have := lcM_pure (t := mYes) hc en (fun _ => true) f ys fun y hy => by
    obtain ⟨δ1, e1, e2⟩ := h y hy
    exact ⟨δ1, e1, rfl, fun _ => e2⟩
  rwa [List.filter_eq_self.mpr (fun _ _ => rfl)] at this
theorem chk_nil {xs : List D} {m : Store} : (Wk.mk xs []).chk m := fun p hp => nomatch hp
theorem chk_one {xs ys : List D} {k : Nat} {m : Store} (h : m[k]? = some (.lst ys)) : (Wk.mk xs [(k, ys)]).chk m := fun p hp => by
  cases List.mem_singleton.mp hp; exact h
/-! ### conditional steps -/
section
variable {m : Store} {i j : Int} {k : Nat} {xs : List D}
theorem pMul_r (h1 : -18446744073709551616 < j) (h2 : j < 18446744073709551616) : pMul (.int i) (.int j) m = ret (.int (i * j)) m := by
  unfold pMul; dsimp only; rw [if_pos]; exact .inr ⟨h1, h2⟩
theorem pMul_l (h1 : -18446744073709551616 < i) (h2 : i < 18446744073709551616) : pMul (.int i) (.int j) m = ret (.int (i * j)) m := by
  unfold pMul; dsimp only; rw [if_pos]; exact .inl ⟨h1, h2⟩
theorem pMod_pos (h : 0 < j) : pMod (.int i) (.int j) m = ret (.int (i % j)) m := by
  unfold pMod; dsimp only; rw [if_pos h]
theorem pDiv_pos (h : 0 < j) (h2 : j < 618970019642690137449562112) : pDiv (.int i) (.int j) m = ret (.int (i / j)) m := by
  unfold pDiv; dsimp only; rw [if_pos]
  refine wide_div (b := 89) h ?_ (by decide) (by decide)
  have e : (2 ^ 89 : Nat) = 618970019642690137449562112 := rfl
  rw [e]; omega
theorem pPow_ok {n : Nat} (h : n ≤ 1000) (h2 : i.natAbs < 2 ^ 64) : pPow (.int i) (.int (n : Int)) m = ret (.int (i ^ n)) m := by
  unfold pPow; dsimp only; rw [if_pos ⟨by omega, by omega, h2⟩]; simp
theorem pow_12 : pPow (.int 10) (.int 12) m = ret (.int 1000000000000) m := by
  rw [show (12 : Int) = ((12 : Nat) : Int) from rfl, pPow_ok (by omega) (by decide)]; rfl
theorem pow_9 : pPow (.int 10) (.int 9) m = ret (.int 1000000000) m := by
  rw [show (9 : Int) = ((9 : Nat) : Int) from rfl, pPow_ok (by omega) (by decide)]; rfl
theorem pow_18 : pPow (.int 10) (.int 18) m = ret (.int 1000000000000000000) m := by
  rw [show (18 : Int) = ((18 : Nat) : Int) from rfl, pPow_ok (by omega) (by decide)]; rfl
theorem pow_29 : pPow (.int 10) (.int 29) m = ret (.int 100000000000000000000000000000) m := by
  rw [show (29 : Int) = ((29 : Nat) : Int) from rfl, pPow_ok (by omega) (by decide)]; rfl
theorem rdQ_cell (h : m[k]? = some (.lst xs)) : rdQ m (.cell k) = some xs := by unfold rdQ; dsimp only; rw [h]
theorem rdL_cell (h : m[k]? = some (.lst xs)) : rdL m (.cell k) = some xs := by unfold rdL; dsimp only; rw [h]
theorem rdS_cell (h : m[k]? = some (.lst xs)) : rdS m (.cell k) = some xs := by unfold rdS; dsimp only; rw [h]
theorem cellL_cell (h : m[k]? = some (.lst xs)) : cellL m (.cell k) = some (k, xs) := by unfold cellL; dsimp only; rw [h]
theorem isLst_cell (h : m[k]? = some (.lst xs)) : isLst m (.cell k) = true := by unfold isLst; rw [rdQ_cell h]; rfl
theorem vw_cell (h : m[k]? = some (.lst xs)) : vw m (.cell k) = some (.lst xs) := by unfold vw; dsimp only; rw [h]
theorem rdQ_lst : rdQ m (.lst xs) = some xs := rfl
theorem rdL_lst : rdL m (.lst xs) = some xs := rfl
theorem rdS_lst : rdS m (.lst xs) = some xs := rfl
theorem rdS_tup : rdS m (.tup xs) = some xs := rfl
theorem rdQ_scr {ns : List Int} : rdQ m (.scr ns) = some (ns.map D.int) := rfl
theorem rdS_scr {ns : List Int} : rdS m (.scr ns) = some (ns.map D.int) := rfl
theorem vw_lst : vw m (.lst xs) = some (.lst xs) := rfl
theorem vw_tup : vw m (.tup xs) = some (.tup xs) := rfl
/-- a list's emptiness, lists of one kind -/
theorem eqb_nil : eqb (.lst xs) (.lst []) = xs.isEmpty := by
  show PyData.eqv (.list (D.toPys xs)) (.list []) = _
  rw [eqv_nil, toPys_empty]
theorem sh_nil {n : Nat} : Sh (n + 1) (.lst []) := fun x hx => nomatch hx
theorem sh_int {n : Nat} {i : Int} : Sh n (.int i) := by cases n <;> trivial
theorem sh_bl {n : Nat} {i : Bool} : Sh n (.bl i) := by cases n <;> trivial
theorem sh_non {n : Nat} : Sh n .non := by cases n <;> trivial
theorem sh_eS {n : Nat} {s : Sp2} : Sh (n + 1) (eS s) := fun x hx => by
  rcases List.mem_cons.mp hx with rfl | hx
  · exact sh_int
  · cases List.mem_singleton.mp hx; exact sh_int
theorem sh_ints {n : Nat} {ns : List Int} : Sh (n + 1) (.lst (ns.map D.int)) := Sh.map fun _ => sh_int
theorem sh_spans {n : Nat} {ss : List Sp2} : Sh (n + 2) (.lst (ss.map eS)) := Sh.map fun _ => sh_eS
theorem pNeD_nil {d : D} (h : vw m d = some (.lst xs)) (hs : Sh 60 (.lst xs)) : pNeD d (.lst []) m = ret (.bl (!xs.isEmpty)) m := by
  unfold pNeD
  rw [h, vw_lst]
  simp only [Option.bind_some]
  rw [if_pos ⟨hs, sh_nil⟩, eqb_nil]
theorem pEqD_nil {d : D} (h : vw m d = some (.lst xs)) (hs : Sh 60 (.lst xs)) : pEqD d (.lst []) m = ret (.bl xs.isEmpty) m := by
  unfold pEqD
  rw [h, vw_lst]
  simp only [Option.bind_some]
  rw [if_pos ⟨hs, sh_nil⟩, eqb_nil]
theorem isEmpty_map {α β : Type} {f : α → β} {xs : List α} : (xs.map f).isEmpty = xs.isEmpty := by cases xs <;> rfl
end
/-- == of encoded things -/
theorem eqv_ints : ∀ (a b : List Int), PyData.eqvAll (D.toPys (a.map D.int)) (D.toPys (b.map D.int)) = decide (a = b)
  | [], [] => rfl
  | [], b :: bs => rfl
  | a :: as, [] => rfl
  | a :: as, b :: bs => by
    have ih := eqv_ints as bs
    show (PyData.eqv (.int a) (.int b) && PyData.eqvAll (D.toPys (as.map D.int)) (D.toPys (bs.map D.int))) = _
    rw [ih]
    show (decide (a = b) && decide (as = bs)) = _
    by_cases h1 : a = b <;> by_cases h2 : as = bs <;> simp [h1, h2]
theorem eqvAll_map {α : Type} [DecidableEq α] {f : α → D} (h : ∀ a b, eqb (f a) (f b) = decide (a = b)) : ∀ (a b : List α), PyData.eqvAll (D.toPys (a.map f)) (D.toPys (b.map f)) = decide (a = b)
  | [], [] => rfl
  | [], b :: bs => rfl
  | a :: as, [] => rfl
  | a :: as, b :: bs => by
    have ih := eqvAll_map h as bs
    show (eqb (f a) (f b) && PyData.eqvAll (D.toPys (as.map f)) (D.toPys (bs.map f))) = _
    rw [ih, h]
    by_cases h1 : a = b <;> by_cases h2 : as = bs <;> simp [h1, h2]
theorem eqb_int (a b : Int) : eqb (.int a) (.int b) = decide (a = b) := rfl
theorem eqb_eS (a b : Sp2) : eqb (eS a) (eS b) = decide (a = b) := by
  have h := eqv_ints [a.1, a.2] [b.1, b.2]
  show PyData.eqvAll (D.toPys [.int a.1, .int a.2]) (D.toPys [.int b.1, .int b.2]) = _
  refine h.trans ?_
  by_cases h1 : a = b
  · subst h1; simp
  · have : ¬ [a.1, a.2] = [b.1, b.2] := fun e => by
      simp at e; exact h1 (Prod.ext e.1 e.2)
    simp [h1, this]
theorem eqb_lst {α : Type} [DecidableEq α] {f : α → D} (h : ∀ a b, eqb (f a) (f b) = decide (a = b)) (a b : List α) : eqb (.lst (a.map f)) (.lst (b.map f)) = decide (a = b) := eqvAll_map h a b
theorem eqb_ints (a b : List Int) : eqb (.lst (a.map D.int)) (.lst (b.map D.int)) = decide (a = b) := eqb_lst eqb_int a b
theorem eqb_spans (a b : List Sp2) : eqb (.lst (a.map eS)) (.lst (b.map eS)) = decide (a = b) := eqb_lst eqb_eS a b
theorem pEqD_eq {d e x y : D} {m : Store} (h : vw m d = some x) (h2 : vw m e = some y) (s1 : Sh 60 x) (s2 : Sh 60 y) : pEqD d e m = ret (.bl (eqb x y)) m := by
  unfold pEqD
  rw [h, h2]
  simp only [Option.bind_some]
  rw [if_pos ⟨s1, s2⟩]
theorem pNeD_eq {d e x y : D} {m : Store} (h : vw m d = some x) (h2 : vw m e = some y) (s1 : Sh 60 x) (s2 : Sh 60 y) : pNeD d e m = ret (.bl (!eqb x y)) m := by
  unfold pNeD
  rw [h, h2]
  simp only [Option.bind_some]
  rw [if_pos ⟨s1, s2⟩]
/-! ### stores: m with the def's own cells behind -/
theorem len_app (m l : Store) : (m ++ l).length = m.length + l.length := List.length_append
theorem get_app (m l : Store) (i : Nat) : (m ++ l)[m.length + i]? = l[i]? := by
  rw [List.getElem?_append_right (by omega)]; congr 1; omega
theorem get_app0 (m l : Store) : (m ++ l)[m.length]? = l[0]? := get_app m l 0
theorem set_app (m l : Store) (i : Nat) (c : Cell) : (m ++ l).set (m.length + i) c = m ++ l.set i c := by
  rw [List.set_append_right _ _ (by omega)]; congr 2; omega
theorem set_app0 (m l : Store) (c : Cell) : (m ++ l).set m.length c = m ++ l.set 0 c := set_app m l 0 c
theorem take_app (m l : Store) : (m ++ l).take m.length = m := by simp
theorem unds_map {α : Type} {f : α → D} {n : Nat} (h : ∀ x, (f x).und n = true) : ∀ xs : List α, D.unds n (xs.map f) = true
  | [] => rfl
  | x :: xs => by
    show ((f x).und n && D.unds n (xs.map f)) = true
    rw [h x, unds_map h xs]; rfl
theorem unds_ints (n : Nat) (xs : List Int) : D.unds n (xs.map D.int) = true := unds_map (fun _ => rfl) xs
theorem unds_eS (n : Nat) (xs : List Sp2) : D.unds n (xs.map eS) = true := unds_map (fun _ => rfl) xs
theorem unds_bl (n : Nat) (xs : List Bool) : D.unds n (xs.map D.bl) = true := unds_map (fun _ => rfl) xs
/-- a def that leaves the store's length -/
theorem fin_same {m0 m' : Store} {d : D} (h : m'.length = m0.length) : finF m0 d m' = ret (.pl d) m' := by unfold finF; rw [if_pos h]
/-- a def with cells of its own that hands back the one at i -/
theorem fin_own {m0 m l : Store} {i : Nat} {xs : List D} (hl : m.length = m0.length) (ti : Tidy m0 m) (hi : l[i]? = some (.lst xs)) (hu : D.unds m0.length xs = true) : finF m0 (.cell (m0.length + i)) (m ++ l) = ret (.own xs) m := by
  have hlen : i < l.length := (List.getElem?_eq_some_iff.mp hi).1
  unfold finF
  rw [if_neg (by rw [List.length_append]; omega), ← hl, take_app, if_pos ti]
  have e : (m ++ l)[m.length + i]? = some (.lst xs) := by rw [get_app]; exact hi
  show (Option.map F1.ft (if m.length + i < m.length then some (.pl (.cell (m.length + i))) else match (m ++ l)[m.length + i]? with
    | some (.lst xs) => if D.unds m.length xs = true then some (.own xs) else none
    | _ => none)).map _ = _
  rw [if_neg (by omega), e]
  show (Option.map F1.ft (if D.unds m.length xs = true then some (.own xs) else none)).map _ = _
  rw [if_pos (by rw [hl]; exact hu)]; rfl
theorem fin_own0 {m l : Store} {xs : List D} (hu : D.unds m.length xs = true) : finF m (.cell m.length) (m ++ .lst xs :: l) = ret (.own xs) m := fin_own (i := 0) rfl (Tidy.refl _) rfl hu
/-- .. that hands back plain data -/
theorem fin_plain {m0 m l : Store} {d : D} (hl : m.length = m0.length) (ti : Tidy m0 m) (hd : resT m0.length (m ++ l) d = some (.pl d)) : finF m0 d (m ++ l) = ret (.pl d) m := by
  unfold finF
  by_cases hz : (m ++ l).length = m0.length
  · rw [if_pos hz]
    have : l = [] := by
      rw [List.length_append] at hz
      exact List.eq_nil_of_length_eq_zero (by omega)
    subst this
    rw [List.append_nil]
  · rw [if_neg hz]
    have e : (m ++ l).take m0.length = m := by rw [← hl]; exact take_app m l
    rw [e, if_pos ti, hd]; rfl
theorem fin_top {m' : Store} {b : Bool} : finF [] (.bl b) m' = ret (.pl (.bl b)) [] := fin_plain (m0 := []) (m := []) (l := m') rfl (Tidy.refl _) rfl
theorem res_int {n : Nat} {m : Store} {i : Int} : resT n m (.int i) = some (.pl (.int i)) := rfl
theorem res_bl {n : Nat} {m : Store} {i : Bool} : resT n m (.bl i) = some (.pl (.bl i)) := rfl
theorem res_non {n : Nat} {m : Store} : resT n m .non = some (.pl .non) := rfl
theorem res_eS {n : Nat} {m : Store} {s : Sp2} : resT n m (eS s) = some (.pl (eS s)) := by
  unfold resT eS
  dsimp only
  rw [if_pos (show D.unds n [D.int s.1, D.int s.2] = true from rfl)]
theorem tidy_int {m m' : Store} {k : Nat} {ns : List Int} (h : Tidy m m') : Tidy m (m'.set k (.lst (ns.map D.int))) := h.set (unds_ints _ ns)
end DL
/-! sorted(set(xs)), len(set(xs)) of a list of ints, of any length. -/
namespace DL
open PySem PySem.Spec PyProof.Rows L2
abbrev newSet (w : World) : Obj := { cls := .type "set", dict := none, data := .set #[] 0 (.fresh 0 0 (!w.params.followText "set-order")) }
section
variable {P : Program} {w : World} {A : Around} {E : Value → Shared → Prop} {s : Shared}
theorem set_of_list {l : Addr} {its : Array Value} (ns : List Int) {Q : Value → Shared → Prop} (hA : A.handled = none) (hL : s.heap.IsList l its) (hI : IntsAre its.toList ns) (hB : ns.length + 1 < scanBound)
    (hQ : ∀ (g : Heap) (tk c : Nat), SetR w g s.heap.objs.size (fun j => decide (j ∈ ns)) c → (∀ b o, s.heap.get? b = some o → g.get? b = some o) → Q (.ref s.heap.objs.size) { s with heap := g, toks := tk }) :
    wpAny (model P w) A (call (.type "set") [.ref l]) Q E s := by
  have hn : its.size = ns.length := by
    have z := IntsAre.length hI
    rwa [Array.length_toList] at z
  obtain ⟨cc, tt, hmro⟩ := F.called_set.mro
  have hmade := F.called_set.made
  have hsub := F.called_set.sub
  refine wpAny_call (codeAny_of_tree ?_)
  show wpAny _ _ (callAny (.type "set") _) _ _ _
  refine wpAny_pure ⟨Code.quiet_builtin _ (by decide +kernel), codeAny_builtin F.entry_type_call ?_⟩
  rw [Around.under_plain (weight_type_call_type "set" [.ref l] []) rfl]
  have f1 := F.called_set.notType
  have f2 := F.called_set.canCreate
  have f3 := F.typeCall_set_1 (.ref l)
  repeat (any_goals (first | assumption | wp_step))
  refine codeAny_mono (code_set_led1 (.ref l) (E := E) (Q₁ := fun z s₁ => z = .ref s.heap.objs.size ∧ s₁ = { s with heap := s.heap.push (newSet w) }) ⟨rfl, rfl⟩) fun z s₁ hz => ?_
  cases z with
  | error e => exact hz
  | ok fl =>
    cases fl with
    | ret z =>
      obtain ⟨rfl, rfl⟩ := hz
      have g0 : (s.heap.push (newSet w)).get? s.heap.objs.size = some (newSet w) := Heap.get?_push_size _ rfl
      have t0 : Shared.TypeIs { s with heap := s.heap.push (newSet w) } (.ref s.heap.objs.size) "set" := ⟨_, g0, rfl⟩
      have f4 := F.called_set.init.lookup
      have f5 := F.called_set.init.bind (.ref s.heap.objs.size)
      repeat (any_goals (first | assumption | wp_step))
      refine codeAny_mono (codeAny_call_builtin (R := wants (fun z s₂ => z = .none ∧ ∃ g tk c, s₂ = { s with heap := g, toks := tk } ∧ SetR w g s.heap.objs.size (fun j => decide (j ∈ ns)) c ∧
          (∀ b o, s.heap.get? b = some o → g.get? b = some o)) E) F.called_set.init.plain F.entry_set_init (check_set_init_1 t0 ?_)) fun y s₂ hy => ?_
      · obtain ⟨⟨oc, od, oda, osl⟩, ho, hc, nl, hd⟩ := hL
        simp only at hc hd
        subst hc hd
        have ho2 : (s.heap.push (newSet w)).get? l = some { cls := .type "list", dict := od, data := .seq its nl, slots := osl } := Heap.get?_push_of_some _ ho
        have k1 := F.sub_list_set
        have k2 := F.sub_list_frozenset
        have k3 : (Value.type "list" == Value.type "dict") = false := by decide
        have hL2 : (s.heap.push (newSet w)).IsList l its := ⟨_, ho2, rfl, nl, rfl⟩
        unfold Builtin.«set.__init__» noKeywords Builtin.Frozenset.updateFrom
        generalize hPI : pyIter = PI
        wp_walk
        subst hPI
        refine wpAny_pyIter_list hL2 ?_
        refine wpAny_bind (wpAny_runValue ?_)
        have lS : l < s.heap.objs.size := Heap.lt_size ho
        have h3 : A.in1.in1.in1.handled = none := by simp [hA]
        have neI : l ≠ (s.heap.push (newSet w)).objs.size := by
          rw [Heap.size_push]; exact Nat.ne_of_lt (Nat.lt_succ_of_lt lS)
        have notF : s.heap.objs.size ∉ [(s.heap.push (newSet w)).objs.size, l] := by
          rw [Heap.size_push]
          intro hm
          rcases List.mem_cons.mp hm with z | z
          · exact absurd z (Nat.ne_of_lt (Nat.lt_succ_self _))
          · exact absurd (List.mem_singleton.mp z) (Nat.ne_of_gt lS)
        have hv : ∀ (i : Nat) (v : Value), its[i]? = some v → ∃ k t, ns[i]? = some k ∧ v = .int k t := fun i v e => by
          have hi : i < ns.length := by rw [← hn]; exact (Array.getElem?_eq_some_iff.mp e).1
          obtain ⟨t, z⟩ := PyProof.Rows.IntsAre.int_at hI i v (by rw [Array.getElem?_toList]; exact e)
          refine ⟨ns[i], t, List.getElem?_eq_getElem hi, ?_⟩
          rw [z, List.getD_eq_getElem?_getD, List.getElem?_eq_getElem hi] <;> rfl
        refine set_update_ints ((Walks.list h3 _ l neI its).toS) s.heap.objs.size notF ns hn hB hv (its.size - 0) 0 _ (by omega) (Nat.zero_le _) ⟨⟨_, Heap.get?_push_size _ rfl, rfl, rfl⟩, (hL2.push _)⟩ ?start ?fin
        case start =>
          refine ⟨0, Nat.le_refl 0, setR_new_at ?_⟩
          exact Heap.get?_push_of_some _ g0
        case fin =>
          intro s' c' hm _ hS'
          obtain ⟨g, gg, dd, tk', oo⟩ := s'
          have e1 : gg = s.gens := hm.gens
          have e2 : dd = s.drawn := hm.drawn
          have e3 : oo = s.os := hm.os
          subst e1 e2 e3
          show wpAny _ _ _ _ _ _
          refine wpAny_pure ?_
          show wpAny _ _ (PySem.ret Value.none) _ _ _
          refine wpAny_pure ⟨rfl, g, tk', c', rfl, hS', fun b o e => ?_⟩
          have hb0 : b < s.heap.objs.size := Heap.lt_size e
          refine hm.heap b o ?_ (Heap.get?_push_of_some _ (Heap.get?_push_of_some _ e))
          intro hm2
          rcases List.mem_cons.mp hm2 with z | z
          · exact absurd z (Nat.ne_of_lt hb0)
          · have z := List.mem_singleton.mp z
            rw [Heap.size_push] at z
            exact absurd z (Nat.ne_of_lt (Nat.lt_succ_of_lt hb0))
      · cases y with
        | error e => exact hy
        | ok fl₂ =>
          cases fl₂ with
          | ret z =>
            obtain ⟨rfl, g, tk, c', rfl, hS', hk'⟩ := hy
            repeat (any_goals (first | assumption | wp_step))
            exact hQ _ _ _ hS' hk'
          | _ => exact hy.elim
    | _ => exact hz.elim
/-- sorted of a set of ints, however many -/
theorem sorted_of_set {a : Addr} {S : Int → Bool} {n : Nat} {Q : Value → Shared → Prop} (R : SetR w s.heap a S n) (hA : A.handled = none)
    (hQ : ∀ s' p (out : Array Value) (c : Nat) (ns : List Int), (∀ b o, s.heap.get? b = some o → s'.heap.get? b = some o) → s'.gens = s.gens → s'.os = s.os → s.heap.objs.size ≤ p →
      s'.heap.get? p = some (seqObj "list" out c) → IntsAre out.toList ns → ns.Pairwise (· < ·) → (∀ k, k ∈ ns ↔ S k = true) → ns.length ≤ sizeLine → Q (.ref p) s') :
    wpAny (model P w) A (call (.builtin "sorted") [.ref a]) Q E s := by
  obtain ⟨o, es, ep, t, h1, h2, h3, h4, h5, h6, h7, h8, h9, h10, h11⟩ := R
  refine Calls.call_function_entry kind_sorted plain_sorted entry_sorted (args_sorted1 _) ?_
  unfold Builtin.«sorted»
  refine wpAny_bind (m := checkCount "sorted" 1 1 _) (wpAny_pure ?_)
  refine wpAny_bind (collect_set (A := A.in1) hA ⟨o, h1, h2.1, h3⟩ h8 h7 h10 h11 fun s1 us k1 z1 g1 o1 pm => ?_)
  have lz : us.length ≤ sizeLine := by
    rw [pm.length_eq, List.length_map, Array.length_toList]
    exact fits_of_scanBound h7
  have ui : IntsAre us (us.map Builtin.Re.reRawOf) := ints_of us fun v hv => by
    obtain ⟨e, he, q⟩ := List.mem_map.mp (pm.mem_iff.mp hv)
    obtain ⟨k, tk, z, _⟩ := h4 e he
    exact ⟨k, tk, by rw [← q]; exact z⟩
  have pk : (us.map Builtin.Re.reRawOf).Perm (es.toList.map keyOf) := by
    have q := pm.map Builtin.Re.reRawOf
    rwa [List.map_map] at q
  refine wpAny_bind (wpAny_newList ?_ lz)
  have gL : (s1.heap.push (seqObj "list" us.toArray 0)).get? s1.heap.objs.size = some (seqObj "list" us.toArray 0) := Heap.get?_push_size _ rfl
  refine wpAny_bind (wpAny_holding (wpAny_call_entry slot_list_sort ⟨_, gL, rfl⟩ entry_list_sort (SrtO.list_sort_ord SrtO.swo_int gL lz (fun hlen => SrtO.ints_sortable ui hlen) fun out k2 k3 => ⟨_, rfl, ?_⟩) (args_list_sort _)))
  obtain ⟨m1, m2, m3⟩ := SrtO.ints_out ui k2 k3
  obtain ⟨c, hc⟩ := sortedHeap_at (vs := us) (out := out.toArray) gL
  have pn := m2.trans pk
  refine wpAny_pure ⟨_, rfl, hQ _ s1.heap.objs.size out.toArray c (out.map SrtO.iv) (fun b u e => ?_) g1 o1 z1 hc (by simpa using m1) (lt_of_le_nodup _ m3 (pn.nodup_iff.mpr h5)) (fun k => by rw [pn.mem_iff, ← h6 k]) ?_⟩
  · have q := k1 b u e
    have hlt := Heap.lt_size q
    show (sortedHeap (s1.heap.push (seqObj "list" us.toArray 0)) s1.heap.objs.size us out.toArray).get? b = some u
    rw [sortedHeap_old (Nat.ne_of_lt hlt) (by rw [size_push']; exact Nat.lt_succ_of_lt hlt)]
    exact Heap.get?_push_of_some _ q
  · rw [m2.length_eq, List.length_map]; exact lz
end
/-- the list's ints, rising, none twice -/
def undup : List Int → List Int
  | [] => []
  | x :: xs => if x ∈ xs then undup xs else x :: undup xs
theorem undup_mem : ∀ {ns : List Int} {k : Int}, k ∈ undup ns ↔ k ∈ ns
  | [], k => Iff.rfl
  | x :: xs, k => by
    unfold undup
    split
    · rename_i h
      rw [undup_mem]
      exact ⟨List.mem_cons_of_mem _, fun q => by
        rcases List.mem_cons.mp q with rfl | q
        · exact h
        · exact q⟩
    · rw [List.mem_cons, List.mem_cons, undup_mem]
theorem undup_nodup : ∀ ns : List Int, (undup ns).Nodup
  | [] => .nil
  | x :: xs => by
    unfold undup
    split
    · exact undup_nodup xs
    · rename_i h
      exact List.nodup_cons.mpr ⟨fun q => h (undup_mem.mp q), undup_nodup xs⟩
def usort (ns : List Int) : List Int := isort (undup ns)
def tSortSet (K : PySem.W.Frag) (ta : TE) : TE := fun σ H Q => ta σ H fun x H1 => ∃ (l : Addr) (ns : List Int), x = V.ref l ∧ SqL K H1 l (ns.map V.int) ∧ ns.length ≤ 4000 ∧
  ∀ (us : List Int) (p : Addr), us.Pairwise (· < ·) → (∀ k, k ∈ us ↔ k ∈ ns) → H1 p = none → Q (.ref p) (upd H1 p (.lst (us.map V.int)))
theorem pe_sortSet {X : Cx} {a : Expr} {ta : TE} {p p2 q pos : Pos} (hg : Gl X "sorted") (hm : X.mg "sorted" = none) (hg2 : Gl X "set") (hm2 : X.mg "set" = none) (ha : PE X a ta) (hc : X.calm = true := by rfl)
    (na : starEach [a] X.env = (false, eval a X.env) :: starEach [] X.env := by rfl) : PE X (.Call (.Name "sorted" p) [.Call (.Name "set" p2) [a] [] q] [] pos) (tSortSet X.K ta) := by
  refine ⟨fun pins s σ H Q I h => ?_⟩
  refine Call_ (ld_blt I hg hm bt_sorted ?_)
  refine PyProof.Rows.callWith_builtin1 (PyProof.Rows.args_cons ?_ rfl) rfl rfl
  refine Call_ (ld_blt I hg2 hm2 bt_set ?_)
  refine PyProof.Rows.callWith_type1 (PyProof.Rows.args_cons (thn (ha.run pins s σ H _ I h) fun v s1 ⟨x, H1, I1, r1, q1⟩ => PyProof.Rows.args_nil ?_) na) na rfl
  obtain ⟨l, ns, rfl, hq, hl, q1⟩ := q1
  cases r1
  obtain ⟨its, r, pl, hz⟩ := I1.list hq
  have hints := r.ints
  refine set_of_list ns (I1.ok.hd hc) pl.isList (by simpa using hints) (by unfold scanBound; omega) fun g tk c hS hk => ?_
  refine PyProof.Rows.args_nil ?_
  have I2 : Inv X pins σ H1 { s1 with heap := g, toks := tk } := I1.kept fun b o e => hk b o e
  have hS' : SetR X.w ({ s1 with heap := g, toks := tk } : Shared).heap s1.heap.objs.size (fun j => decide (j ∈ ns)) c := hS
  generalize ({ s1 with heap := g, toks := tk } : Shared) = s2 at I2 hS' ⊢
  refine sorted_of_set hS' (I2.ok.hd hc) fun s' p' out c' us k g o hp hg' hi hs hm' hl' => ?_
  have hlen : (us.map V.int).length ≤ sizeLine := by rw [List.length_map]; exact hl'
  have hn : H1 p' = none := I2.hok.fresh hp
  have J : Inv X pins σ (upd H1 p' (.lst (us.map V.int))) { s2 with heap := s'.heap, gens := s'.gens, drawn := s'.drawn, toks := s'.toks } :=
    I2.call (ch := []) (Un.laid k hp hn) (I2.hok.laid k hp ⟨hlen, out.toList, c', vals_of_ints hi, hg'⟩) (by rw [g]; exact I2.bare) (fun _ z => nomatch z)
  have e : s' = { s2 with heap := s'.heap, gens := s'.gens, drawn := s'.drawn, toks := s'.toks } := by
    cases s'
    cases o
    rfl
  rw [e]
  exact ⟨.ref p', _, J, rfl, q1 us p' hs (fun k => by rw [hm' k]; simp) hn⟩
def tLenSetA (K : PySem.W.Frag) (ta : TE) : TE := fun σ H Q => ta σ H fun x H1 => ∃ (l : Addr) (ns : List Int), x = V.ref l ∧ SqL K H1 l (ns.map V.int) ∧ ns.length ≤ 4000 ∧
  ∀ us : List Int, us.Nodup → (∀ k, k ∈ us ↔ k ∈ ns) → Q (.int (us.length : Nat)) H1
theorem pe_lenSetA {X : Cx} {a : Expr} {ta : TE} {p p2 q pos : Pos} (hg : Gl X "len") (hm : X.mg "len" = none) (hg2 : Gl X "set") (hm2 : X.mg "set" = none) (ha : PE X a ta) (hc : X.calm = true := by rfl)
    (na : starEach [a] X.env = (false, eval a X.env) :: starEach [] X.env := by rfl) : PE X (.Call (.Name "len" p) [.Call (.Name "set" p2) [a] [] q] [] pos) (tLenSetA X.K ta) := by
  refine ⟨fun pins s σ H Q I h => ?_⟩
  refine Call_ (ld_blt I hg hm bt_len ?_)
  refine PyProof.Rows.callWith_builtin1 (PyProof.Rows.args_cons ?_ rfl) rfl rfl
  refine Call_ (ld_blt I hg2 hm2 bt_set ?_)
  refine PyProof.Rows.callWith_type1 (PyProof.Rows.args_cons (thn (ha.run pins s σ H _ I h) fun v s1 ⟨x, H1, I1, r1, q1⟩ => PyProof.Rows.args_nil ?_) na) na rfl
  obtain ⟨l, ns, rfl, hq, hl, q1⟩ := q1
  cases r1
  obtain ⟨its, r, pl, hz⟩ := I1.list hq
  refine set_of_list ns (I1.ok.hd hc) pl.isList (by simpa using r.ints) (by unfold scanBound; omega) fun g tk c hS hk => ?_
  refine PyProof.Rows.args_nil ?_
  have I2 : Inv X pins σ H1 { s1 with heap := g, toks := tk } := I1.kept fun b o e => hk b o e
  obtain ⟨o, es, ep, t, h1, h2, h3, h4, h5, h6, h7, h8, h9, _⟩ := hS
  have hz2 : (es.size : Int) < 2 ^ 63 := by unfold scanBound at h7; omega
  refine call_len_set h1 h2 h3 h8 hz2 ⟨.int (es.size : Nat), H1, I2.tok _, ⟨_, rfl⟩, ?_⟩
  have := q1 (es.toList.map keyOf) h5 (fun k => by rw [← h6 k]; simp)
  rwa [List.length_map, Array.length_toList] at this
/-! ### what it comes to -/
theorem usort_mem {ns : List Int} {k : Int} : k ∈ usort ns ↔ k ∈ ns := by
  unfold usort
  rw [(isort_perm _).mem_iff]
  exact undup_mem
theorem usort_lt (ns : List Int) : (usort ns).Pairwise (· < ·) := by
  unfold usort
  refine lt_of_le_nodup _ (isort_sorted _) ((isort_perm _).nodup_iff.mpr ?_)
  exact undup_nodup _
theorem usort_uniq {us ns : List Int} (h1 : us.Pairwise (· < ·)) (h2 : ∀ k, k ∈ us ↔ k ∈ ns) : us = usort ns := by
  have nd : ∀ l : List Int, l.Pairwise (· < ·) → l.Nodup := fun l h => h.imp fun {a b} z e => by omega
  refine List.Perm.eq_of_pairwise (le := (· < ·)) (fun a b _ _ x y => by omega) h1 (usort_lt ns) ?_
  exact (List.perm_ext_iff_of_nodup (nd _ h1) (nd _ (usort_lt ns))).mpr fun k => by rw [h2, usort_mem]
def fSortSet (a : ME) : MF := fun δ m => (a δ m).bind fun x m => (rdQ m x).bind fun ds => (toInts ds).bind fun ns => if ns.length ≤ 4000 then DL.ret (FT.own ((usort ns).map D.int)) m else none
theorem so_sortSet {K : PySem.W.Frag} {W : WX} {ta : TE} {a : ME} (ha : So K W (RE K) ta a) : So K W (RF K) (tSortSet K ta) (fSortSet a) :=
  So.bind rf_mon ha (k := fun (x : D) δ m => (rdQ m x).bind fun ds => (toInts ds).bind fun ns => if ns.length ≤ 4000 then DL.ret (FT.own ((usort ns).map D.int)) m else none)
    (u := fun (x : V) σ H1 Q => ∃ (l : Addr) (ns : List Int), x = V.ref l ∧ SqL K H1 l (ns.map V.int) ∧ ns.length ≤ 4000 ∧
      ∀ (us : List Int) (p : Addr), us.Pairwise (· < ·) → (∀ k, k ∈ us ↔ k ∈ ns) → H1 p = none → Q (.ref p) (upd H1 p (.lst (us.map V.int)))) fun x δ m res m' e v r F H σ _ hr er rv => by
    cases h0 : rdQ m x with
    | none => rw [h0] at e; cases e
    | some ds =>
      rw [h0] at e
      simp only [Option.bind_some] at e
      cases h1 : toInts ds with
      | none => rw [h1] at e; cases e
      | some ns =>
        rw [h1] at e
        simp only [Option.bind_some] at e
        split at e
        · rename_i hl
          cases e
          cases toInts_eq h1
          obtain ⟨p, vs, rfl, hs, ra⟩ := rdQ_get h0 hr rv
          cases ra.ints
          refine fun Q q => ⟨p, ns, rfl, hs, hl, fun us p' z1 z2 hp' => ?_⟩
          rw [usort_uniq z1 z2]
          obtain ⟨q1, q2, q3⟩ := rf_new hr hp' (repAll_ints (usort ns))
          exact q _ r F _ q1 q2 q3
        · cases e
def pLenSet : D → Store → MX D := fun x m => (rdQ m x).bind fun ds => (toInts ds).bind fun ns => if ns.length ≤ 4000 then DL.ret (D.int ((usort ns).length : Nat)) m else none
theorem so_lenSet {K : PySem.W.Frag} {W : WX} {ta : TE} {a : ME} (ha : So K W (RE K) ta a) : So K W (RE K) (tLenSetA K ta) (eUn pLenSet a) :=
  So.bind re_mon ha (k := fun (x : D) δ m => pLenSet x m)
    (u := fun (x : V) σ H1 Q => ∃ (l : Addr) (ns : List Int), x = V.ref l ∧ SqL K H1 l (ns.map V.int) ∧ ns.length ≤ 4000 ∧
      ∀ us : List Int, us.Nodup → (∀ k, k ∈ us ↔ k ∈ ns) → Q (.int (us.length : Nat)) H1) fun x δ m res m' e v r F H σ _ hr er rv => by
    unfold pLenSet at e
    cases h0 : rdQ m x with
    | none => rw [h0] at e; cases e
    | some ds =>
      rw [h0] at e
      simp only [Option.bind_some] at e
      cases h1 : toInts ds with
      | none => rw [h1] at e; cases e
      | some ns =>
        rw [h1] at e
        simp only [Option.bind_some] at e
        split at e
        · rename_i hl
          cases e
          cases toInts_eq h1
          obtain ⟨p, vs, rfl, hs, ra⟩ := rdQ_get h0 hr rv
          cases ra.ints
          refine fun Q q => ⟨p, ns, rfl, hs, hl, fun us z1 z2 => ?_⟩
          have nd : (usort ns).Nodup := (usort_lt ns).imp fun {a b} z e => by omega
          have : us.length = (usort ns).length := ((List.perm_ext_iff_of_nodup z1 nd).mpr fun k => by rw [z2, usort_mem]).length_eq
          rw [this]
          exact q _ r F H hr (Ext.refl hr) (.int _)
        · cases e
end DL
/-! is True, list(range(..)), range of three -/
namespace DL
open PySem PySem.Spec PyProof.Rows L2
section
variable {K : PySem.W.Frag} {W : WX} {ta tb tc : TE} {tas : TA} {a b c : ME} {as : MA}
abbrev oIsB : R2 := fun x y H Q => ∃ a b, x = .bl a ∧ y = .bl b ∧ Q (.bl (decide (a = b))) H
abbrev oNotB : R2 := fun x y H Q => ∃ a b, x = .bl a ∧ y = .bl b ∧ Q (.bl (!decide (a = b))) H
def pIsB : D → D → Store → MX D := fun x y m => match x, y with
  | .bl a, .bl b => ret (.bl (decide (a = b))) m
  | _, _ => none
def pNotB : D → D → Store → MX D := fun x y m => match x, y with
  | .bl a, .bl b => ret (.bl (!decide (a = b))) m
  | _, _ => none
theorem s2_pIsB : S2 K W oIsB pIsB := fun x y m res m' e r F H σ vx vy hr px py => by
  unfold pIsB at e
  split at e
  · cases e; cases px; cases py
    exact fun Q q => ⟨_, _, rfl, rfl, q _ r F H hr (Ext.refl hr) (.bl _)⟩
  · cases e
theorem s2_pNotB : S2 K W oNotB pNotB := fun x y m res m' e r F H σ vx vy hr px py => by
  unfold pNotB at e
  split at e
  · cases e; cases px; cases py
    exact fun Q q => ⟨_, _, rfl, rfl, q _ r F H hr (Ext.refl hr) (.bl _)⟩
  · cases e
/-- list(range(n)), list(range(i, j)) -/
theorem repAll_rg (i j : Int) {r : List Addr} {F : Hp} : RepAll K r F (rgV i j) (rng i (j - i).toNat) := by
  have h := repAll_ints (K := K) (r := r) (F := F) ((List.range (j - i).toNat).map fun k : Nat => i + (k : Int))
  unfold rgV rng
  rw [List.map_map, List.map_map] at h
  exact h
open Classical in
noncomputable def fRg1 (a : ME) : MF := fun δ m => (a δ m).bind fun x m => match x with
  | .int n => if Rg62 n ∧ n ≤ 100000 then ret (.own (rng 0 n.toNat)) m else none
  | _ => none
open Classical in
theorem so_rg1 (ha : So K W (RE K) ta a) : So K W (RF K) (tLstRg (tRg1 ta)) (fRg1 a) :=
  So.bind rf_mon ha (k := fun (x : D) δ m => match x with
    | .int n => if Rg62 n ∧ n ≤ 100000 then ret (FT.own (rng 0 n.toNat)) m else none
    | _ => none) (u := fun (x : V) σ H1 Q => ∃ n, x = .int n ∧ RgOk 0 n ∧ ∀ q, H1 q = none → Q (.ref q) (upd H1 q (.lst (rgV 0 n)))) fun x δ m res m' e v r F H σ _ hr er rv => by
    split at e
    · rename_i n
      split at e
      · rename_i hn
        cases e
        cases rv
        have hh := hn.1
        unfold Rg62 at hh
        refine fun Q q => ⟨n, rfl, ⟨by omega, by omega, by omega, by omega, by omega⟩, fun p hp => ?_⟩
        obtain ⟨q1, q2, q3⟩ := rf_new (xs := rng 0 n.toNat) hr hp (by have := repAll_rg (K := K) (r := r) (F := F) 0 n; rwa [Int.sub_zero] at this)
        exact q _ r F _ q1 q2 q3
      · cases e
    · cases e
end
end DL
/-! sorted of tuples of ints -/
namespace SrtI
open PySem PyProof.Rows Srt SrtO
theorem lex_asym : ∀ {a b : List Int}, HT.lexLt a b = true → HT.lexLt b a = false
  | [], [], h => by cases h
  | [], _ :: _, _ => rfl
  | _ :: _, [], h => by cases h
  | x :: a, y :: b, h => by
    rw [HT.lexLt_cons] at *
    by_cases e : x = y
    · rw [if_pos e] at h; rw [if_pos e.symm]; exact lex_asym h
    · rw [if_neg e] at h; rw [if_neg (fun z => e z.symm)]
      have := of_decide_eq_true h
      exact decide_eq_false (by omega)
theorem lex_tr : ∀ {x y z : List Int}, x.length = y.length → y.length = z.length → HT.lexLt y x = false → HT.lexLt z y = false → HT.lexLt z x = false
  | [], [], [], _, _, _, _ => rfl
  | x :: a, y :: b, z :: c, l1, l2, h1, h2 => by
    rw [HT.lexLt_cons] at *
    have l1' : a.length = b.length := by simpa using l1
    have l2' : b.length = c.length := by simpa using l2
    by_cases e1 : y = x
    · rw [if_pos e1] at h1
      by_cases e2 : z = y
      · rw [if_pos e2] at h2
        rw [if_pos (e2.trans e1)]
        exact lex_tr l1' l2' h1 h2
      · rw [if_neg e2] at h2
        have := of_decide_eq_false h2
        rw [if_neg (by omega)]
        exact decide_eq_false (by omega)
    · rw [if_neg e1] at h1
      have q1 := of_decide_eq_false h1
      by_cases e2 : z = y
      · rw [if_neg (by omega)]; exact decide_eq_false (by omega)
      · rw [if_neg e2] at h2
        have q2 := of_decide_eq_false h2
        rw [if_neg (by omega)]; exact decide_eq_false (by omega)
def cut (d : Nat) (ns : List Int) : List Int := (ns ++ List.replicate d 0).take d
theorem cut_len {d : Nat} {ns : List Int} : (cut d ns).length = d := by simp [cut]
theorem cut_same {d : Nat} {ns : List Int} (h : ns.length = d) : cut d ns = ns := by subst h; simp [cut]
def ltC (d : Nat) (a b : List Int) : Bool := HT.lexLt (cut d a) (cut d b)
theorem swo_tup {α : Type} (d : Nat) (k : α → List Int) : Swo fun v u => ltC d (k v) (k u) :=
  ⟨fun x y h => lex_asym h, fun x y z h1 h2 => lex_tr (by rw [cut_len, cut_len]) (by rw [cut_len, cut_len]) h1 h2⟩
def IsTup (h : Heap) (v : Value) (ns : List Int) : Prop := ∃ a o xs n, v = .ref a ∧ h.get? a = some o ∧ o.cls = .type "tuple" ∧ o.data = .seq xs n ∧ IntsAre xs.toList ns
theorem IsTup.keeps {h h' : Heap} {v : Value} {ns : List Int} (p : IsTup h v ns) (k : ∀ b o, h.get? b = some o → o.cls = .type "tuple" → h'.get? b = some o) : IsTup h' v ns := by
  obtain ⟨a, o, xs, n, e, ho, hc, hd, hi⟩ := p
  exact ⟨a, o, xs, n, e, k _ _ ho hc, hc, hd, hi⟩
section
variable {prog : Program} {w : World} {A : Around} {E : Value → Shared → Prop} {s : Shared}
theorem lexs {b : Bool} {Q : Bool → Shared → Prop} {xs ys : List Value} {ns ms : List Int} (i : Nat) (hx : IntsAre xs ns) (hy : IntsAre ys ms) (hl : ns.length = ms.length)
    (h : Q (HT.lexLt ns ms) s) : PySem.W.KatLex prog w A b false Q (xs.zip ys) i s := by
  induction hx generalizing ys ms i with
  | nil =>
    cases hy with
    | nil => exact PySem.W.kat_nil h
    | cons q u hy => simp at hl
  | @cons p t xs ns hx ih =>
    cases hy with
    | nil => simp at hl
    | @cons q u ys ms hy =>
      have hl' : ns.length = ms.length := by simpa using hl
      show PySem.W.KatLex prog w A b false Q ((Value.int p t, Value.int q u) :: xs.zip ys) i s
      rw [HT.lexLt_cons] at h
      refine PySem.W.kat_cons (SeqAt.EqAt.int_int p t q u prog w _ _ ?_)
      refine PySem.W.kat_go (fun e1 => ?_) (fun e1 => ?_)
      · have e : p = q := by simpa using e1
        rw [if_pos e] at h
        exact PySem.W.kat_yes (ih (i + 1) hy hl' h)
      · have e : ¬ p = q := by simpa using e1
        rw [if_neg e] at h
        exact PySem.W.kat_no (TS.oneLt_ints _ h)
theorem tup_cmp {d : Nat} {vs : List Value} {k : Value → List Int} (hp : ∀ v ∈ vs, (k v).length = d ∧ IsTup s.heap v (k v)) : Cmp prog w A s (tuples' true) (fun p => p.1 ∈ vs) (lt2 fun v u => ltC d (k v) (k u)) := by
  intro p q hm hm'
  obtain ⟨l1, h1⟩ := hp _ hm
  obtain ⟨l2, h2⟩ := hp _ hm'
  show wpAny (model prog w) A (keyLt' (tuples' true) p.1 q.1) (fun r s' => s' = s ∧ r = ltC d (k p.1) (k q.1)) (fun _ _ => False) s
  unfold ltC
  rw [cut_same l1, cut_same l2]
  generalize k p.1 = ns at h1 l1 ⊢
  generalize k q.1 = ms at h2 l2 ⊢
  obtain ⟨a, o, xs, n, e, ho, hc, hd, hi⟩ := h1
  obtain ⟨a', o', xs', n', e', ho', hc', hd', hi'⟩ := h2
  rw [e, e']
  refine PySem.W.kat_lt ho hd ho' hd' ?_
  have z1 : xs.size = ns.length := by rw [← hi.length]; simp
  have z2 : xs'.size = ms.length := by rw [← hi'.length]; simp
  rw [show decide (xs.size < xs'.size) = false from decide_eq_false (by omega)]
  exact lexs 0 hi hi' (by omega) ⟨rfl, rfl⟩
theorem firsts {h : Heap} {d : Nat} {k : Value → List Int} (hd : 1 ≤ d) : ∀ {vs : List Value}, (∀ v ∈ vs, (k v).length = d ∧ IsTup h v (k v)) → ∃ fs : List Value, PySem.W.KatTups h vs fs ∧ fs.length = vs.length ∧ ∀ f ∈ fs, ∃ x t, f = Value.int x t
  | [], _ => ⟨[], PySem.W.KatTups.nil, rfl, fun _ hm => by simp at hm⟩
  | v :: vs, hp => by
    obtain ⟨fs, h1, h2, h3⟩ := firsts hd (vs := vs) fun v' hm => hp v' (List.mem_cons_of_mem _ hm)
    obtain ⟨l, a, o, xs, n, e, ho, hc, hdt, hi⟩ := hp v (List.mem_cons_self ..)
    generalize k v = ns at l hi
    subst e
    cases q : xs.toList with
    | nil => rw [q] at hi; cases hi; simp at l; omega
    | cons y ys =>
      rw [q] at hi
      cases hi with
      | cons x t hi' =>
        have h0 : xs[0]? = some (Value.int x t) := by
          rw [← Array.getElem?_toList, q]; rfl
        refine ⟨.int x t :: fs, PySem.W.KatTups.cons ho hc hdt h0 h1, by rw [List.length_cons, List.length_cons, h2], fun f hm => ?_⟩
        rcases List.mem_cons.mp hm with rfl | hm
        · exact ⟨x, t, rfl⟩
        · exact h3 f hm
theorem tups_sortable {a : Addr} {d : Nat} {vs : List Value} {k : Value → List Int} (hd : 1 ≤ d) (h0 : 0 < vs.length) (hp : ∀ v ∈ vs, (k v).length = d ∧ IsTup s.heap v (k v)) (ha : ∀ o, s.heap.get? a = some o → o.cls ≠ .type "tuple") : SortableO prog w A s a vs fun v u => ltC d (k v) (k u) := by
  intro h' keep
  have hp' : ∀ v ∈ vs, (k v).length = d ∧ IsTup h' v (k v) := fun v hm => ⟨(hp v hm).1, (hp v hm).2.keeps fun b o e c => keep b o (fun z => by subst z; exact ha o e c) e⟩
  obtain ⟨fs, h1, h2, h3⟩ := firsts hd hp'
  refine ⟨tuples' true, fun Q E hq => ?_, tup_cmp hp'⟩
  refine PySem.W.kat_kind (T := .type "int") h1 (by omega) (fun f hm => ?_) (by rfl) ?_
  · obtain ⟨x, t, rfl⟩ := h3 f hm
    exact PySem.W.Looks.now
  · have e : (Value.type "int" != Value.type "tuple") = true := by first | decide +kernel | rfl | decide
    rw [e]
    exact hq
theorem sorted_tups {l : Addr} {d : Nat} {vs : List Value} {k : Value → List Int} {Q : Value → Shared → Prop} (hd1 : 1 ≤ d) (hl : s.heap.IsList l vs.toArray) (hz : vs.length ≤ sizeLine) (hp : ∀ v ∈ vs, (k v).length = d ∧ IsTup s.heap v (k v))
    (h : ∀ (h' : Heap) (p : Addr) (out : List Value), Srtd (fun v u => ltC d (k v) (k u)) out → Stb (fun v u => ltC d (k v) (k u)) out vs → (∀ b o, s.heap.get? b = some o → h'.get? b = some o) → s.heap.objs.size ≤ p → (∃ n, h'.get? p = some (seqObj "list" out.toArray n)) → Q (.ref p) { s with heap := h' }) :
    wpAny (model prog w) A (call (.builtin "sorted") [.ref l]) Q E s := by
  refine sorted_ord (swo_tup d k) hl hz (fun h2 h₁ a ha kk => ?_) fun out hs hb => ?_
  · refine tups_sortable (s := { s with heap := h₁ }) hd1 (by omega) (fun v hm => ⟨(hp v hm).1, (hp v hm).2.keeps fun b o e _ => (kk b o e).2⟩) fun o e => ?_
    have e' : some o = some (seqObj "list" vs.toArray 0) := e.symm.trans ha
    cases e'
    intro c
    exact absurd (Value.type.inj c) (by decide)
  · exact h _ _ out hs hb (fun b o e => sortedAll_old e) (Nat.le_succ _) (sortedAll_at s.heap vs out.toArray)
end
end SrtI
namespace DL
open PySem PySem.Spec PyProof.Rows L2
def rSortedTI (K : PySem.W.Frag) : List V → Hp → VK → Prop := fun vs H Q => ∃ (a : Addr) (xs : List V) (d : Nat) (k : V → List Int), vs = [V.ref a] ∧ 1 ≤ d ∧ SqL K H a xs ∧ (∀ x ∈ xs, (k x).length = d ∧ ∃ t, x = V.ref t ∧ H t = some (.tup ((k x).map V.int))) ∧
  ∀ ys p, SrtO.Srtd (fun x y => SrtI.ltC d (k x) (k y)) ys → SrtO.Stb (fun x y => SrtI.ltC d (k x) (k y)) ys xs → H p = none → Q (.ref p) (upd H p (.lst ys))
theorem ints_of_vals : ∀ {ns : List Int} {us : List Value}, Vals (ns.map V.int) us → IntsAre us ns
  | [], _, .nil => .nil
  | n :: ns, _ :: us, .cons r t => by
    obtain ⟨tk, rfl⟩ := (show ∃ t, _ = Value.int n t from r)
    exact .cons n tk (ints_of_vals t)
section
variable {X : Cx}
theorem cr_sortedTI : CallR X (.builtin "sorted") (rSortedTI X.K) := by
  intro pins s σ H vs us Q I r h
  obtain ⟨a, xs, d, k, rfl, hd, hs, hx, q⟩ := h
  obtain ⟨its, rv, hl, hz⟩ := I.list hs
  obtain ⟨u, rfl, ru⟩ := vals1 r
  obtain rfl : u = Value.ref a := ru
  obtain ⟨e1, e2⟩ := refs_back rv fun x m => by
    obtain ⟨_, t, e, _⟩ := hx x m
    exact ⟨t, e⟩
  refine SrtI.sorted_tups (d := d) (k := fun u => k (backV u)) hd hl.isList (by rw [← rv.length]; exact hz) (fun v hv => ?_) fun h' p out h1 h2 kp hd' hn => ?_
  · obtain ⟨t, rfl⟩ := e2 v hv
    have hm : V.ref t ∈ xs := by rw [e1]; exact List.mem_map.mpr ⟨_, hv, rfl⟩
    obtain ⟨hlen, t', e, ht⟩ := hx _ hm
    cases e
    obtain ⟨_, its2, r2, o, ho, hc, n, hdt⟩ := I.hok _ _ ht
    exact ⟨hlen, t, o, _, n, rfl, ho, hc, hdt, by rw [List.toList_toArray]; exact ints_of_vals r2⟩
  · have h3 : ∀ u ∈ out, ∃ a, u = Value.ref a := fun u hu => e2 u (h2.perm.mem_iff.mp hu)
    obtain ⟨n, hn⟩ := hn
    have hb : SrtO.Stb (fun x y => SrtI.ltC d (k x) (k y)) (out.map backV) xs := by
      rw [e1]
      exact SrtO.Stb.map (SrtI.swo_tup d k) backV h2
    refine ⟨.ref p, upd H p (.lst (out.map backV)), I.laid (t' := s.toks) kp hd' ⟨?_, out, n, vals_back h3, hn⟩, rfl, q _ p (SrtO.srtd_map (lt := fun x y => SrtI.ltC d (k x) (k y)) h1) hb (I.hok.fresh hd')⟩
    rw [hb.len]
    exact hz
end
def eT (ns : List Int) : D := .tup (ns.map D.int)
def toTups (d : Nat) : List D → Option (List (List Int))
  | [] => some []
  | .tup xs :: ds => (toInts xs).bind fun ns => if ns.length = d then (toTups d ds).map fun ps => ns :: ps else none
  | _ :: _ => none
theorem toTups_eq {d : Nat} : ∀ {ds : List D} {ps : List (List Int)}, toTups d ds = some ps → ds = ps.map eT ∧ ∀ p ∈ ps, p.length = d
  | [], _, h => by cases h; exact ⟨rfl, fun p hp => nomatch hp⟩
  | x :: ds, ps, h => by
    unfold toTups at h
    split at h
    · rename_i e; cases e
    · rename_i xs ds' e
      cases e
      cases q : toInts xs with
      | none => rw [q] at h; cases h
      | some ns =>
        rw [q] at h
        simp only [Option.bind_some] at h
        split at h
        · rename_i hl
          cases q2 : toTups d ds with
          | none => rw [q2] at h; cases h
          | some qs =>
            rw [q2] at h; cases h
            obtain ⟨e1, e2⟩ := toTups_eq q2
            cases toInts_eq q
            refine ⟨by rw [e1]; rfl, fun p hp => ?_⟩
            rcases List.mem_cons.mp hp with rfl | hp
            · exact hl
            · exact e2 p hp
        · cases h
    · cases h
theorem toTups_map {d : Nat} : ∀ {ps : List (List Int)}, (∀ p ∈ ps, p.length = d) → toTups d (ps.map eT) = some ps
  | [], _ => rfl
  | p :: ps, h => by
    show (toInts (p.map D.int)).bind _ = _
    rw [toInts_map]
    simp only [Option.bind_some]
    rw [if_pos (h p List.mem_cons_self)]
    show (toTups d (ps.map eT)).map _ = _
    rw [toTups_map fun q hq => h q (List.mem_cons_of_mem _ hq)]; rfl
def tle (d : Nat) (p q : List Int) : Bool := !SrtI.ltC d q p
theorem tle_trans {d : Nat} (a b c : List Int) (h1 : tle d a b = true) (h2 : tle d b c = true) : tle d a c = true := by
  unfold tle at *
  have := (SrtI.swo_tup d (fun x : List Int => x)).tr a b c (by simpa using h1) (by simpa using h2)
  simp [this]
theorem tle_tot {d : Nat} (a b : List Int) : (tle d a b || tle d b a) = true := by
  unfold tle
  cases h : SrtI.ltC d b a with
  | false => rfl
  | true => rw [(SrtI.swo_tup d (fun x : List Int => x)).asym b a h]; rfl
theorem lex_eq : ∀ {x y : List Int}, x.length = y.length → HT.lexLt x y = false → HT.lexLt y x = false → x = y
  | [], [], _, _, _ => rfl
  | x :: a, y :: b, hl, h1, h2 => by
    rw [HT.lexLt_cons] at h1 h2
    by_cases e : x = y
    · rw [if_pos e] at h1; rw [if_pos e.symm] at h2
      rw [e, lex_eq (by simpa using hl) h1 h2]
    · rw [if_neg e] at h1; rw [if_neg (fun z => e z.symm)] at h2
      have := of_decide_eq_false h1
      have := of_decide_eq_false h2
      omega
def tsort (d : Nat) (ps : List (List Int)) : List (List Int) := ps.mergeSort (tle d)
theorem tsort_perm (d : Nat) (ps : List (List Int)) : (tsort d ps).Perm ps := List.mergeSort_perm _ _
theorem tsort_sorted (d : Nat) (ps : List (List Int)) : (tsort d ps).Pairwise fun p q => tle d p q = true := List.pairwise_mergeSort (le := tle d) tle_trans tle_tot ps
theorem tsort_uniq {d : Nat} {ps ps' : List (List Int)} (hd : ∀ p ∈ ps, p.length = d) (h1 : ps'.Perm ps) (h2 : ps'.Pairwise fun p q => tle d p q = true) : ps' = tsort d ps :=
  List.Perm.eq_of_pairwise (le := fun p q => tle d p q = true) (fun a b ha hb x y => by
    have la := hd a (h1.mem_iff.mp ha)
    have lb := hd b ((tsort_perm d ps).mem_iff.mp hb)
    unfold tle SrtI.ltC at x y
    rw [SrtI.cut_same la, SrtI.cut_same lb] at x y
    exact lex_eq (by omega) (by simpa using y) (by simpa using x)) h2 (tsort_sorted d ps) (h1.trans (tsort_perm d ps).symm)
theorem intsD_of {K : PySem.W.Frag} {r : List Addr} {F : Hp} {vs : List V} {ns : List Int} (h : RepAll K r F vs (ns.map D.int)) : vs = ns.map V.int := h.ints
def keyT (H : Hp) : V → List Int
  | .ref t => match H t with
    | some (.tup vs) => vs.map fun v => match v with
      | .int i => i
      | _ => 0
    | _ => []
  | _ => []
theorem keyT_rep {K : PySem.W.Frag} {r : List Addr} {F H : Hp} (s : Same F H) {v : V} {p : List Int} (h : Rep K r F v (eT p)) : keyT H v = p ∧ ∃ t, v = .ref t ∧ H t = some (.tup (p.map V.int)) := by
  cases h with
  | tup hs ha =>
    cases ha.ints
    have e := s _ _ hs
    refine ⟨?_, _, rfl, e⟩
    show (match H _ with | some (.tup vs) => vs.map _ | _ => []) = p
    rw [e]
    show List.map _ (List.map V.int p) = p
    rw [List.map_map]
    exact (List.map_congr_left (g := id) fun _ _ => rfl).trans (List.map_id p)
theorem keysT_rep {K : PySem.W.Frag} {r : List Addr} {F H : Hp} (s : Same F H) : ∀ {vs : List V} {ps : List (List Int)}, RepAll K r F vs (ps.map eT) → vs.map (keyT H) = ps ∧ ∀ v ∈ vs, Rep K r F v (eT (keyT H v))
  | [], [], _ => ⟨rfl, fun v hv => nomatch hv⟩
  | v :: vs, p :: ps, .cons h t => by
    obtain ⟨e1, e2⟩ := keysT_rep s t
    obtain ⟨e3, _⟩ := keyT_rep s h
    refine ⟨by rw [List.map_cons, e1, e3], fun w hw => ?_⟩
    rcases List.mem_cons.mp hw with rfl | hw
    · rw [e3]; exact h
    · exact e2 w hw
theorem repT_keys {K : PySem.W.Frag} {r : List Addr} {F : Hp} {k : V → List Int} : ∀ {vs : List V}, (∀ v ∈ vs, Rep K r F v (eT (k v))) → RepAll K r F vs ((vs.map k).map eT)
  | [], _ => .nil
  | v :: vs, h => .cons (h v List.mem_cons_self) (repT_keys fun w hw => h w (List.mem_cons_of_mem _ hw))
def pSortT (d : Nat) : List D → Store → MX FT := fun xs m => match xs with
  | [x] => if 1 ≤ d then (rdQ m x).bind fun ds => (toTups d ds).bind fun ps => ret (.own ((tsort d ps).map eT)) m else none
  | _ => none
theorem sc_pSortT {d : Nat} {K : PySem.W.Frag} {W : WX} : SC K W (RF K) (rSortedTI K) (pSortT d) := fun xs m res m' e r F H σ vs hr p => by
  unfold pSortT at e
  split at e
  · rename_i x
    split at e
    · rename_i hd
      cases h0 : rdQ m x with
      | none => rw [h0] at e; cases e
      | some ds =>
        rw [h0] at e
        simp only [Option.bind_some] at e
        cases h1 : toTups d ds with
        | none => rw [h1] at e; cases e
        | some ps =>
          rw [h1] at e; cases e
          obtain ⟨z1, z2⟩ := toTups_eq h1
          cases z1
          obtain ⟨v, rfl, pv⟩ := rep1 p
          obtain ⟨a, ws, rfl, hs, ra⟩ := rdQ_get h0 hr pv
          obtain ⟨e1, e2⟩ := keysT_rep hr.sub ra
          have hlen : ∀ x ∈ ws, (keyT H x).length = d := fun x hx => z2 _ (by rw [← e1]; exact List.mem_map.mpr ⟨x, hx, rfl⟩)
          refine fun Q q => ⟨_, ws, d, keyT H, rfl, hd, hs, fun x hx => ⟨hlen x hx, (keyT_rep hr.sub (e2 x hx)).2⟩, fun ys p' h2 h3 hp' => ?_⟩
          have hp : ys.Perm ws := h3.perm
          have e3 : ys.map (keyT H) = tsort d ps := by
            refine tsort_uniq z2 ?_ ?_
            · rw [← e1]; exact hp.map _
            · rw [List.pairwise_map]
              exact h2.imp fun {x y} z => by
                show (!SrtI.ltC d (keyT H y) (keyT H x)) = true
                rw [show SrtI.ltC d (keyT H y) (keyT H x) = false from z]; rfl
          have ra2 : RepAll K r F ys ((tsort d ps).map eT) := by
            rw [← e3]
            exact repT_keys fun y hy => e2 y (hp.mem_iff.mp hy)
          obtain ⟨q1, q2, q3⟩ := rf_new hr hp' ra2
          exact q _ r F _ q1 q2 q3
    · cases e
  · cases e
end DL
/-! a cell taken as data from here on; a list unpacked -/
namespace DL
open PySem PySem.Spec PyProof.Rows L2
section
variable {K : PySem.W.Frag} {r : List Addr} {F H : Hp} {m : Store}
theorem live_gone {k l : Nat} (h : live (m.set k .gone) l) : live m l ∧ l ≠ k := by
  obtain ⟨c, e, ng⟩ := h
  by_cases hk : k = l
  · subst hk
    have hlt : k < (m.set k .gone).length := (List.getElem?_eq_some_iff.mp e).1
    rw [List.getElem?_set_self (by simpa using hlt)] at e
    cases e
    exact absurd rfl ng
  · rw [List.getElem?_set_ne hk] at e
    exact ⟨⟨c, e, ng⟩, fun z => hk z.symm⟩
theorem HR.drop (h : HR K r F H m) (k : Nat) : HR K r F H (m.set k .gone) := by
  refine ⟨by simp [h.len], h.sub, fun l a c e1 e2 ng => ?_, fun l l' a e1 e2 l1 l2 => h.inj l l' a e1 e2 (live_gone l1).1 (live_gone l2).1⟩
  obtain ⟨⟨c', e3, ng'⟩, hl⟩ := live_gone ⟨c, e2, ng⟩
  rw [List.getElem?_set_ne (fun z => hl z.symm)] at e2
  exact h.cell l a c e1 e2 ng
theorem frz_ok (h : HR K r F H m) {k : Nat} {xs : List D} {v : V} (p : Rep K r F v (.cell k)) (hk : m[k]? = some (.lst xs)) : ∃ F', HR K r F' H (m.set k .gone) ∧ Ext r F H m r F' H (m.set k .gone) ∧ Rep K r F' v (.lst xs) := by
  cases p with
  | @cell _ a ha =>
    obtain ⟨fa, vs, hv, ra⟩ := h.cell k a _ ha hk (fun z => nomatch z)
    have lk : live m k := ⟨_, hk, fun z => nomatch z⟩
    have np : ∀ l : Nat, live (m.set k .gone) l → r[l]? ≠ some a := fun l ll e => (live_gone ll).2 (h.inj l k a e ha (live_gone ll).1 lk)
    have hd := (h.drop k).freeze fa np hv
    have sm : Same F (upd F a (.lst vs)) := fun b u e => by rw [upd_ne (ne_of_none e fa)]; exact e
    refine ⟨_, hd, ⟨Pre.refl r, sm, fun _ _ e _ => e, fun b fb e => ?_, fun l b hl e => ?_, fun l _ ll => (live_gone ll).1, by simp, fun _ o e => ⟨o, e⟩⟩, .lst upd_same (ra.mono (Pre.refl r) sm)⟩
    · by_cases hb : b = a
      · subst hb; exact .inr ⟨k, lk, ha⟩
      · rw [upd_ne hb] at e; exact absurd fb e
    · have := (List.getElem?_eq_some_iff.mp e).1
      rw [h.len] at this
      omega
end
def eFrz (a : ME) : ME := fun δ m => (a δ m).bind fun x m => match x with
  | .cell k => match m[k]? with
    | some (.lst xs) => ret (.lst xs) (m.set k .gone)
    | _ => none
  | d => ret d m
section
variable {K : PySem.W.Frag} {W : WX} {ta : TE} {a : ME}
theorem so_frz (ha : So K W (RE K) ta a) : So K W (RE K) ta (eFrz a) := fun δ m res m' e r F H σ hr er => by
  rcases bind_some e with ⟨x, m1, e1, e2⟩ | ⟨y, e1, rfl⟩
  · have h := ha δ m _ _ e1 r F H σ hr er
    cases x with
    | cell k =>
      dsimp only at e2
      split at e2
      · rename_i xs hk
        cases e2
        exact fun Q q => h Q fun v r' F' H' hr' x' rv => by
          obtain ⟨F2, q1, q2, q3⟩ := frz_ok hr' rv hk
          exact q v r' F2 H' q1 (x'.trans hr'.len hr.len q2) q3
      · cases e2
    | _ => cases e2; exact h
  · exact (ha δ m _ _ e1 r F H σ hr er)
/-- a list unpacked -/
def mLst (gs : MGs) : MG := fun d δ => match d with
  | .lst ds => gs ds δ
  | _ => none
theorem sg_lst {gs : TGs} {mgs : MGs} {n : Nat} (hm : Many mgs n) (hs : SGs K gs mgs) : SG K (gUnl K n gs) (mLst mgs) := fun d δ δ' e => by
  cases d with
  | lst ds =>
    intro r F H m σ v hr er p Q q
    cases p with
    | lst h ha => exact ⟨_, _, rfl, SqL.of (hr.sub _ _ h), ha.len.trans (hm.len e), hs ds δ δ' e r F H m σ _ hr er ha Q q⟩
  | _ => cases e
end
end DL
/-! texts of numbers, texts put together; int(truth); insert, index, count of lists -/
namespace DL
open PySem PySem.Spec PyProof.Rows L2
section
variable {K : PySem.W.Frag} {W : WX} {ta tb tc : TE} {tas : TA} {a b c : ME} {as : MA}
abbrev rStrI : List V → Hp → VK → Prop := fun xs H Q => ∃ i, xs = [.int i] ∧ i.natAbs.log2 < 1920 ∧ Q (.str (toString i)) H
def pStrI : List D → Store → MX D := fun xs m => match xs with
  | [.int i] => if i.natAbs.log2 < 1920 then ret (.str (toString i)) m else none
  | _ => none
theorem sc_pStrI : SC K W (RE K) rStrI pStrI := fun xs m res m' e r F H σ vs hr p => by
  unfold pStrI at e
  split at e
  · rename_i i
    split at e
    · rename_i hi
      cases e
      obtain ⟨v, rfl, pv⟩ := rep1 p
      cases pv
      exact fun Q q => ⟨i, rfl, hi, q _ r F H hr (Ext.refl hr) (.str _)⟩
    · cases e
  · cases e
abbrev rInt1 : List V → Hp → VK → Prop := fun xs H Q => (∃ i, xs = [.int i] ∧ Q (.int i) H) ∨ ∃ k, xs = [.bl k] ∧ Q (.int (if k then 1 else 0)) H
def pInt1 : List D → Store → MX D := fun xs m => match xs with
  | [.int i] => ret (.int i) m
  | [.bl k] => ret (.int (if k then 1 else 0)) m
  | _ => none
theorem sc_pInt1 : SC K W (RE K) rInt1 pInt1 := fun xs m res m' e r F H σ vs hr p => by
  unfold pInt1 at e
  split at e
  · cases e
    obtain ⟨v, rfl, pv⟩ := rep1 p
    cases pv
    exact fun Q q => .inl ⟨_, rfl, q _ r F H hr (Ext.refl hr) (.int _)⟩
  · cases e
    obtain ⟨v, rfl, pv⟩ := rep1 p
    cases pv
    exact fun Q q => .inr ⟨_, rfl, q _ r F H hr (Ext.refl hr) (.int _)⟩
  · cases e
abbrev oAddS : R2 := fun x y H Q => ∃ i j, x = .str i ∧ y = .str j ∧ i.length + j.length ≤ sizeLine ∧ Q (.str (i ++ j)) H
def pAddS : D → D → Store → MX D := fun x y m => match x, y with
  | .str i, .str j => if i.length + j.length ≤ 100000 then ret (.str (i ++ j)) m else none
  | _, _ => none
theorem s2_pAddS : S2 K W oAddS pAddS := fun x y m res m' e r F H σ vx vy hr px py => by
  unfold pAddS at e
  split at e
  · split at e
    · rename_i hl
      cases e; cases px; cases py
      exact fun Q q => ⟨_, _, rfl, rfl, Evl.sz_of hl, q _ r F H hr (Ext.refl hr) (.str _)⟩
    · cases e
  · cases e
/-- insert -/
abbrev rInsert : V → List V → Hp → VK → Prop := fun x vs H Q => ∃ (l : Addr) (xs : List V) (i : Int) (y : V), x = .ref l ∧ vs = [.int i, y] ∧ H l = some (.lst xs) ∧ xs.length < sizeLine ∧ 0 ≤ i ∧ i < 2 ^ 63 ∧ Q .non (upd H l (.lst (xs.take i.toNat ++ [y] ++ xs.drop i.toNat)))
open Classical in
noncomputable def pInsert : D → List D → Store → MX D := fun x as m => match as with
  | [.int i, d] => (cellL m x).bind fun p => if p.2.length < 100000 ∧ Rg62 i ∧ 0 ≤ i then ret .non (m.set p.1 (.lst (p.2.take i.toNat ++ [d] ++ p.2.drop i.toNat))) else none
  | _ => none
theorem RepAll.takeN {r : List Addr} {F : Hp} : ∀ {vs : List V} {xs : List D} (n : Nat), RepAll K r F vs xs → RepAll K r F (vs.take n) (xs.take n)
  | _, _, 0, _ => by rw [List.take_zero, List.take_zero]; exact .nil
  | _, _, n + 1, .nil => by rw [List.take_nil, List.take_nil]; exact .nil
  | _, _, n + 1, .cons h t => by rw [List.take_succ_cons, List.take_succ_cons]; exact .cons h (RepAll.takeN n t)
theorem RepAll.dropN {r : List Addr} {F : Hp} : ∀ {vs : List V} {xs : List D} (n : Nat), RepAll K r F vs xs → RepAll K r F (vs.drop n) (xs.drop n)
  | _, _, 0, h => by rw [List.drop_zero, List.drop_zero]; exact h
  | _, _, n + 1, .nil => by rw [List.drop_nil, List.drop_nil]; exact .nil
  | _, _, n + 1, .cons h t => by rw [List.drop_succ_cons, List.drop_succ_cons]; exact RepAll.dropN n t
open Classical in
theorem sm_pInsert : SM K W rInsert pInsert := fun x xs m res m' e r F H σ v vs hr px ps => by
  unfold pInsert at e
  split at e
  · rename_i i d
    cases h0 : cellL m x with
    | none => rw [h0] at e; cases e
    | some p =>
      obtain ⟨k, ys⟩ := p
      rw [h0] at e
      simp only [Option.bind_some] at e
      split at e
      · rename_i hl
        cases e
        obtain ⟨a, ws, rfl, ea, hk, h1, h2⟩ := cellL_get h0 hr px
        obtain ⟨y1, y, rfl, p1, py⟩ := rep2 ps
        cases p1
        obtain ⟨z1, z2⟩ := putL hr ea hk h1 (((h2.takeN i.toNat).app (.one py)).app (h2.dropN i.toNat))
        exact fun Q q => ⟨_, ws, i, y, rfl, rfl, h1, Evl.sz_lt (by rw [h2.len]; exact hl.1), hl.2.2, hl.2.1.wide.2, q _ r F _ z1 z2 .non⟩
      · cases e
  · cases e
/-- count of whole numbers -/
def pCount : D → List D → Store → MX D := fun x as m => match as with
  | [.int k] => (rdQ m x).bind fun ds => (toInts ds).bind fun ns => ret (.int (ns.count k : Nat)) m
  | _ => none
theorem sm_pCount : SM K W (rCntI K) pCount := fun x xs m res m' e r F H σ v vs hr px ps => by
  unfold pCount at e
  split at e
  · rename_i k
    cases h0 : rdQ m x with
    | none => rw [h0] at e; cases e
    | some ds =>
      rw [h0] at e
      simp only [Option.bind_some] at e
      cases h1 : toInts ds with
      | none => rw [h1] at e; cases e
      | some ns =>
        rw [h1] at e; cases e
        cases toInts_eq h1
        obtain ⟨p, ws, rfl, hs, ra⟩ := rdQ_get h0 hr px
        cases ra.ints
        obtain ⟨y, rfl, py⟩ := rep1 ps
        cases py
        exact fun Q q => ⟨_, _, _, rfl, rfl, hs, q _ r F H hr (Ext.refl hr) (.int _)⟩
  · cases e
end
end DL
namespace DL
open PySem PySem.Spec PyProof.Rows L2
/-! ### spans, in plain Lean -/
def isPlace (i : Int) : Bool := decide (0 - 1000000000000 < i) && decide (i < 1000000000000)
def isSpan (s : Sp2) : Bool := isPlace s.1 && (isPlace s.2 && decide (s.1 < s.2))
def Good (s : Sp2) : Prop := -1000000000000 < s.1 ∧ s.1 < s.2 ∧ s.2 < 1000000000000
theorem good_iff {s : Sp2} : isSpan s = true ↔ Good s := by simp [isSpan, isPlace, Good]; omega
theorem Good.isSpan {s : Sp2} (h : Good s) : isSpan s = true := good_iff.mpr h
theorem not_good {s : Sp2} (h : ¬ Good s) : isSpan s = false := by
  cases e : DL.isSpan s with
  | true => exact absurd (good_iff.mp e) h
  | false => rfl
/-! ### statement by statement -/
theorem ws_step {a b : MS} {δ δ' : En} {m m' : Store} {R : OT → Prop} (h : a δ m = some (.nx δ' m')) (k : ws (b δ' m') R) : ws (sSeq a b δ m) R := by
  rw [ws_seq, h]; exact k
theorem ws_stop {a b : MS} {δ : En} {m m' : Store} {d : D} {R : OT → Prop} (h : a δ m = some (.rt d m')) (k : R (.rt d m')) : ws (sSeq a b δ m) R := by
  rw [ws_seq, h]; exact k
theorem ws_last {a : MS} {δ : En} {m : Store} {o : OT} {R : OT → Prop} (h : a δ m = some o) (k : R o) : ws (a δ m) R := by
  rw [h]; exact k
/-- a statement, and what follows, by what holds between -/
theorem ws_mid {a b : MS} {δ : En} {m : Store} {I : En → Store → Prop} {R : OT → Prop} (h : ws (a δ m) (Nx I)) (k : ∀ δ' m', I δ' m' → ws (b δ' m') R) : ws (sSeq a b δ m) R := by
  rw [ws_seq]
  refine ws_mono h ?_
  rintro o ⟨δ', m', rfl, hi⟩
  exact k δ' m' hi
/-- a for in the midst -/
theorem ws_forS {w : MI} {g : MG} {b : MS} {δ : En} {m m' : Store} {wk : Wk} {R : OT → Prop} (h : w δ m = ret wk m') (k : ws (forM g b wk.chk wk.xs δ m') R) : ws (sFor w g b δ m) R := by
  unfold sFor
  rw [h]; exact k
theorem seq_nx {a b : MS} {δ δ' : En} {m m' : Store} (h : a δ m = some (.nx δ' m')) : sSeq a b δ m = b δ' m' := by
  unfold sSeq; rw [h]
theorem seq_rt {a b : MS} {δ : En} {m m' : Store} {d : D} (h : a δ m = some (.rt d m')) : sSeq a b δ m = some (.rt d m') := by
  unfold sSeq; rw [h]
/-! ### what reads as a list -/
theorem eq_of_wp {α : Type} {x : MX α} {a : RX α} {b : Store} (h : wp x (fun r m => r = a ∧ m = b)) : x = some (a, b) := by
  obtain ⟨r, m, e, rfl, rfl⟩ := wp_get h
  exact e
structure Rd (m : Store) (d : D) (xs : List D) : Prop where
  q : rdQ m d = some xs
  l : rdL m d = some xs
  s : rdS m d = some xs
  v : vw m d = some (.lst xs)
  t : tyN m d = some "list"
  i : isLst m d = true
  c : ∀ p ∈ srcOf d xs, m[p.1]? = some (.lst p.2)
theorem Rd.lst {m : Store} {xs : List D} : Rd m (.lst xs) xs := ⟨rfl, rfl, rfl, rfl, rfl, rfl, fun p hp => nomatch hp⟩
theorem Rd.cell {m : Store} {k : Nat} {xs : List D} (h : m[k]? = some (.lst xs)) : Rd m (.cell k) xs :=
  ⟨rdQ_cell h, rdL_cell h, rdS_cell h, vw_cell h, by unfold tyN; dsimp only; rw [h], isLst_cell h, fun p hp => by cases List.mem_singleton.mp hp; exact h⟩
theorem Rd.inv {m : Store} {d : D} {xs : List D} (h : Rd m d xs) : d = .lst xs ∨ ∃ k, d = .cell k ∧ m[k]? = some (.lst xs) := by
  have := h.l
  cases d with
  | lst ys => exact .inl (by have := Option.some.inj this; rw [this])
  | cell k => exact .inr ⟨k, rfl, cell_some this⟩
  | _ => cases this
theorem Rd.app {m l : Store} {d : D} {xs : List D} (h : Rd m d xs) : Rd (m ++ l) d xs := by
  rcases h.inv with rfl | ⟨k, rfl, e⟩
  · exact .lst
  · exact .cell (by rw [List.getElem?_append_left (List.getElem?_eq_some_iff.mp e).1]; exact e)
theorem Rd.set {m : Store} {d : D} {xs : List D} {k : Nat} {c : Cell} (h : Rd m d xs) (hk : d ≠ .cell k) : Rd (m.set k c) d xs := by
  rcases h.inv with rfl | ⟨j, rfl, e⟩
  · exact .lst
  · exact .cell (by rw [set_get_ne (fun z => hk (by rw [z]))]; exact e)
theorem Rd.chk {m : Store} {d : D} {xs ys : List D} (h : Rd m d xs) : (Wk.mk ys (srcOf d xs)).chk m := h.c
theorem ixN_last {n : Nat} : ixN (n + 1) (-1) = some n := by
  unfold ixN
  rw [if_neg (show ¬ (0 : Int) ≤ -1 by omega), if_pos (show -((n + 1 : Nat) : Int) ≤ -1 by omega)]
  congr 1
  omega
theorem map_last {α : Type} {f : α → D} {c : List α} {t : α} : L2.atI ((c ++ [t]).map f) (-1) = some (f t) := by
  rw [List.map_append]; exact atI_last
theorem set_lastL {c : List D} {t u : D} : (c ++ [t]).set c.length u = c ++ [u] := by simp
theorem srcOf_lst {xs ys : List D} : srcOf (.lst xs) ys = [] := rfl
theorem seqIndex_ok {i : Int} {n : Nat} (h0 : 0 ≤ i) (h1 : i < n) : seqIndex? i n = some i.toNat := by
  unfold seqIndex?
  have e : ¬ i < 0 := by omega
  simp [e, h0, h1]
theorem fin_own1 {m0 m : Store} {xs : List D} (hl : m.length = m0.length) (ti : Tidy m0 m) (hu : D.unds m0.length xs = true) : finF m0 (.cell m0.length) (m ++ [.lst xs]) = ret (.own xs) m := fin_own (i := 0) hl ti rfl hu
theorem cut_to {xs : List D} {j : Nat} : cutD xs none (some (j : Int)) = xs.take j := by
  unfold cutD
  rw [HT.sIx_none, HT.sIx_nat]
  simp only [List.drop_zero, Nat.sub_zero]
  rw [List.take_eq_take_iff]; omega
theorem cut_from {xs : List D} {j : Nat} : cutD xs (some (j : Int)) none = xs.drop j := by
  unfold cutD
  rw [HT.sIx_none, HT.sIx_nat]
  rcases Nat.le_total j xs.length with h | h
  · rw [Nat.min_eq_left h, List.take_of_length_le (by simp)]
  · rw [Nat.min_eq_right h, List.drop_eq_nil_of_le h]; simp
noncomputable def e_law_kinds : MS :=
  (sSeq (sSet 1 (dat (fLst (aCons (eIsX kinds "NoSpan" (eVar 0)) (aCons (eIsX kinds "NoPlace" (eVar 0)) (aCons (eIsX kinds "NoCover" (eVar 0)) (aCons (eIsX kinds "NoWeight" (eVar 0)) aNil)))))))
    (sSeq (sSet 1 (dat (fOp pCat (eVar 1) (dat (fLst (aCons (eIsX kinds "NoCount" (eVar 0)) (aCons (eIsX kinds "NoName" (eVar 0)) (aCons (eIsX kinds "Twice" (eVar 0)) (aCons (eIsX kinds "Full" (eVar 0)) aNil)))))))))
    (sSeq (sSet 1 (dat (fOp pCat (eVar 1) (dat (fLst (aCons (eIsX kinds "Bare" (eVar 0)) (aCons (eIsX kinds "NoDeed" (eVar 0)) (aCons (eIsX kinds "NoText" (eVar 0)) (aCons (eIsX kinds "NoLine" (eVar 0)) aNil)))))))))
    (sSeq (sIf (mOr (mNot (tst (eIsX kinds "ShelfError" (eVar 0)))) (mNot (tst (eIsX kinds "ValueError" (eVar 0))))) (sRet (cel (fLst aNil))) sNext)
    (sRet (cel (fLc (wRng1 (aCons (eC (.int 12)) aNil)) (mName 2) (tst (eOp pIxL (eVar 1) (eVar 2))) (eVar 2) [2])))))))
noncomputable def f_law_kinds : FnS := fnOf 1 3 e_law_kinds
theorem isXk_up (x : Str) : isXk "ShelfError" x = true := rfl
theorem isXk_ve (x : Str) : isXk "ValueError" x = true := rfl
theorem kinds_lc {m : Store} {bs : List Bool} (hb : bs.length = 12) (d0 : Option D) : lcM (mName 2) (tst (eOp pIxL (eVar 1) (eVar 2))) (eVar 2) (Wk.mk (rng 0 12) []).chk [d0, some (.lst (bs.map D.bl)), none] (rng 0 12) m
    = ret (((List.range 12).filter fun i : Nat => bs.getD i false).map fun i : Nat => D.int (0 + (i : Int))) m := by
  refine lcM_pure (e := eVar 2) chk_nil (fun i : Nat => D.int (0 + (i : Int))) (fun i => bs.getD i false) (fun i => D.int (0 + (i : Int))) (List.range 12) fun i hi => ⟨[d0, some (.lst (bs.map D.bl)), some (.int (0 + (i : Int)))], rfl, ?_, fun _ => rfl⟩
  have hi' : i < 12 := by simpa using hi
  have h : L2.atI (bs.map D.bl) (0 + (i : Int)) = some (.bl (bs.getD i false)) := by
    have := atI_getD (xs := bs) (i := 0 + (i : Int)) false (by omega) (by omega)
    rw [show (0 + (i : Int)).toNat = i by omega] at this
    exact atI_map this
  simp only [fnOf, endF, st, eC, eVar, eOp, eUn, eAnd, eOr, eNot, tst, mAnd, mOr, mNot, mYes, eIf, eChain, aNil, aCons, eTup, eCB, fCB, fLst, dat, cel, pla, FT.dat, F1.dat, FT.cel, celL, sNext, sBreak, sCont, sRetN, sSeq, sAsg, sSet, sExpr, sRet, sIf, sRaise, fCall, fCall0, pAdd, pSub, pLt, pLe, pGt, pGe, pEq, pNe, pIsN, pNotN, pIxT, pNeg, pMax2, pMin2, pMax3, pMin3, bind_ok, bind_ex, sure_ok, run_ok, run_ex, mName, mTup, msNil, msCons, List.length_cons, List.length_nil, List.map_cons, List.map_nil, List.replicate_zero, List.replicate_succ, List.append_nil, List.cons_append, List.nil_append, List.getElem?_cons_zero, List.getElem?_cons_succ, List.set_cons_zero, List.set_cons_succ, Option.bind_some, Option.map_some, Nat.sub_self, Nat.reduceSub, Nat.reduceAdd, fOp, pCat, fSl, oNone, oSome, fRev, eBM, eBM0, pAppend, pReverse, sSetI, sAug, eIsT, tyN, sFor, wList, wTup, wEnum, wZip, fLc, pIxL, pLen, pList, eBits, Bool.not_true, Bool.not_false, Bool.and_true, Bool.true_and, Bool.and_false, Bool.false_and, Bool.or_true, Bool.true_or, Bool.or_false, Bool.false_or, cond_true, cond_false, Nat.zero_add, Nat.reduceLeDiff, Nat.reduceLT, Int.reduceSub, Int.reduceNeg, Int.reduceAdd, Int.reduceToNat, if_true, ↓reduceIte, and_ret, or_ret, and_retB, or_retB, fin_same, List.length_set, rdQ_lst, rdL_lst, rdS_lst, rdS_tup, rdQ_scr, rdS_scr, vw_lst, vw_tup, pow_12, pow_9, pow_18, pow_29, atI_0, atI_1, atI_2, atI_3, h]
theorem bl12 (b1 b2 b3 b4 b5 b6 b7 b8 b9 b10 b11 b12 : Bool) : [D.bl b1, .bl b2, .bl b3, .bl b4, .bl b5, .bl b6, .bl b7, .bl b8, .bl b9, .bl b10, .bl b11, .bl b12] = [b1, b2, b3, b4, b5, b6, b7, b8, b9, b10, b11, b12].map D.bl := rfl
theorem law_kinds_at {x : Str} (m : Store) (h : x = "ShelfError" ∨ x ∈ kinds) : f_law_kinds [.exc x] m = ret (.own (((List.range 12).filter fun i : Nat => (kinds.map fun c => isXk c x).getD i false).map fun i : Nat => D.int (0 + (i : Int)))) m := by
  unfold f_law_kinds e_law_kinds
  simp only [fnOf, endF, st, eC, eVar, eOp, eUn, eAnd, eOr, eNot, tst, mAnd, mOr, mNot, mYes, eIf, eChain, aNil, aCons, eTup, eCB, fCB, fLst, dat, cel, pla, FT.dat, F1.dat, FT.cel, celL, sNext, sBreak, sCont, sRetN, sSeq, sAsg, sSet, sExpr, sRet, sIf, sRaise, fCall, fCall0, pAdd, pSub, pLt, pLe, pGt, pGe, pEq, pNe, pIsN, pNotN, pIxT, pNeg, pMax2, pMin2, pMax3, pMin3, bind_ok, bind_ex, sure_ok, run_ok, run_ex, mName, mTup, msNil, msCons, List.length_cons, List.length_nil, List.map_cons, List.map_nil, List.replicate_zero, List.replicate_succ, List.append_nil, List.cons_append, List.nil_append, List.getElem?_cons_zero, List.getElem?_cons_succ, List.set_cons_zero, List.set_cons_succ, Option.bind_some, Option.map_some, Nat.sub_self, Nat.reduceSub, Nat.reduceAdd, fOp, pCat, fSl, oNone, oSome, fRev, eBM, eBM0, pAppend, pReverse, sSetI, sAug, eIsT, tyN, sFor, wList, wTup, wEnum, wZip, fLc, pIxL, pLen, pList, eBits, Bool.not_true, Bool.not_false, Bool.and_true, Bool.true_and, Bool.and_false, Bool.false_and, Bool.or_true, Bool.true_or, Bool.or_false, Bool.false_or, cond_true, cond_false, Nat.zero_add, Nat.reduceLeDiff, Nat.reduceLT, Int.reduceSub, Int.reduceNeg, Int.reduceAdd, Int.reduceToNat, if_true, ↓reduceIte, and_ret, or_ret, and_retB, or_retB, fin_same, List.length_set, rdQ_lst, rdL_lst, rdS_lst, rdS_tup, rdQ_scr, rdS_scr, vw_lst, vw_tup, pow_12, pow_9, pow_18, pow_29, atI_0, atI_1, atI_2, atI_3, eIsX, h, wRng1, wipeE, isXk_up, isXk_ve]
  rw [if_pos (rg62 (by omega) (by omega))]
  simp only [fnOf, endF, st, eC, eVar, eOp, eUn, eAnd, eOr, eNot, tst, mAnd, mOr, mNot, mYes, eIf, eChain, aNil, aCons, eTup, eCB, fCB, fLst, dat, cel, pla, FT.dat, F1.dat, FT.cel, celL, sNext, sBreak, sCont, sRetN, sSeq, sAsg, sSet, sExpr, sRet, sIf, sRaise, fCall, fCall0, pAdd, pSub, pLt, pLe, pGt, pGe, pEq, pNe, pIsN, pNotN, pIxT, pNeg, pMax2, pMin2, pMax3, pMin3, bind_ok, bind_ex, sure_ok, run_ok, run_ex, mName, mTup, msNil, msCons, List.length_cons, List.length_nil, List.map_cons, List.map_nil, List.replicate_zero, List.replicate_succ, List.append_nil, List.cons_append, List.nil_append, List.getElem?_cons_zero, List.getElem?_cons_succ, List.set_cons_zero, List.set_cons_succ, Option.bind_some, Option.map_some, Nat.sub_self, Nat.reduceSub, Nat.reduceAdd, fOp, pCat, fSl, oNone, oSome, fRev, eBM, eBM0, pAppend, pReverse, sSetI, sAug, eIsT, tyN, sFor, wList, wTup, wEnum, wZip, fLc, pIxL, pLen, pList, eBits, Bool.not_true, Bool.not_false, Bool.and_true, Bool.true_and, Bool.and_false, Bool.false_and, Bool.or_true, Bool.true_or, Bool.or_false, Bool.false_or, cond_true, cond_false, Nat.zero_add, Nat.reduceLeDiff, Nat.reduceLT, Int.reduceSub, Int.reduceNeg, Int.reduceAdd, Int.reduceToNat, if_true, ↓reduceIte, and_ret, or_ret, and_retB, or_retB, fin_same, List.length_set, rdQ_lst, rdL_lst, rdS_lst, rdS_tup, rdQ_scr, rdS_scr, vw_lst, vw_tup, pow_12, pow_9, pow_18, pow_29, atI_0, atI_1, atI_2, atI_3, rng_len]
  rw [bl12, kinds_lc rfl]
  simp only [fnOf, endF, st, eC, eVar, eOp, eUn, eAnd, eOr, eNot, tst, mAnd, mOr, mNot, mYes, eIf, eChain, aNil, aCons, eTup, eCB, fCB, fLst, dat, cel, pla, FT.dat, F1.dat, FT.cel, celL, sNext, sBreak, sCont, sRetN, sSeq, sAsg, sSet, sExpr, sRet, sIf, sRaise, fCall, fCall0, pAdd, pSub, pLt, pLe, pGt, pGe, pEq, pNe, pIsN, pNotN, pIxT, pNeg, pMax2, pMin2, pMax3, pMin3, bind_ok, bind_ex, sure_ok, run_ok, run_ex, mName, mTup, msNil, msCons, List.length_cons, List.length_nil, List.map_cons, List.map_nil, List.replicate_zero, List.replicate_succ, List.append_nil, List.cons_append, List.nil_append, List.getElem?_cons_zero, List.getElem?_cons_succ, List.set_cons_zero, List.set_cons_succ, Option.bind_some, Option.map_some, Nat.sub_self, Nat.reduceSub, Nat.reduceAdd, fOp, pCat, fSl, oNone, oSome, fRev, eBM, eBM0, pAppend, pReverse, sSetI, sAug, eIsT, tyN, sFor, wList, wTup, wEnum, wZip, fLc, pIxL, pLen, pList, eBits, Bool.not_true, Bool.not_false, Bool.and_true, Bool.true_and, Bool.and_false, Bool.false_and, Bool.or_true, Bool.true_or, Bool.or_false, Bool.false_or, cond_true, cond_false, Nat.zero_add, Nat.reduceLeDiff, Nat.reduceLT, Int.reduceSub, Int.reduceNeg, Int.reduceAdd, Int.reduceToNat, if_true, ↓reduceIte, and_ret, or_ret, and_retB, or_retB, fin_same, List.length_set, rdQ_lst, rdL_lst, rdS_lst, rdS_tup, rdQ_scr, rdS_scr, vw_lst, vw_tup, pow_12, pow_9, pow_18, pow_29, atI_0, atI_1, atI_2, atI_3]
  exact fin_own0 (unds_map (fun _ => rfl) _)
theorem law_kinds_exc {x : Str} (m : Store) (h : x ∈ kinds) : f_law_kinds [.exc x] m = ret (.own [.int ((kinds.idxOf x : Nat) : Int)]) m := by
  rw [law_kinds_at m (.inr h)]
  simp [kinds] at h
  rcases h with rfl | rfl | rfl | rfl | rfl | rfl | rfl | rfl | rfl | rfl | rfl | rfl <;> rfl
theorem law_kinds_up (m : Store) : f_law_kinds [.exc "ShelfError"] m = ret (.own []) m := by
  rw [law_kinds_at m (.inl rfl)]; rfl
theorem law_kinds_non (m : Store) : f_law_kinds [.non] m = ret (.own []) m := by
  unfold f_law_kinds e_law_kinds
  simp only [fnOf, endF, st, eC, eVar, eOp, eUn, eAnd, eOr, eNot, tst, mAnd, mOr, mNot, mYes, eIf, eChain, aNil, aCons, eTup, eCB, fCB, fLst, dat, cel, pla, FT.dat, F1.dat, FT.cel, celL, sNext, sBreak, sCont, sRetN, sSeq, sAsg, sSet, sExpr, sRet, sIf, sRaise, fCall, fCall0, pAdd, pSub, pLt, pLe, pGt, pGe, pEq, pNe, pIsN, pNotN, pIxT, pNeg, pMax2, pMin2, pMax3, pMin3, bind_ok, bind_ex, sure_ok, run_ok, run_ex, mName, mTup, msNil, msCons, List.length_cons, List.length_nil, List.map_cons, List.map_nil, List.replicate_zero, List.replicate_succ, List.append_nil, List.cons_append, List.nil_append, List.getElem?_cons_zero, List.getElem?_cons_succ, List.set_cons_zero, List.set_cons_succ, Option.bind_some, Option.map_some, Nat.sub_self, Nat.reduceSub, Nat.reduceAdd, fOp, pCat, fSl, oNone, oSome, fRev, eBM, eBM0, pAppend, pReverse, sSetI, sAug, eIsT, tyN, sFor, wList, wTup, wEnum, wZip, fLc, pIxL, pLen, pList, eBits, Bool.not_true, Bool.not_false, Bool.and_true, Bool.true_and, Bool.and_false, Bool.false_and, Bool.or_true, Bool.true_or, Bool.or_false, Bool.false_or, cond_true, cond_false, Nat.zero_add, Nat.reduceLeDiff, Nat.reduceLT, Int.reduceSub, Int.reduceNeg, Int.reduceAdd, Int.reduceToNat, if_true, ↓reduceIte, and_ret, or_ret, and_retB, or_retB, fin_same, List.length_set, rdQ_lst, rdL_lst, rdS_lst, rdS_tup, rdQ_scr, rdS_scr, vw_lst, vw_tup, pow_12, pow_9, pow_18, pow_29, atI_0, atI_1, atI_2, atI_3, eIsX, Bool.not_false, cond_true]
  exact fin_own0 rfl
noncomputable def e_law_sorts : MS :=
  (sSeq (sSet 1 (dat (fLst (aCons (eIsX kinds "NoSpan" (eVar 0)) (aCons (eIsX kinds "NoPlace" (eVar 0)) (aCons (eIsX kinds "NoCover" (eVar 0)) aNil))))))
    (sSeq (sSet 1 (dat (fOp pCat (eVar 1) (dat (fLst (aCons (eIsX kinds "NoWeight" (eVar 0)) (aCons (eIsX kinds "NoCount" (eVar 0)) (aCons (eIsX kinds "NoName" (eVar 0)) aNil))))))))
    (sSeq (sSet 1 (dat (fOp pCat (eVar 1) (dat (fLst (aCons (eIsX kinds "Twice" (eVar 0)) (aCons (eIsX kinds "Full" (eVar 0)) (aCons (eIsX kinds "Bare" (eVar 0)) aNil))))))))
    (sRet (cel (fOp pCat (eVar 1) (dat (fLst (aCons (eIsX kinds "NoDeed" (eVar 0)) (aCons (eIsX kinds "NoText" (eVar 0)) (aCons (eIsX kinds "NoLine" (eVar 0)) aNil)))))))))))
noncomputable def f_law_sorts : FnS := fnOf 1 2 e_law_sorts
theorem law_sorts_eq {x : Str} (m : Store) (h : x = "ShelfError" ∨ x ∈ kinds) : f_law_sorts [.exc x] m = ret (.own ((kinds.map fun c => isXk c x).map D.bl)) m := by
  unfold f_law_sorts e_law_sorts
  simp only [fnOf, endF, st, eC, eVar, eOp, eUn, eAnd, eOr, eNot, tst, mAnd, mOr, mNot, mYes, eIf, eChain, aNil, aCons, eTup, eCB, fCB, fLst, dat, cel, pla, FT.dat, F1.dat, FT.cel, celL, sNext, sBreak, sCont, sRetN, sSeq, sAsg, sSet, sExpr, sRet, sIf, sRaise, fCall, fCall0, pAdd, pSub, pLt, pLe, pGt, pGe, pEq, pNe, pIsN, pNotN, pIxT, pNeg, pMax2, pMin2, pMax3, pMin3, bind_ok, bind_ex, sure_ok, run_ok, run_ex, mName, mTup, msNil, msCons, List.length_cons, List.length_nil, List.map_cons, List.map_nil, List.replicate_zero, List.replicate_succ, List.append_nil, List.cons_append, List.nil_append, List.getElem?_cons_zero, List.getElem?_cons_succ, List.set_cons_zero, List.set_cons_succ, Option.bind_some, Option.map_some, Nat.sub_self, Nat.reduceSub, Nat.reduceAdd, fOp, pCat, fSl, oNone, oSome, fRev, eBM, eBM0, pAppend, pReverse, sSetI, sAug, eIsT, tyN, sFor, wList, wTup, wEnum, wZip, fLc, pIxL, pLen, pList, eBits, Bool.not_true, Bool.not_false, Bool.and_true, Bool.true_and, Bool.and_false, Bool.false_and, Bool.or_true, Bool.true_or, Bool.or_false, Bool.false_or, cond_true, cond_false, Nat.zero_add, Nat.reduceLeDiff, Nat.reduceLT, Int.reduceSub, Int.reduceNeg, Int.reduceAdd, Int.reduceToNat, if_true, ↓reduceIte, and_ret, or_ret, and_retB, or_retB, fin_same, List.length_set, rdQ_lst, rdL_lst, rdS_lst, rdS_tup, rdQ_scr, rdS_scr, vw_lst, vw_tup, pow_12, pow_9, pow_18, pow_29, atI_0, atI_1, atI_2, atI_3, eIsX, h]
  exact fin_own0 rfl
mutual
theorem eqv_toPy : ∀ d : D, PyData.eqv d.toPy d.toPy = true
  | .non => rfl
  | .bl b => by cases b <;> rfl
  | .int i => by show decide (i = i) = true; simp
  | .str x => by simp [D.toPy, PyData.eqv]
  | .lst xs => eqv_toPys xs
  | .tup xs => eqv_toPys xs
  | .cell _ => rfl
  | .scr ns => by
    have h := eqv_ints ns ns
    rw [decide_eq_true rfl] at h
    have e : D.toPys (ns.map D.int) = ns.map PyData.int := by
      clear h
      induction ns with
      | nil => rfl
      | cons n ns ih => show _ :: D.toPys (ns.map D.int) = _; rw [ih]; rfl
    rw [e] at h
    exact h
  | .exc _ => rfl
theorem eqv_toPys : ∀ ds : List D, PyData.eqvAll (D.toPys ds) (D.toPys ds) = true
  | [] => rfl
  | d :: ds => by
    show (PyData.eqv d.toPy d.toPy && PyData.eqvAll (D.toPys ds) (D.toPys ds)) = true
    rw [eqv_toPy d, eqv_toPys ds]; rfl
end
theorem eqb_self (d : D) : eqb d d = true := eqv_toPy d
theorem ne_self {m : Store} {d e x : D} (h1 : vw m d = some x) (h2 : vw m e = some x) (s : Sh 60 x) : pNeD d e m = ret (.bl false) m := by
  rw [pNeD_eq h1 h2 s s, eqb_self]; rfl
theorem eq_self {m : Store} {d e x : D} (h1 : vw m d = some x) (h2 : vw m e = some x) (s : Sh 60 x) : pEqD d e m = ret (.bl true) m := by
  rw [pEqD_eq h1 h2 s s, eqb_self]
theorem sh_tup {n : Nat} {xs : List D} (h : ∀ x ∈ xs, Sh n x) : Sh (n + 1) (.tup xs) := h
theorem sh_lst {n : Nat} {xs : List D} (h : ∀ x ∈ xs, Sh n x) : Sh (n + 1) (.lst xs) := h
theorem sh_two {n : Nat} {a b : D} (ha : Sh n a) (hb : Sh n b) : Sh (n + 1) (.tup [a, b]) := fun x hx => by
  rcases List.mem_cons.mp hx with rfl | hx
  · exact ha
  · cases List.mem_singleton.mp hx; exact hb
/-! ### the purse: numbers drawn from a cell -/
structure Purse where
  a : Int
  b : Int
  c : Int
def ePu (p : Purse) : Cell := .lst [.int p.a, .int p.b, .int p.c]
/-- so many draws are left -/
def Pok (n : Nat) (p : Purse) : Prop := 0 ≤ p.b ∧ p.b < 2147483647 ∧ 0 ≤ p.c ∧ p.c + 3 * (n : Int) ≤ 1125899906842624
theorem Pok.mono {n n' : Nat} {p : Purse} (h : Pok n p) (hb : n' ≤ n) : Pok n' p := ⟨h.1, h.2.1, h.2.2.1, by have := h.2.2.2; omega⟩
theorem tidy_pu {m m' : Store} {k : Nat} {p : Purse} (h : Tidy m m') : Tidy m (m'.set k (ePu p)) := h.set rfl
noncomputable def e_law_mixed : MS :=
  (sSeq (sSet 2 (eOp pMod (eOp pAdd (eOp pAdd (eOp pAdd (eOp pMul (eVar 0) (eC (.int 1103515245))) (eOp pMul (eOp pMul (eC (.int 7919)) (eVar 1)) (eVar 1))) (eVar 1)) (eC (.int 1))) (eC (.int 2147483647))))
    (sSeq (sSet 2 (eOp pMod (eOp pAdd (eOp pMul (eVar 2) (eVar 2)) (eC (.int 69621))) (eC (.int 2147483629))))
    (sRet (eOp pMod (eOp pMul (eVar 2) (eC (.int 48271))) (eC (.int 2147483587))))))
noncomputable def f_law_mixed : FnS := fnOf 2 3 e_law_mixed
theorem law_mixed_ok (c k : Int) (m : Store) (h0 : 0 ≤ k) (h1 : k < 1152921504606846976) : ∃ i, f_law_mixed [.int c, .int k] m = ret (.pl (.int i)) m := by
  apply Exists.intro
  unfold f_law_mixed e_law_mixed
  have h2 : ∀ x : Int, -18446744073709551616 < x % 2147483647 ∧ x % 2147483647 < 18446744073709551616 := fun x => by omega
  simp only [fnOf, endF, st, eC, eVar, eOp, eUn, eAnd, eOr, eNot, tst, mAnd, mOr, mNot, mYes, eIf, eChain, aNil, aCons, eTup, eCB, fCB, fLst, dat, cel, pla, FT.dat, F1.dat, FT.cel, celL, sNext, sBreak, sCont, sRetN, sSeq, sAsg, sSet, sExpr, sRet, sIf, sRaise, fCall, fCall0, pAdd, pSub, pLt, pLe, pGt, pGe, pEq, pNe, pIsN, pNotN, pIxT, pNeg, pMax2, pMin2, pMax3, pMin3, bind_ok, bind_ex, sure_ok, run_ok, run_ex, mName, mTup, msNil, msCons, List.length_cons, List.length_nil, List.map_cons, List.map_nil, List.replicate_zero, List.replicate_succ, List.append_nil, List.cons_append, List.nil_append, List.getElem?_cons_zero, List.getElem?_cons_succ, List.set_cons_zero, List.set_cons_succ, Option.bind_some, Option.map_some, Nat.sub_self, Nat.reduceSub, Nat.reduceAdd, fOp, pCat, fSl, oNone, oSome, fRev, eBM, eBM0, pAppend, pReverse, sSetI, sAug, eIsT, tyN, sFor, wList, wTup, wEnum, wZip, fLc, pIxL, pLen, pList, eBits, Bool.not_true, Bool.not_false, Bool.and_true, Bool.true_and, Bool.and_false, Bool.false_and, Bool.or_true, Bool.true_or, Bool.or_false, Bool.false_or, cond_true, cond_false, Nat.zero_add, Nat.reduceLeDiff, Nat.reduceLT, Int.reduceSub, Int.reduceNeg, Int.reduceAdd, Int.reduceToNat, if_true, ↓reduceIte, and_ret, or_ret, and_retB, or_retB, fin_same, List.length_set, rdQ_lst, rdL_lst, rdS_lst, rdS_tup, rdQ_scr, rdS_scr, vw_lst, vw_tup, pow_12, pow_9, pow_18, pow_29, atI_0, atI_1, atI_2, atI_3, pMul_r (j := 1103515245) (by omega) (by omega), pMul_l (i := 7919) (by omega) (by omega), pMul_r (j := k) (by omega) (by omega), pMod_pos (j := 2147483647) (by omega), pMod_pos (j := 2147483629) (by omega), pMod_pos (j := 2147483587) (by omega), pMul_r (j := 48271) (by omega) (by omega), pMul_r (h2 _).1 (h2 _).2]
  rfl
noncomputable def e_law_draw : MS :=
  (sSeq (sIf (tst (eOp pGt (eOp pIxL (eVar 0) (eC (.int 0))) (eC (.int 0)))) (sSeq (sSet 2 (eOp pMod (eOp pIxL (eVar 0) (eC (.int 0))) (eVar 1)))
    (sSeq (sSetI (eOp pDiv (eOp pIxL (eVar 0) (eC (.int 0))) (eVar 1)) (eVar 0) (eC (.int 0)))
    (sRet (eVar 2)))) sNext)
    (sSeq (sSet 3 (eC (.int 0)))
    (sSeq (sFor (wRng1 (aCons (eOp pAdd (eC (.int 1)) (eOp pDiv (eBits (eVar 1)) (eC (.int 30)))) aNil)) (mName 4)
    (sSeq (sSetI (eOp pAdd (eOp pIxL (eVar 0) (eC (.int 2))) (eC (.int 1))) (eVar 0) (eC (.int 2)))
    (sSet 3 (eOp pAdd (eOp pMul (eVar 3) (eC (.int 2147483587))) (pla (fCall0 f_law_mixed (aCons (eOp pIxL (eVar 0) (eC (.int 1))) (aCons (eOp pIxL (eVar 0) (eC (.int 2))) aNil))))))))
    (sRet (eOp pMod (eVar 3) (eVar 1))))))
noncomputable def f_law_draw : FnS := fnOf 2 5 e_law_draw
theorem intBits_le {n : Int} {k : Nat} (h0 : 0 < n) (h1 : n.natAbs < 2 ^ k) : Builtin.Int.intBits n ≤ k := by
  unfold Builtin.Int.intBits
  have h2 : n.natAbs ≠ 0 := by omega
  split
  · omega
  · have := (Nat.log2_lt h2).mpr h1
    omega
theorem intBits_89 {n : Int} (h0 : 0 < n) (hn : n < 618970019642690137449562112) : Builtin.Int.intBits n ≤ 89 := by
  refine intBits_le h0 ?_
  rw [show (2 : Nat) ^ 89 = 618970019642690137449562112 from rfl]
  omega
theorem law_draw_wp {m : Store} {k b : Nat} {p : Purse} {n : Int} (hk : m[k]? = some (ePu p)) (hp : Pok (b + 1) p) (h0 : 0 < n) (hn : n < 618970019642690137449562112) :
    wp (f_law_draw [.cell k, .int n] m) (fun r m' => ∃ i p', r = .ok (.pl (.int i)) ∧ m' = m.set k (ePu p') ∧ 0 ≤ i ∧ i < n ∧ Pok b p') := by
  obtain ⟨q1, q2, q3, q4⟩ := hp
  have hk' : m[k]? = some (.lst [.int p.a, .int p.b, .int p.c]) := hk
  have hb := intBits_89 h0 hn
  unfold f_law_draw e_law_draw
  refine wp_fnI rfl ?_
  simp only [st, eC, eVar, eOp, eUn, eAnd, eOr, eNot, tst, mAnd, mOr, mNot, mYes, eIf, eChain, aNil, aCons, eTup, eCB, fCB, fLst, dat, cel, pla, FT.dat, F1.dat, FT.cel, celL, sNext, sBreak, sCont, sRetN, sAsg, sSet, sExpr, sRet, sIf, sRaise, fCall, fCall0, pAdd, pSub, pLt, pLe, pGt, pGe, pEq, pNe, pIsN, pNotN, pIxT, pNeg, pMax2, pMin2, pMax3, pMin3, bind_ok, bind_ex, sure_ok, run_ok, run_ex, mName, mTup, msNil, msCons, List.length_cons, List.length_nil, List.map_cons, List.map_nil, List.replicate_zero, List.replicate_succ, List.append_nil, List.cons_append, List.nil_append, List.getElem?_cons_zero, List.getElem?_cons_succ, List.set_cons_zero, List.set_cons_succ, Option.bind_some, Option.map_some, Nat.sub_self, Nat.reduceSub, Nat.reduceAdd, fOp, pCat, fSl, oNone, oSome, fRev, eBM, eBM0, pAppend, pReverse, sSetI, sAug, eIsT, tyN, sFor, wList, wTup, wEnum, wZip, fLc, pIxL, pLen, pList, eBits, Bool.not_true, Bool.not_false, Bool.and_true, Bool.true_and, Bool.and_false, Bool.false_and, Bool.or_true, Bool.true_or, Bool.or_false, Bool.false_or, cond_true, cond_false, Nat.zero_add, Nat.reduceLeDiff, Nat.reduceLT, Int.reduceSub, Int.reduceNeg, Int.reduceAdd, Int.reduceToNat, if_true, ↓reduceIte, and_ret, or_ret, and_retB, or_retB, fin_same, List.length_set, rdQ_lst, rdL_lst, rdS_lst, rdS_tup, rdQ_scr, rdS_scr, vw_lst, vw_tup, pow_12, pow_9, pow_18, pow_29, atI_0, atI_1, atI_2, atI_3, ws_seq, ws_some, nx_nx, app_set, ws_cond, wp_some, endF_rt, endF_nx, endF_ex, cut_same, ixN_lit30, ixN_lit31, ixN_lit32, cond_true, cond_false, List.set_set, pIxL, rdQ_cell hk', sSetI, cellL_cell hk', pMod_pos h0, pDiv_pos h0 hn]
  refine ⟨fun ha => ?_, fun ha => ?_⟩
  · exact ⟨_, { p with a := p.a / n }, rfl, rfl, Int.emod_nonneg _ (by omega), Int.emod_lt_of_pos _ h0, q1, q2, q3, by show p.c + 3 * (b : Int) ≤ 1125899906842624; omega⟩
  · simp only [st, eC, eVar, eOp, eUn, eAnd, eOr, eNot, tst, mAnd, mOr, mNot, mYes, eIf, eChain, aNil, aCons, eTup, eCB, fCB, fLst, dat, cel, pla, FT.dat, F1.dat, FT.cel, celL, sNext, sBreak, sCont, sRetN, sAsg, sSet, sExpr, sRet, sIf, sRaise, fCall, fCall0, pAdd, pSub, pLt, pLe, pGt, pGe, pEq, pNe, pIsN, pNotN, pIxT, pNeg, pMax2, pMin2, pMax3, pMin3, bind_ok, bind_ex, sure_ok, run_ok, run_ex, mName, mTup, msNil, msCons, List.length_cons, List.length_nil, List.map_cons, List.map_nil, List.replicate_zero, List.replicate_succ, List.append_nil, List.cons_append, List.nil_append, List.getElem?_cons_zero, List.getElem?_cons_succ, List.set_cons_zero, List.set_cons_succ, Option.bind_some, Option.map_some, Nat.sub_self, Nat.reduceSub, Nat.reduceAdd, fOp, pCat, fSl, oNone, oSome, fRev, eBM, eBM0, pAppend, pReverse, sSetI, sAug, eIsT, tyN, sFor, wList, wTup, wEnum, wZip, fLc, pIxL, pLen, pList, eBits, Bool.not_true, Bool.not_false, Bool.and_true, Bool.true_and, Bool.and_false, Bool.false_and, Bool.or_true, Bool.true_or, Bool.or_false, Bool.false_or, cond_true, cond_false, Nat.zero_add, Nat.reduceLeDiff, Nat.reduceLT, Int.reduceSub, Int.reduceNeg, Int.reduceAdd, Int.reduceToNat, if_true, ↓reduceIte, and_ret, or_ret, and_retB, or_retB, fin_same, List.length_set, rdQ_lst, rdL_lst, rdS_lst, rdS_tup, rdQ_scr, rdS_scr, vw_lst, vw_tup, pow_12, pow_9, pow_18, pow_29, atI_0, atI_1, atI_2, atI_3, ws_seq, ws_some, nx_nx, app_set, ws_cond, wp_some, endF_rt, endF_nx, endF_ex, cut_same, ixN_lit30, ixN_lit31, ixN_lit32, cond_true, cond_false, List.set_set, sFor, wRng1, eBits, pDiv_pos (j := 30) (by omega) (by omega)]
    rw [if_pos (rg62 (by omega) (by omega))]
    simp only [st, eC, eVar, eOp, eUn, eAnd, eOr, eNot, tst, mAnd, mOr, mNot, mYes, eIf, eChain, aNil, aCons, eTup, eCB, fCB, fLst, dat, cel, pla, FT.dat, F1.dat, FT.cel, celL, sNext, sBreak, sCont, sRetN, sAsg, sSet, sExpr, sRet, sIf, sRaise, fCall, fCall0, pAdd, pSub, pLt, pLe, pGt, pGe, pEq, pNe, pIsN, pNotN, pIxT, pNeg, pMax2, pMin2, pMax3, pMin3, bind_ok, bind_ex, sure_ok, run_ok, run_ex, mName, mTup, msNil, msCons, List.length_cons, List.length_nil, List.map_cons, List.map_nil, List.replicate_zero, List.replicate_succ, List.append_nil, List.cons_append, List.nil_append, List.getElem?_cons_zero, List.getElem?_cons_succ, List.set_cons_zero, List.set_cons_succ, Option.bind_some, Option.map_some, Nat.sub_self, Nat.reduceSub, Nat.reduceAdd, fOp, pCat, fSl, oNone, oSome, fRev, eBM, eBM0, pAppend, pReverse, sSetI, sAug, eIsT, tyN, sFor, wList, wTup, wEnum, wZip, fLc, pIxL, pLen, pList, eBits, Bool.not_true, Bool.not_false, Bool.and_true, Bool.true_and, Bool.and_false, Bool.false_and, Bool.or_true, Bool.true_or, Bool.or_false, Bool.false_or, cond_true, cond_false, Nat.zero_add, Nat.reduceLeDiff, Nat.reduceLT, Int.reduceSub, Int.reduceNeg, Int.reduceAdd, Int.reduceToNat, if_true, ↓reduceIte, and_ret, or_ret, and_retB, or_retB, fin_same, List.length_set, rdQ_lst, rdL_lst, rdS_lst, rdS_tup, rdQ_scr, rdS_scr, vw_lst, vw_tup, pow_12, pow_9, pow_18, pow_29, atI_0, atI_1, atI_2, atI_3, ws_seq, ws_some, nx_nx, app_set, ws_cond, wp_some, endF_rt, endF_nx, endF_ex, cut_same, ixN_lit30, ixN_lit31, ixN_lit32, cond_true, cond_false, List.set_set]
    have hk0 : k < m.length := (List.getElem?_eq_some_iff.mp hk).1
    refine ws_for (I := fun l δ m' => ∃ (i : Int) (p' : Purse) (z : Option D), δ = [some (.cell k), some (.int n), none, some (.int i), z] ∧ m' = m.set k (ePu p') ∧ 0 ≤ p'.b ∧ p'.b < 2147483647 ∧ 0 ≤ p'.c ∧ p'.c + (l.length : Int) + 3 * (b : Int) ≤ 1125899906842624) (fun _ _ _ _ => chk_nil) ?_ ?_ ?_
    · rintro δ m' ⟨i, p', z, rfl, rfl, r1, r2, r3, r4⟩
      simp only [st, eC, eVar, eOp, eUn, eAnd, eOr, eNot, tst, mAnd, mOr, mNot, mYes, eIf, eChain, aNil, aCons, eTup, eCB, fCB, fLst, dat, cel, pla, FT.dat, F1.dat, FT.cel, celL, sNext, sBreak, sCont, sRetN, sAsg, sSet, sExpr, sRet, sIf, sRaise, fCall, fCall0, pAdd, pSub, pLt, pLe, pGt, pGe, pEq, pNe, pIsN, pNotN, pIxT, pNeg, pMax2, pMin2, pMax3, pMin3, bind_ok, bind_ex, sure_ok, run_ok, run_ex, mName, mTup, msNil, msCons, List.length_cons, List.length_nil, List.map_cons, List.map_nil, List.replicate_zero, List.replicate_succ, List.append_nil, List.cons_append, List.nil_append, List.getElem?_cons_zero, List.getElem?_cons_succ, List.set_cons_zero, List.set_cons_succ, Option.bind_some, Option.map_some, Nat.sub_self, Nat.reduceSub, Nat.reduceAdd, fOp, pCat, fSl, oNone, oSome, fRev, eBM, eBM0, pAppend, pReverse, sSetI, sAug, eIsT, tyN, sFor, wList, wTup, wEnum, wZip, fLc, pIxL, pLen, pList, eBits, Bool.not_true, Bool.not_false, Bool.and_true, Bool.true_and, Bool.and_false, Bool.false_and, Bool.or_true, Bool.true_or, Bool.or_false, Bool.false_or, cond_true, cond_false, Nat.zero_add, Nat.reduceLeDiff, Nat.reduceLT, Int.reduceSub, Int.reduceNeg, Int.reduceAdd, Int.reduceToNat, if_true, ↓reduceIte, and_ret, or_ret, and_retB, or_retB, fin_same, List.length_set, rdQ_lst, rdL_lst, rdS_lst, rdS_tup, rdQ_scr, rdS_scr, vw_lst, vw_tup, pow_12, pow_9, pow_18, pow_29, atI_0, atI_1, atI_2, atI_3, ws_seq, ws_some, nx_nx, app_set, ws_cond, wp_some, endF_rt, endF_nx, endF_ex, cut_same, ixN_lit30, ixN_lit31, ixN_lit32, cond_true, cond_false, List.set_set, pMod_pos h0]
      exact ⟨_, p', rfl, rfl, Int.emod_nonneg _ (by omega), Int.emod_lt_of_pos _ h0, r1, r2, r3, by simpa using r4⟩
    · rintro x l δ m' ⟨i, p', z, rfl, rfl, r1, r2, r3, r4⟩
      have r4' : p'.c + ((l.length : Int) + 1) + 3 * (b : Int) ≤ 1125899906842624 := by simpa using r4
      refine ⟨_, rfl, ?_⟩
      have hk1 : ∀ xs : List D, (m.set k (.lst xs))[k]? = some (.lst xs) := fun xs => List.getElem?_set_self hk0
      obtain ⟨w, e⟩ := law_mixed_ok p'.b (p'.c + 1) (m.set k (.lst [.int p'.a, .int p'.b, .int (p'.c + 1)])) (by omega) (by omega)
      simp only [st, eC, eVar, eOp, eUn, eAnd, eOr, eNot, tst, mAnd, mOr, mNot, mYes, eIf, eChain, aNil, aCons, eTup, eCB, fCB, fLst, dat, cel, pla, FT.dat, F1.dat, FT.cel, celL, sNext, sBreak, sCont, sRetN, sAsg, sSet, sExpr, sRet, sIf, sRaise, fCall, fCall0, pAdd, pSub, pLt, pLe, pGt, pGe, pEq, pNe, pIsN, pNotN, pIxT, pNeg, pMax2, pMin2, pMax3, pMin3, bind_ok, bind_ex, sure_ok, run_ok, run_ex, mName, mTup, msNil, msCons, List.length_cons, List.length_nil, List.map_cons, List.map_nil, List.replicate_zero, List.replicate_succ, List.append_nil, List.cons_append, List.nil_append, List.getElem?_cons_zero, List.getElem?_cons_succ, List.set_cons_zero, List.set_cons_succ, Option.bind_some, Option.map_some, Nat.sub_self, Nat.reduceSub, Nat.reduceAdd, fOp, pCat, fSl, oNone, oSome, fRev, eBM, eBM0, pAppend, pReverse, sSetI, sAug, eIsT, tyN, sFor, wList, wTup, wEnum, wZip, fLc, pIxL, pLen, pList, eBits, Bool.not_true, Bool.not_false, Bool.and_true, Bool.true_and, Bool.and_false, Bool.false_and, Bool.or_true, Bool.true_or, Bool.or_false, Bool.false_or, cond_true, cond_false, Nat.zero_add, Nat.reduceLeDiff, Nat.reduceLT, Int.reduceSub, Int.reduceNeg, Int.reduceAdd, Int.reduceToNat, if_true, ↓reduceIte, and_ret, or_ret, and_retB, or_retB, fin_same, List.length_set, rdQ_lst, rdL_lst, rdS_lst, rdS_tup, rdQ_scr, rdS_scr, vw_lst, vw_tup, pow_12, pow_9, pow_18, pow_29, atI_0, atI_1, atI_2, atI_3, ws_seq, ws_some, nx_nx, app_set, ws_cond, wp_some, endF_rt, endF_nx, endF_ex, cut_same, ixN_lit30, ixN_lit31, ixN_lit32, cond_true, cond_false, List.set_set, ePu, sSetI, pIxL, rdQ_cell (hk1 _), cellL_cell (hk1 _), pMul_r (j := 2147483587) (by omega) (by omega), e]
      exact ⟨_, { p' with c := p'.c + 1 }, _, rfl, rfl, r1, r2, by show 0 ≤ p'.c + 1; omega, by show p'.c + 1 + (l.length : Int) + 3 * (b : Int) ≤ 1125899906842624; omega⟩
    · refine ⟨0, p, none, rfl, ?_, q1, q2, q3, ?_⟩
      · exact (set_same hk).symm
      · rw [rng_len]; omega
theorem law_draw_ok {m : Store} {k b : Nat} {p : Purse} {n : Int} (hk : m[k]? = some (ePu p)) (hp : Pok (b + 1) p) (h0 : 0 < n) (hn : n < 618970019642690137449562112) :
    ∃ i p', f_law_draw [.cell k, .int n] m = ret (.pl (.int i)) (m.set k (ePu p')) ∧ 0 ≤ i ∧ i < n ∧ Pok b p' := by
  obtain ⟨r, m', e, i, p', rfl, rfl, h⟩ := wp_get (law_draw_wp hk hp h0 hn)
  exact ⟨i, p', e, h⟩
noncomputable def e_law_number : MS :=
  (sSeq (sSet 2 (eOp pIxL (dat (fLst (aCons (eC (.int 1)) (aCons (eC (.int 4)) (aCons (eC (.int 30)) (aCons (eVar 1) aNil)))))) (pla (fCall0 f_law_draw (aCons (eVar 0) (aCons (eC (.int 4)) aNil))))))
    (sRet (eOp pSub (pla (fCall0 f_law_draw (aCons (eVar 0) (aCons (eOp pAdd (eOp pMul (eC (.int 2)) (eVar 2)) (eC (.int 1))) aNil)))) (eVar 2))))
noncomputable def f_law_number : FnS := fnOf 2 3 e_law_number
theorem law_number_ok {m : Store} {k b : Nat} {p : Purse} {most : Int} (hk : m[k]? = some (ePu p)) (hp : Pok (b + 2) p) (h0 : 30 ≤ most) (hn : most < 1000000000000000000) :
    ∃ i p', f_law_number [.cell k, .int most] m = ret (.pl (.int i)) (m.set k (ePu p')) ∧ -most ≤ i ∧ i ≤ most ∧ Pok b p' := by
  obtain ⟨i1, p1, e1, h1, h2, hp1⟩ := law_draw_ok (b := b + 1) hk hp (n := 4) (by omega) (by omega)
  have hk1 : (m.set k (ePu p1))[k]? = some (ePu p1) := set_get hk
  obtain ⟨far, hf, hf1, hf2⟩ : ∃ far : Int, L2.atI [D.int 1, .int 4, .int 30, .int most] i1 = some (.int far) ∧ 1 ≤ far ∧ far ≤ most := by
    have : i1 = 0 ∨ i1 = 1 ∨ i1 = 2 ∨ i1 = 3 := by omega
    rcases this with rfl | rfl | rfl | rfl
    · exact ⟨1, rfl, by omega, by omega⟩
    · exact ⟨4, rfl, by omega, by omega⟩
    · exact ⟨30, rfl, by omega, by omega⟩
    · exact ⟨most, rfl, by omega, by omega⟩
  obtain ⟨i2, p2, e2, h3, h4, hp2⟩ := law_draw_ok (b := b) hk1 hp1 (n := 2 * far + 1) (by omega) (by omega)
  refine ⟨i2 - far, p2, ?_, by omega, by omega, hp2⟩
  unfold f_law_number e_law_number
  simp only [fnOf, endF, st, eC, eVar, eOp, eUn, eAnd, eOr, eNot, tst, mAnd, mOr, mNot, mYes, eIf, eChain, aNil, aCons, eTup, eCB, fCB, fLst, dat, cel, pla, FT.dat, F1.dat, FT.cel, celL, sNext, sBreak, sCont, sRetN, sSeq, sAsg, sSet, sExpr, sRet, sIf, sRaise, fCall, fCall0, pAdd, pSub, pLt, pLe, pGt, pGe, pEq, pNe, pIsN, pNotN, pIxT, pNeg, pMax2, pMin2, pMax3, pMin3, bind_ok, bind_ex, sure_ok, run_ok, run_ex, mName, mTup, msNil, msCons, List.length_cons, List.length_nil, List.map_cons, List.map_nil, List.replicate_zero, List.replicate_succ, List.append_nil, List.cons_append, List.nil_append, List.getElem?_cons_zero, List.getElem?_cons_succ, List.set_cons_zero, List.set_cons_succ, Option.bind_some, Option.map_some, Nat.sub_self, Nat.reduceSub, Nat.reduceAdd, fOp, pCat, fSl, oNone, oSome, fRev, eBM, eBM0, pAppend, pReverse, sSetI, sAug, eIsT, tyN, sFor, wList, wTup, wEnum, wZip, fLc, pIxL, pLen, pList, eBits, Bool.not_true, Bool.not_false, Bool.and_true, Bool.true_and, Bool.and_false, Bool.false_and, Bool.or_true, Bool.true_or, Bool.or_false, Bool.false_or, cond_true, cond_false, Nat.zero_add, Nat.reduceLeDiff, Nat.reduceLT, Int.reduceSub, Int.reduceNeg, Int.reduceAdd, Int.reduceToNat, if_true, ↓reduceIte, and_ret, or_ret, and_retB, or_retB, fin_same, List.length_set, rdQ_lst, rdL_lst, rdS_lst, rdS_tup, rdQ_scr, rdS_scr, vw_lst, vw_tup, pow_12, pow_9, pow_18, pow_29, atI_0, atI_1, atI_2, atI_3, pIxL, e1, hf, pMul_l (i := 2) (by omega) (by omega), e2, List.set_set]
noncomputable def e_law_end : MS :=
  (sSeq (sIf (mAnd (tst (eOp pNeD (eVar 1) (dat (fLst aNil)))) (tst (eOp pGt (pla (fCall0 f_law_draw (aCons (eVar 0) (aCons (eC (.int 3)) aNil)))) (eC (.int 0))))) (sSeq (sSet 3 (eOp pSub (eOp pAdd (eOp pIxL (eVar 1) (pla (fCall0 f_law_draw (aCons (eVar 0) (aCons (eCB pLen (aCons (eVar 1) aNil)) aNil))))) (pla (fCall0 f_law_draw (aCons (eVar 0) (aCons (eC (.int 3)) aNil))))) (eC (.int 1))))
    (sRet (eCB pMax2 (aCons (eOp pSub (eC (.int 0)) (eVar 2)) (aCons (eCB pMin2 (aCons (eVar 2) (aCons (eVar 3) aNil))) aNil))))) sNext)
    (sRet (pla (fCall0 f_law_number (aCons (eVar 0) (aCons (eVar 2) aNil))))))
noncomputable def f_law_end : FnS := fnOf 3 4 e_law_end
theorem law_end_ok {m : Store} {k b : Nat} {p : Purse} {d : D} {ends : List Int} {most : Int} (hk : m[k]? = some (ePu p)) (hd : d = .lst (ends.map D.int) ∨ ∃ l, l ≠ k ∧ d = .cell l ∧ m[l]? = some (.lst (ends.map D.int))) (hl : ends.length ≤ 10000) (hp : Pok (b + 3) p) (h0 : 30 ≤ most) (hn : most < 1000000000000000000) :
    ∃ i p', f_law_end [.cell k, d, .int most] m = ret (.pl (.int i)) (m.set k (ePu p')) ∧ -most ≤ i ∧ i ≤ most ∧ Pok b p' := by
  have hv : ∀ c, vw (m.set k c) d = some (.lst (ends.map D.int)) ∧ rdQ (m.set k c) d = some (ends.map D.int) ∧ rdS (m.set k c) d = some (ends.map D.int) := by
    rcases hd with rfl | ⟨l, hl, rfl, h⟩
    · exact fun c => ⟨rfl, rfl, rfl⟩
    · intro c
      have : (m.set k c)[l]? = some (.lst (ends.map D.int)) := by rw [set_get_ne (fun z => hl z.symm)]; exact h
      exact ⟨vw_cell this, rdQ_cell this, rdS_cell this⟩
  have hv0 : vw m d = some (.lst (ends.map D.int)) := by have := (hv (ePu p)).1; rwa [set_same hk] at this
  by_cases he : ends = []
  · subst he
    obtain ⟨i, p1, e1, h1, h2, hp1⟩ := law_number_ok (b := b) hk (hp.mono (by omega)) h0 hn
    refine ⟨i, p1, ?_, h1, h2, hp1⟩
    unfold f_law_end e_law_end
    simp only [fnOf, endF, st, eC, eVar, eOp, eUn, eAnd, eOr, eNot, tst, mAnd, mOr, mNot, mYes, eIf, eChain, aNil, aCons, eTup, eCB, fCB, fLst, dat, cel, pla, FT.dat, F1.dat, FT.cel, celL, sNext, sBreak, sCont, sRetN, sSeq, sAsg, sSet, sExpr, sRet, sIf, sRaise, fCall, fCall0, pAdd, pSub, pLt, pLe, pGt, pGe, pEq, pNe, pIsN, pNotN, pIxT, pNeg, pMax2, pMin2, pMax3, pMin3, bind_ok, bind_ex, sure_ok, run_ok, run_ex, mName, mTup, msNil, msCons, List.length_cons, List.length_nil, List.map_cons, List.map_nil, List.replicate_zero, List.replicate_succ, List.append_nil, List.cons_append, List.nil_append, List.getElem?_cons_zero, List.getElem?_cons_succ, List.set_cons_zero, List.set_cons_succ, Option.bind_some, Option.map_some, Nat.sub_self, Nat.reduceSub, Nat.reduceAdd, fOp, pCat, fSl, oNone, oSome, fRev, eBM, eBM0, pAppend, pReverse, sSetI, sAug, eIsT, tyN, sFor, wList, wTup, wEnum, wZip, fLc, pIxL, pLen, pList, eBits, Bool.not_true, Bool.not_false, Bool.and_true, Bool.true_and, Bool.and_false, Bool.false_and, Bool.or_true, Bool.true_or, Bool.or_false, Bool.false_or, cond_true, cond_false, Nat.zero_add, Nat.reduceLeDiff, Nat.reduceLT, Int.reduceSub, Int.reduceNeg, Int.reduceAdd, Int.reduceToNat, if_true, ↓reduceIte, and_ret, or_ret, and_retB, or_retB, fin_same, List.length_set, rdQ_lst, rdL_lst, rdS_lst, rdS_tup, rdQ_scr, rdS_scr, vw_lst, vw_tup, pow_12, pow_9, pow_18, pow_29, atI_0, atI_1, atI_2, atI_3, pNeD_nil hv0 sh_ints, List.isEmpty_nil, Bool.not_true, cond_false, e1]
  · have hne : (ends.map D.int).isEmpty = false := by rw [isEmpty_map]; cases ends <;> first | rfl | exact absurd rfl he
    obtain ⟨i1, p1, e1, h1, h2, hp1⟩ := law_draw_ok (b := b + 2) hk hp (n := 3) (by omega) (by omega)
    have hk1 : (m.set k (ePu p1))[k]? = some (ePu p1) := set_get hk
    by_cases hz : 0 < i1
    · have hpos : 0 < ends.length := List.length_pos_iff.mpr he
      obtain ⟨i2, p2, e2, h3, h4, hp2⟩ := law_draw_ok (b := b + 1) hk1 hp1 (n := (ends.length : Int)) (by omega) (by omega)
      have hk2 : (m.set k (ePu p2))[k]? = some (ePu p2) := set_get hk
      rw [List.set_set] at e2
      obtain ⟨i3, p3, e3, h5, h6, hp3⟩ := law_draw_ok (b := b) hk2 hp2 (n := 3) (by omega) (by omega)
      rw [List.set_set] at e3
      have hx : L2.atI (ends.map D.int) i2 = some (.int (ends.getD i2.toNat 0)) := atI_map (atI_getD 0 h3 h4)
      refine ⟨max (0 - most) (min most (ends.getD i2.toNat 0 + i3 - 1)), p3, ?_, by omega, by omega, hp3⟩
      unfold f_law_end e_law_end
      simp only [fnOf, endF, st, eC, eVar, eOp, eUn, eAnd, eOr, eNot, tst, mAnd, mOr, mNot, mYes, eIf, eChain, aNil, aCons, eTup, eCB, fCB, fLst, dat, cel, pla, FT.dat, F1.dat, FT.cel, celL, sNext, sBreak, sCont, sRetN, sSeq, sAsg, sSet, sExpr, sRet, sIf, sRaise, fCall, fCall0, pAdd, pSub, pLt, pLe, pGt, pGe, pEq, pNe, pIsN, pNotN, pIxT, pNeg, pMax2, pMin2, pMax3, pMin3, bind_ok, bind_ex, sure_ok, run_ok, run_ex, mName, mTup, msNil, msCons, List.length_cons, List.length_nil, List.map_cons, List.map_nil, List.replicate_zero, List.replicate_succ, List.append_nil, List.cons_append, List.nil_append, List.getElem?_cons_zero, List.getElem?_cons_succ, List.set_cons_zero, List.set_cons_succ, Option.bind_some, Option.map_some, Nat.sub_self, Nat.reduceSub, Nat.reduceAdd, fOp, pCat, fSl, oNone, oSome, fRev, eBM, eBM0, pAppend, pReverse, sSetI, sAug, eIsT, tyN, sFor, wList, wTup, wEnum, wZip, fLc, pIxL, pLen, pList, eBits, Bool.not_true, Bool.not_false, Bool.and_true, Bool.true_and, Bool.and_false, Bool.false_and, Bool.or_true, Bool.true_or, Bool.or_false, Bool.false_or, cond_true, cond_false, Nat.zero_add, Nat.reduceLeDiff, Nat.reduceLT, Int.reduceSub, Int.reduceNeg, Int.reduceAdd, Int.reduceToNat, if_true, ↓reduceIte, and_ret, or_ret, and_retB, or_retB, fin_same, List.length_set, rdQ_lst, rdL_lst, rdS_lst, rdS_tup, rdQ_scr, rdS_scr, vw_lst, vw_tup, pow_12, pow_9, pow_18, pow_29, atI_0, atI_1, atI_2, atI_3, pNeD_nil hv0 sh_ints, hne, Bool.not_false, cond_true, e1, decide_eq_true hz, pIxL, pLen, (hv _).2.1, (hv _).2.2, List.length_map, e2, hx, e3]
    · obtain ⟨i2, p2, e2, h3, h4, hp2⟩ := law_number_ok (b := b) hk1 hp1 h0 hn
      rw [List.set_set] at e2
      refine ⟨i2, p2, ?_, h3, h4, hp2⟩
      unfold f_law_end e_law_end
      simp only [fnOf, endF, st, eC, eVar, eOp, eUn, eAnd, eOr, eNot, tst, mAnd, mOr, mNot, mYes, eIf, eChain, aNil, aCons, eTup, eCB, fCB, fLst, dat, cel, pla, FT.dat, F1.dat, FT.cel, celL, sNext, sBreak, sCont, sRetN, sSeq, sAsg, sSet, sExpr, sRet, sIf, sRaise, fCall, fCall0, pAdd, pSub, pLt, pLe, pGt, pGe, pEq, pNe, pIsN, pNotN, pIxT, pNeg, pMax2, pMin2, pMax3, pMin3, bind_ok, bind_ex, sure_ok, run_ok, run_ex, mName, mTup, msNil, msCons, List.length_cons, List.length_nil, List.map_cons, List.map_nil, List.replicate_zero, List.replicate_succ, List.append_nil, List.cons_append, List.nil_append, List.getElem?_cons_zero, List.getElem?_cons_succ, List.set_cons_zero, List.set_cons_succ, Option.bind_some, Option.map_some, Nat.sub_self, Nat.reduceSub, Nat.reduceAdd, fOp, pCat, fSl, oNone, oSome, fRev, eBM, eBM0, pAppend, pReverse, sSetI, sAug, eIsT, tyN, sFor, wList, wTup, wEnum, wZip, fLc, pIxL, pLen, pList, eBits, Bool.not_true, Bool.not_false, Bool.and_true, Bool.true_and, Bool.and_false, Bool.false_and, Bool.or_true, Bool.true_or, Bool.or_false, Bool.false_or, cond_true, cond_false, Nat.zero_add, Nat.reduceLeDiff, Nat.reduceLT, Int.reduceSub, Int.reduceNeg, Int.reduceAdd, Int.reduceToNat, if_true, ↓reduceIte, and_ret, or_ret, and_retB, or_retB, fin_same, List.length_set, rdQ_lst, rdL_lst, rdS_lst, rdS_tup, rdQ_scr, rdS_scr, vw_lst, vw_tup, pow_12, pow_9, pow_18, pow_29, atI_0, atI_1, atI_2, atI_3, pNeD_nil hv0 sh_ints, hne, Bool.not_false, cond_true, e1, decide_eq_false hz, cond_false, e2]
theorem rng_0 {n : Nat} : rng 0 n = (List.range n).map fun i : Nat => D.int (i : Int) := by
  unfold rng
  exact List.map_congr_left fun i _ => by rw [Int.zero_add]
theorem rng_a {a n : Nat} : rng (a : Int) n = (List.range' a n).map fun i : Nat => D.int (i : Int) := by
  unfold rng
  rw [List.range'_eq_map_range, List.map_map]
  exact List.map_congr_left fun i _ => by show D.int _ = D.int _; congr 1
theorem atI_d {α : Type} {l : List α} {i : Nat} (d : α) (h : i < l.length) : L2.atI l (i : Int) = some (l.getD i d) := by
  have := atI_getD (xs := l) (i := (i : Int)) d (by omega) (by omega)
  simpa using this
noncomputable def e_law_right_4 : MS :=
  (sSeq (sFor (wList (eVar 0)) (mName 2)
    (sSeq (sIf (mOr (mNot (tst (eIsX kinds "ShelfError" (eVar 2)))) (mNot (tst (eIsX kinds "ValueError" (eVar 2))))) (sRet (eC (.bl false))) sNext)
    (sIf (tst (eOp pNeD (dat (fCall0 f_law_sorts (aCons (eVar 2) aNil))) (dat (fLc (wRng1 (aCons (eC (.int 12)) aNil)) (mName 3) mYes (eOp pEq (eVar 3) (eVar 1)) [3])))) (sRet (eC (.bl false))) sNext)))
    (sRet (eC (.bl true))))
noncomputable def f_law_right_4 : FnS := fnOf 2 4 e_law_right_4
theorem sort_row {x : Str} {k : Nat} (h : (x = "ShelfError" ∧ k = 12) ∨ (x ∈ kinds ∧ kinds.idxOf x = k)) : (kinds.map fun c => isXk c x) = (List.range 12).map fun i : Nat => decide ((i : Int) = (k : Int)) := by
  rcases h with ⟨rfl, rfl⟩ | ⟨h, rfl⟩
  · decide
  · simp [kinds] at h
    rcases h with rfl | rfl | rfl | rfl | rfl | rfl | rfl | rfl | rfl | rfl | rfl | rfl <;> decide
theorem law_right_4_eq {m : Store} {xs : List Str} {k : Nat} (h : ∀ x ∈ xs, (x = "ShelfError" ∧ k = 12) ∨ (x ∈ kinds ∧ kinds.idxOf x = k)) : f_law_right_4 [.lst (xs.map D.exc), .int (k : Int)] m = ret (.pl (.bl true)) m := by
  apply eq_of_wp
  unfold f_law_right_4 e_law_right_4
  refine wp_fnI rfl ?_
  simp only [st, eC, eVar, eOp, eUn, eAnd, eOr, eNot, tst, mAnd, mOr, mNot, mYes, eIf, eChain, aNil, aCons, eTup, eCB, fCB, fLst, dat, cel, pla, FT.dat, F1.dat, FT.cel, celL, sNext, sBreak, sCont, sRetN, sAsg, sSet, sExpr, sRet, sIf, sRaise, fCall, fCall0, pAdd, pSub, pLt, pLe, pGt, pGe, pEq, pNe, pIsN, pNotN, pIxT, pNeg, pMax2, pMin2, pMax3, pMin3, bind_ok, bind_ex, sure_ok, run_ok, run_ex, mName, mTup, msNil, msCons, List.length_cons, List.length_nil, List.map_cons, List.map_nil, List.replicate_zero, List.replicate_succ, List.append_nil, List.cons_append, List.nil_append, List.getElem?_cons_zero, List.getElem?_cons_succ, List.set_cons_zero, List.set_cons_succ, Option.bind_some, Option.map_some, Nat.sub_self, Nat.reduceSub, Nat.reduceAdd, fOp, pCat, fSl, oNone, oSome, fRev, eBM, eBM0, pAppend, pReverse, sSetI, sAug, eIsT, tyN, sFor, wList, wTup, wEnum, wZip, fLc, pIxL, pLen, pList, eBits, Bool.not_true, Bool.not_false, Bool.and_true, Bool.true_and, Bool.and_false, Bool.false_and, Bool.or_true, Bool.true_or, Bool.or_false, Bool.false_or, cond_true, cond_false, Nat.zero_add, Nat.reduceLeDiff, Nat.reduceLT, Int.reduceSub, Int.reduceNeg, Int.reduceAdd, Int.reduceToNat, if_true, ↓reduceIte, and_ret, or_ret, and_retB, or_retB, fin_same, List.length_set, rdQ_lst, rdL_lst, rdS_lst, rdS_tup, rdQ_scr, rdS_scr, vw_lst, vw_tup, pow_12, pow_9, pow_18, pow_29, atI_0, atI_1, atI_2, atI_3, ws_seq, ws_some, nx_nx, app_set, ws_cond, wp_some, endF_rt, endF_nx, endF_ex, cut_same, ixN_lit30, ixN_lit31, ixN_lit32, cond_true, cond_false, List.set_set, srcOf_lst]
  refine ws_mono (forT (en := D.exc) (I := fun l δ m' => (∀ x ∈ l, (x = "ShelfError" ∧ k = 12) ∨ (x ∈ kinds ∧ kinds.idxOf x = k)) ∧ m' = m ∧ ∃ z2, δ = [some (.lst (xs.map D.exc)), some (.int (k : Int)), z2, none]) (fun _ _ _ _ => chk_nil) ?_ (l := xs) ⟨h, rfl, _, rfl⟩) ?_
  · rintro x l δ m' ⟨hx, rfl, z2, rfl⟩
    refine ⟨_, rfl, ?_⟩
    have hk := hx x List.mem_cons_self
    have hx2 : x = "ShelfError" ∨ x ∈ kinds := hk.elim (fun z => .inl z.1) (fun z => .inr z.1)
    have hr : Rg62 12 := rg62 (by omega) (by omega)
    simp only [st, eC, eVar, eOp, eUn, eAnd, eOr, eNot, tst, mAnd, mOr, mNot, mYes, eIf, eChain, aNil, aCons, eTup, eCB, fCB, fLst, dat, cel, pla, FT.dat, F1.dat, FT.cel, celL, sNext, sBreak, sCont, sRetN, sAsg, sSet, sExpr, sRet, sIf, sRaise, fCall, fCall0, pAdd, pSub, pLt, pLe, pGt, pGe, pEq, pNe, pIsN, pNotN, pIxT, pNeg, pMax2, pMin2, pMax3, pMin3, bind_ok, bind_ex, sure_ok, run_ok, run_ex, mName, mTup, msNil, msCons, List.length_cons, List.length_nil, List.map_cons, List.map_nil, List.replicate_zero, List.replicate_succ, List.append_nil, List.cons_append, List.nil_append, List.getElem?_cons_zero, List.getElem?_cons_succ, List.set_cons_zero, List.set_cons_succ, Option.bind_some, Option.map_some, Nat.sub_self, Nat.reduceSub, Nat.reduceAdd, fOp, pCat, fSl, oNone, oSome, fRev, eBM, eBM0, pAppend, pReverse, sSetI, sAug, eIsT, tyN, sFor, wList, wTup, wEnum, wZip, fLc, pIxL, pLen, pList, eBits, Bool.not_true, Bool.not_false, Bool.and_true, Bool.true_and, Bool.and_false, Bool.false_and, Bool.or_true, Bool.true_or, Bool.or_false, Bool.false_or, cond_true, cond_false, Nat.zero_add, Nat.reduceLeDiff, Nat.reduceLT, Int.reduceSub, Int.reduceNeg, Int.reduceAdd, Int.reduceToNat, if_true, ↓reduceIte, and_ret, or_ret, and_retB, or_retB, fin_same, List.length_set, rdQ_lst, rdL_lst, rdS_lst, rdS_tup, rdQ_scr, rdS_scr, vw_lst, vw_tup, pow_12, pow_9, pow_18, pow_29, atI_0, atI_1, atI_2, atI_3, ws_seq, ws_some, nx_nx, app_set, ws_cond, wp_some, endF_rt, endF_nx, endF_ex, cut_same, ixN_lit30, ixN_lit31, ixN_lit32, cond_true, cond_false, List.set_set, eIsX, hx2, isXk_up, isXk_ve, if_true, law_sorts_eq _ hx2, wRng1, hr, rng_len, wipeE, Nat.reduceLT, show Int.toNat 12 = 12 from rfl]
    rw [rng_0, lcM_map (en := fun i : Nat => D.int (i : Int)) (f := fun i : Nat => D.bl (decide ((i : Int) = (k : Int)))) chk_nil (List.range 12) fun i _ => ⟨[some (.lst (xs.map D.exc)), some (.int (k : Int)), some (.exc x), some (.int (i : Int))], rfl, by simp only [fnOf, endF, st, eC, eVar, eOp, eUn, eAnd, eOr, eNot, tst, mAnd, mOr, mNot, mYes, eIf, eChain, aNil, aCons, eTup, eCB, fCB, fLst, dat, cel, pla, FT.dat, F1.dat, FT.cel, celL, sNext, sBreak, sCont, sRetN, sSeq, sAsg, sSet, sExpr, sRet, sIf, sRaise, fCall, fCall0, pAdd, pSub, pLt, pLe, pGt, pGe, pEq, pNe, pIsN, pNotN, pIxT, pNeg, pMax2, pMin2, pMax3, pMin3, bind_ok, bind_ex, sure_ok, run_ok, run_ex, mName, mTup, msNil, msCons, List.length_cons, List.length_nil, List.map_cons, List.map_nil, List.replicate_zero, List.replicate_succ, List.append_nil, List.cons_append, List.nil_append, List.getElem?_cons_zero, List.getElem?_cons_succ, List.set_cons_zero, List.set_cons_succ, Option.bind_some, Option.map_some, Nat.sub_self, Nat.reduceSub, Nat.reduceAdd, fOp, pCat, fSl, oNone, oSome, fRev, eBM, eBM0, pAppend, pReverse, sSetI, sAug, eIsT, tyN, sFor, wList, wTup, wEnum, wZip, fLc, pIxL, pLen, pList, eBits, Bool.not_true, Bool.not_false, Bool.and_true, Bool.true_and, Bool.and_false, Bool.false_and, Bool.or_true, Bool.true_or, Bool.or_false, Bool.false_or, cond_true, cond_false, Nat.zero_add, Nat.reduceLeDiff, Nat.reduceLT, Int.reduceSub, Int.reduceNeg, Int.reduceAdd, Int.reduceToNat, if_true, ↓reduceIte, and_ret, or_ret, and_retB, or_retB, fin_same, List.length_set, rdQ_lst, rdL_lst, rdS_lst, rdS_tup, rdQ_scr, rdS_scr, vw_lst, vw_tup, pow_12, pow_9, pow_18, pow_29, atI_0, atI_1, atI_2, atI_3]⟩]
    have e : (kinds.map fun c => isXk c x).map D.bl = (List.range 12).map fun i : Nat => D.bl (decide ((i : Int) = (k : Int))) := by rw [sort_row hk, List.map_map]; rfl
    have hs : Sh 60 (.lst ((List.range 12).map fun i : Nat => D.bl (decide ((i : Int) = (k : Int))))) := Sh.map (f := fun i : Nat => D.bl (decide ((i : Int) = (k : Int)))) fun _ => sh_bl
    simp only [st, eC, eVar, eOp, eUn, eAnd, eOr, eNot, tst, mAnd, mOr, mNot, mYes, eIf, eChain, aNil, aCons, eTup, eCB, fCB, fLst, dat, cel, pla, FT.dat, F1.dat, FT.cel, celL, sNext, sBreak, sCont, sRetN, sAsg, sSet, sExpr, sRet, sIf, sRaise, fCall, fCall0, pAdd, pSub, pLt, pLe, pGt, pGe, pEq, pNe, pIsN, pNotN, pIxT, pNeg, pMax2, pMin2, pMax3, pMin3, bind_ok, bind_ex, sure_ok, run_ok, run_ex, mName, mTup, msNil, msCons, List.length_cons, List.length_nil, List.map_cons, List.map_nil, List.replicate_zero, List.replicate_succ, List.append_nil, List.cons_append, List.nil_append, List.getElem?_cons_zero, List.getElem?_cons_succ, List.set_cons_zero, List.set_cons_succ, Option.bind_some, Option.map_some, Nat.sub_self, Nat.reduceSub, Nat.reduceAdd, fOp, pCat, fSl, oNone, oSome, fRev, eBM, eBM0, pAppend, pReverse, sSetI, sAug, eIsT, tyN, sFor, wList, wTup, wEnum, wZip, fLc, pIxL, pLen, pList, eBits, Bool.not_true, Bool.not_false, Bool.and_true, Bool.true_and, Bool.and_false, Bool.false_and, Bool.or_true, Bool.true_or, Bool.or_false, Bool.false_or, cond_true, cond_false, Nat.zero_add, Nat.reduceLeDiff, Nat.reduceLT, Int.reduceSub, Int.reduceNeg, Int.reduceAdd, Int.reduceToNat, if_true, ↓reduceIte, and_ret, or_ret, and_retB, or_retB, fin_same, List.length_set, rdQ_lst, rdL_lst, rdS_lst, rdS_tup, rdQ_scr, rdS_scr, vw_lst, vw_tup, pow_12, pow_9, pow_18, pow_29, atI_0, atI_1, atI_2, atI_3, ws_seq, ws_some, nx_nx, app_set, ws_cond, wp_some, endF_rt, endF_nx, endF_ex, cut_same, ixN_lit30, ixN_lit31, ixN_lit32, cond_true, cond_false, List.set_set, e, ne_self vw_lst vw_lst hs]
    exact ⟨fun y hy => hx y (List.mem_cons_of_mem _ hy), by trivial, _, rfl⟩
  · rintro o ⟨δ, m', rfl, _, rfl, z2, rfl⟩
    simp only [st, eC, eVar, eOp, eUn, eAnd, eOr, eNot, tst, mAnd, mOr, mNot, mYes, eIf, eChain, aNil, aCons, eTup, eCB, fCB, fLst, dat, cel, pla, FT.dat, F1.dat, FT.cel, celL, sNext, sBreak, sCont, sRetN, sAsg, sSet, sExpr, sRet, sIf, sRaise, fCall, fCall0, pAdd, pSub, pLt, pLe, pGt, pGe, pEq, pNe, pIsN, pNotN, pIxT, pNeg, pMax2, pMin2, pMax3, pMin3, bind_ok, bind_ex, sure_ok, run_ok, run_ex, mName, mTup, msNil, msCons, List.length_cons, List.length_nil, List.map_cons, List.map_nil, List.replicate_zero, List.replicate_succ, List.append_nil, List.cons_append, List.nil_append, List.getElem?_cons_zero, List.getElem?_cons_succ, List.set_cons_zero, List.set_cons_succ, Option.bind_some, Option.map_some, Nat.sub_self, Nat.reduceSub, Nat.reduceAdd, fOp, pCat, fSl, oNone, oSome, fRev, eBM, eBM0, pAppend, pReverse, sSetI, sAug, eIsT, tyN, sFor, wList, wTup, wEnum, wZip, fLc, pIxL, pLen, pList, eBits, Bool.not_true, Bool.not_false, Bool.and_true, Bool.true_and, Bool.and_false, Bool.false_and, Bool.or_true, Bool.true_or, Bool.or_false, Bool.false_or, cond_true, cond_false, Nat.zero_add, Nat.reduceLeDiff, Nat.reduceLT, Int.reduceSub, Int.reduceNeg, Int.reduceAdd, Int.reduceToNat, if_true, ↓reduceIte, and_ret, or_ret, and_retB, or_retB, fin_same, List.length_set, rdQ_lst, rdL_lst, rdS_lst, rdS_tup, rdQ_scr, rdS_scr, vw_lst, vw_tup, pow_12, pow_9, pow_18, pow_29, atI_0, atI_1, atI_2, atI_3, ws_seq, ws_some, nx_nx, app_set, ws_cond, wp_some, endF_rt, endF_nx, endF_ex, cut_same, ixN_lit30, ixN_lit31, ixN_lit32, cond_true, cond_false, List.set_set]
    exact ⟨by trivial, by trivial⟩
noncomputable def e_is_place : MS :=
  (sRet (eChain pLt pLt (eOp pSub (eC (.int 0)) (eC (.int 1000000000000))) (eVar 0) (eC (.int 1000000000000))))
noncomputable def f_is_place : FnS := fnOf 1 1 e_is_place
theorem is_place_eq (i : Int) (m : Store) : f_is_place [.int i] m = ret (.pl (.bl (isPlace i))) m := by
  unfold f_is_place e_is_place isPlace
  simp only [fnOf, endF, st, eC, eVar, eOp, eUn, eAnd, eOr, eNot, tst, mAnd, mOr, mNot, mYes, eIf, eChain, aNil, aCons, eTup, eCB, fCB, fLst, dat, cel, pla, FT.dat, F1.dat, FT.cel, celL, sNext, sBreak, sCont, sRetN, sSeq, sAsg, sSet, sExpr, sRet, sIf, sRaise, fCall, fCall0, pAdd, pSub, pLt, pLe, pGt, pGe, pEq, pNe, pIsN, pNotN, pIxT, pNeg, pMax2, pMin2, pMax3, pMin3, bind_ok, bind_ex, sure_ok, run_ok, run_ex, mName, mTup, msNil, msCons, List.length_cons, List.length_nil, List.map_cons, List.map_nil, List.replicate_zero, List.replicate_succ, List.append_nil, List.cons_append, List.nil_append, List.getElem?_cons_zero, List.getElem?_cons_succ, List.set_cons_zero, List.set_cons_succ, Option.bind_some, Option.map_some, Nat.sub_self, Nat.reduceSub, Nat.reduceAdd, fOp, pCat, fSl, oNone, oSome, fRev, eBM, eBM0, pAppend, pReverse, sSetI, sAug, eIsT, tyN, sFor, wList, wTup, wEnum, wZip, fLc, pIxL, pLen, pList, eBits, Bool.not_true, Bool.not_false, Bool.and_true, Bool.true_and, Bool.and_false, Bool.false_and, Bool.or_true, Bool.true_or, Bool.or_false, Bool.false_or, cond_true, cond_false, Nat.zero_add, Nat.reduceLeDiff, Nat.reduceLT, Int.reduceSub, Int.reduceNeg, Int.reduceAdd, Int.reduceToNat, if_true, ↓reduceIte, and_ret, or_ret, and_retB, or_retB, fin_same, List.length_set, rdQ_lst, rdL_lst, rdS_lst, rdS_tup, rdQ_scr, rdS_scr, vw_lst, vw_tup, pow_12, pow_9, pow_18, pow_29, atI_0, atI_1, atI_2, atI_3]
noncomputable def e_is_span : MS :=
  (sRet (eAnd (pla (fCall0 f_is_place (aCons (eOp pIxT (eVar 0) (eC (.int 0))) aNil))) (eAnd (pla (fCall0 f_is_place (aCons (eOp pIxT (eVar 0) (eC (.int 1))) aNil))) (eOp pLt (eOp pIxT (eVar 0) (eC (.int 0))) (eOp pIxT (eVar 0) (eC (.int 1)))))))
noncomputable def f_is_span : FnS := fnOf 1 1 e_is_span
theorem is_span_eq (s : Sp2) (m : Store) : f_is_span [eS s] m = ret (.pl (.bl (isSpan s))) m := by
  unfold f_is_span e_is_span isSpan eS
  simp only [fnOf, endF, st, eC, eVar, eOp, eUn, eAnd, eOr, eNot, tst, mAnd, mOr, mNot, mYes, eIf, eChain, aNil, aCons, eTup, eCB, fCB, fLst, dat, cel, pla, FT.dat, F1.dat, FT.cel, celL, sNext, sBreak, sCont, sRetN, sSeq, sAsg, sSet, sExpr, sRet, sIf, sRaise, fCall, fCall0, pAdd, pSub, pLt, pLe, pGt, pGe, pEq, pNe, pIsN, pNotN, pIxT, pNeg, pMax2, pMin2, pMax3, pMin3, bind_ok, bind_ex, sure_ok, run_ok, run_ex, mName, mTup, msNil, msCons, List.length_cons, List.length_nil, List.map_cons, List.map_nil, List.replicate_zero, List.replicate_succ, List.append_nil, List.cons_append, List.nil_append, List.getElem?_cons_zero, List.getElem?_cons_succ, List.set_cons_zero, List.set_cons_succ, Option.bind_some, Option.map_some, Nat.sub_self, Nat.reduceSub, Nat.reduceAdd, fOp, pCat, fSl, oNone, oSome, fRev, eBM, eBM0, pAppend, pReverse, sSetI, sAug, eIsT, tyN, sFor, wList, wTup, wEnum, wZip, fLc, pIxL, pLen, pList, eBits, Bool.not_true, Bool.not_false, Bool.and_true, Bool.true_and, Bool.and_false, Bool.false_and, Bool.or_true, Bool.true_or, Bool.or_false, Bool.false_or, cond_true, cond_false, Nat.zero_add, Nat.reduceLeDiff, Nat.reduceLT, Int.reduceSub, Int.reduceNeg, Int.reduceAdd, Int.reduceToNat, if_true, ↓reduceIte, and_ret, or_ret, and_retB, or_retB, fin_same, List.length_set, rdQ_lst, rdL_lst, rdS_lst, rdS_tup, rdQ_scr, rdS_scr, vw_lst, vw_tup, pow_12, pow_9, pow_18, pow_29, atI_0, atI_1, atI_2, atI_3, is_place_eq]
noncomputable def e_must_span : MS :=
  (sIf (mNot (tst (pla (fCall0 f_is_span (aCons (eVar 0) aNil))))) (sRaise "NoSpan") sNext)
noncomputable def f_must_span : FnS := fnOf 1 1 e_must_span
theorem must_span_eq (s : Sp2) (m : Store) : f_must_span [eS s] m = if isSpan s = true then ret (.pl .non) m else some (.ex "NoSpan", m) := by
  unfold f_must_span e_must_span
  simp only [fnOf, endF, st, eC, eVar, eOp, eUn, eAnd, eOr, eNot, tst, mAnd, mOr, mNot, mYes, eIf, eChain, aNil, aCons, eTup, eCB, fCB, fLst, dat, cel, pla, FT.dat, F1.dat, FT.cel, celL, sNext, sBreak, sCont, sRetN, sSeq, sAsg, sSet, sExpr, sRet, sIf, sRaise, fCall, fCall0, pAdd, pSub, pLt, pLe, pGt, pGe, pEq, pNe, pIsN, pNotN, pIxT, pNeg, pMax2, pMin2, pMax3, pMin3, bind_ok, bind_ex, sure_ok, run_ok, run_ex, mName, mTup, msNil, msCons, List.length_cons, List.length_nil, List.map_cons, List.map_nil, List.replicate_zero, List.replicate_succ, List.append_nil, List.cons_append, List.nil_append, List.getElem?_cons_zero, List.getElem?_cons_succ, List.set_cons_zero, List.set_cons_succ, Option.bind_some, Option.map_some, Nat.sub_self, Nat.reduceSub, Nat.reduceAdd, fOp, pCat, fSl, oNone, oSome, fRev, eBM, eBM0, pAppend, pReverse, sSetI, sAug, eIsT, tyN, sFor, wList, wTup, wEnum, wZip, fLc, pIxL, pLen, pList, eBits, Bool.not_true, Bool.not_false, Bool.and_true, Bool.true_and, Bool.and_false, Bool.false_and, Bool.or_true, Bool.true_or, Bool.or_false, Bool.false_or, cond_true, cond_false, Nat.zero_add, Nat.reduceLeDiff, Nat.reduceLT, Int.reduceSub, Int.reduceNeg, Int.reduceAdd, Int.reduceToNat, if_true, ↓reduceIte, and_ret, or_ret, and_retB, or_retB, fin_same, List.length_set, rdQ_lst, rdL_lst, rdS_lst, rdS_tup, rdQ_scr, rdS_scr, vw_lst, vw_tup, pow_12, pow_9, pow_18, pow_29, atI_0, atI_1, atI_2, atI_3, is_span_eq]
  cases isSpan s <;> simp [fin_same, cutS]
noncomputable def e_length_of : MS :=
  (sSeq (sExpr (pla (fCall f_must_span (aCons (eVar 0) aNil))))
    (sRet (eOp pSub (eOp pIxT (eVar 0) (eC (.int 1))) (eOp pIxT (eVar 0) (eC (.int 0))))))
noncomputable def f_length_of : FnS := fnOf 1 1 e_length_of
theorem length_of_eq (a : Sp2) (m : Store) : f_length_of [eS a] m = if isSpan a = true then ret (.pl (.int (a.2 - a.1))) m else some (.ex "NoSpan", m) := by
  unfold f_length_of e_length_of
  simp only [fnOf, endF, st, eC, eVar, eOp, eUn, eAnd, eOr, eNot, tst, mAnd, mOr, mNot, mYes, eIf, eChain, aNil, aCons, eTup, eCB, fCB, fLst, dat, cel, pla, FT.dat, F1.dat, FT.cel, celL, sNext, sBreak, sCont, sRetN, sSeq, sAsg, sSet, sExpr, sRet, sIf, sRaise, fCall, fCall0, pAdd, pSub, pLt, pLe, pGt, pGe, pEq, pNe, pIsN, pNotN, pIxT, pNeg, pMax2, pMin2, pMax3, pMin3, bind_ok, bind_ex, sure_ok, run_ok, run_ex, mName, mTup, msNil, msCons, List.length_cons, List.length_nil, List.map_cons, List.map_nil, List.replicate_zero, List.replicate_succ, List.append_nil, List.cons_append, List.nil_append, List.getElem?_cons_zero, List.getElem?_cons_succ, List.set_cons_zero, List.set_cons_succ, Option.bind_some, Option.map_some, Nat.sub_self, Nat.reduceSub, Nat.reduceAdd, fOp, pCat, fSl, oNone, oSome, fRev, eBM, eBM0, pAppend, pReverse, sSetI, sAug, eIsT, tyN, sFor, wList, wTup, wEnum, wZip, fLc, pIxL, pLen, pList, eBits, Bool.not_true, Bool.not_false, Bool.and_true, Bool.true_and, Bool.and_false, Bool.false_and, Bool.or_true, Bool.true_or, Bool.or_false, Bool.false_or, cond_true, cond_false, Nat.zero_add, Nat.reduceLeDiff, Nat.reduceLT, Int.reduceSub, Int.reduceNeg, Int.reduceAdd, Int.reduceToNat, if_true, ↓reduceIte, and_ret, or_ret, and_retB, or_retB, fin_same, List.length_set, rdQ_lst, rdL_lst, rdS_lst, rdS_tup, rdQ_scr, rdS_scr, vw_lst, vw_tup, pow_12, pow_9, pow_18, pow_29, atI_0, atI_1, atI_2, atI_3, must_span_eq]
  cases isSpan a <;> simp only [fnOf, endF, st, eC, eVar, eOp, eUn, eAnd, eOr, eNot, tst, mAnd, mOr, mNot, mYes, eIf, eChain, aNil, aCons, eTup, eCB, fCB, fLst, dat, cel, pla, FT.dat, F1.dat, FT.cel, celL, sNext, sBreak, sCont, sRetN, sSeq, sAsg, sSet, sExpr, sRet, sIf, sRaise, fCall, fCall0, pAdd, pSub, pLt, pLe, pGt, pGe, pEq, pNe, pIsN, pNotN, pIxT, pNeg, pMax2, pMin2, pMax3, pMin3, bind_ok, bind_ex, sure_ok, run_ok, run_ex, mName, mTup, msNil, msCons, List.length_cons, List.length_nil, List.map_cons, List.map_nil, List.replicate_zero, List.replicate_succ, List.append_nil, List.cons_append, List.nil_append, List.getElem?_cons_zero, List.getElem?_cons_succ, List.set_cons_zero, List.set_cons_succ, Option.bind_some, Option.map_some, Nat.sub_self, Nat.reduceSub, Nat.reduceAdd, fOp, pCat, fSl, oNone, oSome, fRev, eBM, eBM0, pAppend, pReverse, sSetI, sAug, eIsT, tyN, sFor, wList, wTup, wEnum, wZip, fLc, pIxL, pLen, pList, eBits, Bool.not_true, Bool.not_false, Bool.and_true, Bool.true_and, Bool.and_false, Bool.false_and, Bool.or_true, Bool.true_or, Bool.or_false, Bool.false_or, cond_true, cond_false, Nat.zero_add, Nat.reduceLeDiff, Nat.reduceLT, Int.reduceSub, Int.reduceNeg, Int.reduceAdd, Int.reduceToNat, if_true, ↓reduceIte, and_ret, or_ret, and_retB, or_retB, fin_same, List.length_set, rdQ_lst, rdL_lst, rdS_lst, rdS_tup, rdQ_scr, rdS_scr, vw_lst, vw_tup, pow_12, pow_9, pow_18, pow_29, atI_0, atI_1, atI_2, atI_3, eS, cut_same, Bool.false_eq_true]
noncomputable def e_law_caught_4 : MS :=
  (sSeq (sSet 1 (eC .non))
    (sSeq (sTry kinds 2 1 (sExpr (pla (fCall f_length_of (aCons (eTup (aCons (eVar 0) (aCons (eVar 0) aNil))) aNil)))))
    (sRet (cel (fLst (aCons (eVar 1) aNil))))))
noncomputable def f_law_caught_4 : FnS := fnOf 1 3 e_law_caught_4
theorem law_caught_4_eq {m : Store} (i : Int) : f_law_caught_4 [.int i] m = ret (.own [.exc "NoSpan"]) m := by
  have h : isSpan (i, i) = false := by unfold isSpan; simp
  have e : f_length_of [.tup [.int i, .int i]] m = some (.ex "NoSpan", m) := by
    have := length_of_eq (i, i) m
    rw [h, if_neg (by simp)] at this
    exact this
  have hm : (("NoSpan" : Str) ∈ kinds) = True := by simp [kinds]
  unfold f_law_caught_4 e_law_caught_4
  simp only [fnOf, endF, st, eC, eVar, eOp, eUn, eAnd, eOr, eNot, tst, mAnd, mOr, mNot, mYes, eIf, eChain, aNil, aCons, eTup, eCB, fCB, fLst, dat, cel, pla, FT.dat, F1.dat, FT.cel, celL, sNext, sBreak, sCont, sRetN, sSeq, sAsg, sSet, sExpr, sRet, sIf, sRaise, fCall, fCall0, pAdd, pSub, pLt, pLe, pGt, pGe, pEq, pNe, pIsN, pNotN, pIxT, pNeg, pMax2, pMin2, pMax3, pMin3, bind_ok, bind_ex, sure_ok, run_ok, run_ex, mName, mTup, msNil, msCons, List.length_cons, List.length_nil, List.map_cons, List.map_nil, List.replicate_zero, List.replicate_succ, List.append_nil, List.cons_append, List.nil_append, List.getElem?_cons_zero, List.getElem?_cons_succ, List.set_cons_zero, List.set_cons_succ, Option.bind_some, Option.map_some, Nat.sub_self, Nat.reduceSub, Nat.reduceAdd, fOp, pCat, fSl, oNone, oSome, fRev, eBM, eBM0, pAppend, pReverse, sSetI, sAug, eIsT, tyN, sFor, wList, wTup, wEnum, wZip, fLc, pIxL, pLen, pList, eBits, Bool.not_true, Bool.not_false, Bool.and_true, Bool.true_and, Bool.and_false, Bool.false_and, Bool.or_true, Bool.true_or, Bool.or_false, Bool.false_or, cond_true, cond_false, Nat.zero_add, Nat.reduceLeDiff, Nat.reduceLT, Int.reduceSub, Int.reduceNeg, Int.reduceAdd, Int.reduceToNat, if_true, ↓reduceIte, and_ret, or_ret, and_retB, or_retB, fin_same, List.length_set, rdQ_lst, rdL_lst, rdS_lst, rdS_tup, rdQ_scr, rdS_scr, vw_lst, vw_tup, pow_12, pow_9, pow_18, pow_29, atI_0, atI_1, atI_2, atI_3, sTry, e, hm, if_true]
  exact fin_own0 rfl
noncomputable def e_law_k90 : MS :=
  (sSeq (sSet 1 (eOp pAddS (eOp pAddS (eCB pStrI (aCons (eCB pLen (aCons (eVar 0) aNil)) aNil)) (eC (.str " of "))) (eCB pStrI (aCons (eOp pMod (eCB pSum (aCons (dat (fSl (eVar 0) oNone (oSome (eC (.int 63))))) aNil)) (eOp pPow (eC (.int 10)) (eC (.int 9)))) aNil))))
    (sSeq (sSet 2 (dat (fLst (aCons (dat (fLst (aCons (eExc "NoSpan" aNil) (aCons (eExc "NoSpan" (aCons (eVar 1) aNil)) aNil)))) (aCons (dat (fLst (aCons (eExc "NoPlace" aNil) (aCons (eExc "NoPlace" (aCons (eVar 1) aNil)) aNil)))) (aCons (dat (fLst (aCons (eExc "NoCover" aNil) (aCons (eExc "NoCover" (aCons (eVar 1) aNil)) aNil)))) aNil))))))
    (sSeq (sSet 2 (dat (fOp pCat (eVar 2) (dat (fLst (aCons (dat (fLst (aCons (eExc "NoWeight" aNil) (aCons (eExc "NoWeight" (aCons (eVar 1) aNil)) aNil)))) (aCons (dat (fLst (aCons (eExc "NoCount" aNil) (aCons (eExc "NoCount" (aCons (eVar 1) aNil)) aNil)))) (aCons (dat (fLst (aCons (eExc "NoName" aNil) (aCons (eExc "NoName" (aCons (eVar 1) aNil)) aNil)))) aNil))))))))
    (sSeq (sSet 2 (dat (fOp pCat (eVar 2) (dat (fLst (aCons (dat (fLst (aCons (eExc "Twice" aNil) (aCons (eExc "Twice" (aCons (eVar 1) aNil)) aNil)))) (aCons (dat (fLst (aCons (eExc "Full" aNil) (aCons (eExc "Full" (aCons (eVar 1) aNil)) aNil)))) (aCons (dat (fLst (aCons (eExc "Bare" aNil) (aCons (eExc "Bare" (aCons (eVar 1) aNil)) aNil)))) aNil))))))))
    (sSeq (sSet 2 (dat (fOp pCat (eVar 2) (dat (fLst (aCons (dat (fLst (aCons (eExc "NoDeed" aNil) (aCons (eExc "NoDeed" (aCons (eVar 1) aNil)) aNil)))) (aCons (dat (fLst (aCons (eExc "NoText" aNil) (aCons (eExc "NoText" (aCons (eVar 1) aNil)) aNil)))) (aCons (dat (fLst (aCons (eExc "NoLine" aNil) (aCons (eExc "NoLine" (aCons (eVar 1) aNil)) aNil)))) aNil))))))))
    (sSeq (sFor (wEnum (aCons (eVar 2) aNil)) (mTup (msCons (mName 3) (msCons (mName 4) msNil)))
    (sIf (mNot (tst (pla (fCall0 f_law_right_4 (aCons (eVar 4) (aCons (eVar 3) aNil)))))) (sRet (eC (.bl false))) sNext))
    (sRet (eAnd (pla (fCall0 f_law_right_4 (aCons (dat (fLst (aCons (eExc "ShelfError" aNil) (aCons (eExc "ShelfError" (aCons (eVar 1) aNil)) aNil)))) (aCons (eC (.int 12)) aNil)))) (pla (fCall0 f_law_right_4 (aCons (dat (fCall0 f_law_caught_4 (aCons (eCB pLen (aCons (eVar 0) aNil)) aNil))) (aCons (eC (.int 0)) aNil))))))))))))
noncomputable def f_law_k90 : FnS := fnOf 1 5 e_law_k90
theorem log_ok {i : Int} (h0 : 0 ≤ i) (h1 : i < 1099511627776) : i.natAbs.log2 < 1920 := by
  by_cases h : i.natAbs = 0
  · rw [h]; decide
  · have : i.natAbs.log2 < 40 := (Nat.log2_lt h).mpr (by rw [show (2 : Nat) ^ 40 = 1099511627776 from rfl]; omega)
    omega
theorem law_true (ns : List Int) (hl : ns.length ≤ 63) : ∃ m', f_law_k90 [.scr ns] [] = some (.ok (.pl (.bl true)), m') := by
  have key : wp (f_law_k90 [.scr ns] []) (fun r m' => r = .ok (.pl (.bl true))) := by
    unfold f_law_k90 e_law_k90
    refine wp_fnI rfl ?_
    have l1 := log_ok (i := ((ns.length : Nat) : Int)) (by omega) (by omega)
    have ct : cutD (ns.map D.int) none (some 63) = ns.map D.int := by
      rw [show ((63 : Int)) = ((63 : Nat) : Int) from rfl, cut_to]
      exact List.take_of_length_le (by simpa using hl)
    have q0 : 0 ≤ ns.sum % 1000000000 := Int.emod_nonneg _ (by omega)
    have q1 : ns.sum % 1000000000 < 1000000000 := Int.emod_lt_of_pos _ (by omega)
    have l2 := log_ok (i := ns.sum % 1000000000) q0 (by omega)
    have s1 := PyProof.Rows.int_text_len_1921 l1
    have s2 := PyProof.Rows.int_text_len_1921 l2
    have s3 : (Str.ofString " of ").length = 4 := by decide +kernel
    have c1 : (Str.ofString (toString ((ns.length : Nat) : Int))).length + (Str.ofString " of ").length ≤ 100000 := by omega
    have c2 : (Str.ofString (toString ((ns.length : Nat) : Int)) ++ Str.ofString " of ").length + (Str.ofString (toString (ns.sum % 1000000000))).length ≤ 100000 := by
      rw [PySem.Str.length_append]; omega
    apply ws_step
    · simp only [fnOf, endF, st, eC, eVar, eOp, eUn, eAnd, eOr, eNot, tst, mAnd, mOr, mNot, mYes, eIf, eChain, aNil, aCons, eTup, eCB, fCB, fLst, dat, cel, pla, FT.dat, F1.dat, FT.cel, celL, sNext, sBreak, sCont, sRetN, sSeq, sAsg, sSet, sExpr, sRet, sIf, sRaise, fCall, fCall0, pAdd, pSub, pLt, pLe, pGt, pGe, pEq, pNe, pIsN, pNotN, pIxT, pNeg, pMax2, pMin2, pMax3, pMin3, bind_ok, bind_ex, sure_ok, run_ok, run_ex, mName, mTup, msNil, msCons, List.length_cons, List.length_nil, List.map_cons, List.map_nil, List.replicate_zero, List.replicate_succ, List.append_nil, List.cons_append, List.nil_append, List.getElem?_cons_zero, List.getElem?_cons_succ, List.set_cons_zero, List.set_cons_succ, Option.bind_some, Option.map_some, Nat.sub_self, Nat.reduceSub, Nat.reduceAdd, fOp, pCat, fSl, oNone, oSome, fRev, eBM, eBM0, pAppend, pReverse, sSetI, sAug, eIsT, tyN, sFor, wList, wTup, wEnum, wZip, fLc, pIxL, pLen, pList, eBits, Bool.not_true, Bool.not_false, Bool.and_true, Bool.true_and, Bool.and_false, Bool.false_and, Bool.or_true, Bool.true_or, Bool.or_false, Bool.false_or, cond_true, cond_false, Nat.zero_add, Nat.reduceLeDiff, Nat.reduceLT, Int.reduceSub, Int.reduceNeg, Int.reduceAdd, Int.reduceToNat, if_true, ↓reduceIte, and_ret, or_ret, and_retB, or_retB, fin_same, List.length_set, rdQ_lst, rdL_lst, rdS_lst, rdS_tup, rdQ_scr, rdS_scr, vw_lst, vw_tup, pow_12, pow_9, pow_18, pow_29, atI_0, atI_1, atI_2, atI_3, List.length_map, pStrI, l1, ct, pSum, toInts_map, pMod_pos (show (0 : Int) < 1000000000 by omega), l2, pAddS, c1, c2]; rfl
    apply ws_step
    · simp only [fnOf, endF, st, eC, eVar, eOp, eUn, eAnd, eOr, eNot, tst, mAnd, mOr, mNot, mYes, eIf, eChain, aNil, aCons, eTup, eCB, fCB, fLst, dat, cel, pla, FT.dat, F1.dat, FT.cel, celL, sNext, sBreak, sCont, sRetN, sSeq, sAsg, sSet, sExpr, sRet, sIf, sRaise, fCall, fCall0, pAdd, pSub, pLt, pLe, pGt, pGe, pEq, pNe, pIsN, pNotN, pIxT, pNeg, pMax2, pMin2, pMax3, pMin3, bind_ok, bind_ex, sure_ok, run_ok, run_ex, mName, mTup, msNil, msCons, List.length_cons, List.length_nil, List.map_cons, List.map_nil, List.replicate_zero, List.replicate_succ, List.append_nil, List.cons_append, List.nil_append, List.getElem?_cons_zero, List.getElem?_cons_succ, List.set_cons_zero, List.set_cons_succ, Option.bind_some, Option.map_some, Nat.sub_self, Nat.reduceSub, Nat.reduceAdd, fOp, pCat, fSl, oNone, oSome, fRev, eBM, eBM0, pAppend, pReverse, sSetI, sAug, eIsT, tyN, sFor, wList, wTup, wEnum, wZip, fLc, pIxL, pLen, pList, eBits, Bool.not_true, Bool.not_false, Bool.and_true, Bool.true_and, Bool.and_false, Bool.false_and, Bool.or_true, Bool.true_or, Bool.or_false, Bool.false_or, cond_true, cond_false, Nat.zero_add, Nat.reduceLeDiff, Nat.reduceLT, Int.reduceSub, Int.reduceNeg, Int.reduceAdd, Int.reduceToNat, if_true, ↓reduceIte, and_ret, or_ret, and_retB, or_retB, fin_same, List.length_set, rdQ_lst, rdL_lst, rdS_lst, rdS_tup, rdQ_scr, rdS_scr, vw_lst, vw_tup, pow_12, pow_9, pow_18, pow_29, atI_0, atI_1, atI_2, atI_3, eExc]; rfl
    apply ws_step
    · simp only [fnOf, endF, st, eC, eVar, eOp, eUn, eAnd, eOr, eNot, tst, mAnd, mOr, mNot, mYes, eIf, eChain, aNil, aCons, eTup, eCB, fCB, fLst, dat, cel, pla, FT.dat, F1.dat, FT.cel, celL, sNext, sBreak, sCont, sRetN, sSeq, sAsg, sSet, sExpr, sRet, sIf, sRaise, fCall, fCall0, pAdd, pSub, pLt, pLe, pGt, pGe, pEq, pNe, pIsN, pNotN, pIxT, pNeg, pMax2, pMin2, pMax3, pMin3, bind_ok, bind_ex, sure_ok, run_ok, run_ex, mName, mTup, msNil, msCons, List.length_cons, List.length_nil, List.map_cons, List.map_nil, List.replicate_zero, List.replicate_succ, List.append_nil, List.cons_append, List.nil_append, List.getElem?_cons_zero, List.getElem?_cons_succ, List.set_cons_zero, List.set_cons_succ, Option.bind_some, Option.map_some, Nat.sub_self, Nat.reduceSub, Nat.reduceAdd, fOp, pCat, fSl, oNone, oSome, fRev, eBM, eBM0, pAppend, pReverse, sSetI, sAug, eIsT, tyN, sFor, wList, wTup, wEnum, wZip, fLc, pIxL, pLen, pList, eBits, Bool.not_true, Bool.not_false, Bool.and_true, Bool.true_and, Bool.and_false, Bool.false_and, Bool.or_true, Bool.true_or, Bool.or_false, Bool.false_or, cond_true, cond_false, Nat.zero_add, Nat.reduceLeDiff, Nat.reduceLT, Int.reduceSub, Int.reduceNeg, Int.reduceAdd, Int.reduceToNat, if_true, ↓reduceIte, and_ret, or_ret, and_retB, or_retB, fin_same, List.length_set, rdQ_lst, rdL_lst, rdS_lst, rdS_tup, rdQ_scr, rdS_scr, vw_lst, vw_tup, pow_12, pow_9, pow_18, pow_29, atI_0, atI_1, atI_2, atI_3, eExc]; rfl
    apply ws_step
    · simp only [fnOf, endF, st, eC, eVar, eOp, eUn, eAnd, eOr, eNot, tst, mAnd, mOr, mNot, mYes, eIf, eChain, aNil, aCons, eTup, eCB, fCB, fLst, dat, cel, pla, FT.dat, F1.dat, FT.cel, celL, sNext, sBreak, sCont, sRetN, sSeq, sAsg, sSet, sExpr, sRet, sIf, sRaise, fCall, fCall0, pAdd, pSub, pLt, pLe, pGt, pGe, pEq, pNe, pIsN, pNotN, pIxT, pNeg, pMax2, pMin2, pMax3, pMin3, bind_ok, bind_ex, sure_ok, run_ok, run_ex, mName, mTup, msNil, msCons, List.length_cons, List.length_nil, List.map_cons, List.map_nil, List.replicate_zero, List.replicate_succ, List.append_nil, List.cons_append, List.nil_append, List.getElem?_cons_zero, List.getElem?_cons_succ, List.set_cons_zero, List.set_cons_succ, Option.bind_some, Option.map_some, Nat.sub_self, Nat.reduceSub, Nat.reduceAdd, fOp, pCat, fSl, oNone, oSome, fRev, eBM, eBM0, pAppend, pReverse, sSetI, sAug, eIsT, tyN, sFor, wList, wTup, wEnum, wZip, fLc, pIxL, pLen, pList, eBits, Bool.not_true, Bool.not_false, Bool.and_true, Bool.true_and, Bool.and_false, Bool.false_and, Bool.or_true, Bool.true_or, Bool.or_false, Bool.false_or, cond_true, cond_false, Nat.zero_add, Nat.reduceLeDiff, Nat.reduceLT, Int.reduceSub, Int.reduceNeg, Int.reduceAdd, Int.reduceToNat, if_true, ↓reduceIte, and_ret, or_ret, and_retB, or_retB, fin_same, List.length_set, rdQ_lst, rdL_lst, rdS_lst, rdS_tup, rdQ_scr, rdS_scr, vw_lst, vw_tup, pow_12, pow_9, pow_18, pow_29, atI_0, atI_1, atI_2, atI_3, eExc]; rfl
    apply ws_step
    · simp only [fnOf, endF, st, eC, eVar, eOp, eUn, eAnd, eOr, eNot, tst, mAnd, mOr, mNot, mYes, eIf, eChain, aNil, aCons, eTup, eCB, fCB, fLst, dat, cel, pla, FT.dat, F1.dat, FT.cel, celL, sNext, sBreak, sCont, sRetN, sSeq, sAsg, sSet, sExpr, sRet, sIf, sRaise, fCall, fCall0, pAdd, pSub, pLt, pLe, pGt, pGe, pEq, pNe, pIsN, pNotN, pIxT, pNeg, pMax2, pMin2, pMax3, pMin3, bind_ok, bind_ex, sure_ok, run_ok, run_ex, mName, mTup, msNil, msCons, List.length_cons, List.length_nil, List.map_cons, List.map_nil, List.replicate_zero, List.replicate_succ, List.append_nil, List.cons_append, List.nil_append, List.getElem?_cons_zero, List.getElem?_cons_succ, List.set_cons_zero, List.set_cons_succ, Option.bind_some, Option.map_some, Nat.sub_self, Nat.reduceSub, Nat.reduceAdd, fOp, pCat, fSl, oNone, oSome, fRev, eBM, eBM0, pAppend, pReverse, sSetI, sAug, eIsT, tyN, sFor, wList, wTup, wEnum, wZip, fLc, pIxL, pLen, pList, eBits, Bool.not_true, Bool.not_false, Bool.and_true, Bool.true_and, Bool.and_false, Bool.false_and, Bool.or_true, Bool.true_or, Bool.or_false, Bool.false_or, cond_true, cond_false, Nat.zero_add, Nat.reduceLeDiff, Nat.reduceLT, Int.reduceSub, Int.reduceNeg, Int.reduceAdd, Int.reduceToNat, if_true, ↓reduceIte, and_ret, or_ret, and_retB, or_retB, fin_same, List.length_set, rdQ_lst, rdL_lst, rdS_lst, rdS_tup, rdQ_scr, rdS_scr, vw_lst, vw_tup, pow_12, pow_9, pow_18, pow_29, atI_0, atI_1, atI_2, atI_3, eExc]; rfl
    let rows : List (Str × Nat) := kinds.zipIdx
    have er : enumD 0 [.lst [.exc "NoSpan", .exc "NoSpan"], .lst [.exc "NoPlace", .exc "NoPlace"], .lst [.exc "NoCover", .exc "NoCover"], .lst [.exc "NoWeight", .exc "NoWeight"], .lst [.exc "NoCount", .exc "NoCount"], .lst [.exc "NoName", .exc "NoName"], .lst [.exc "Twice", .exc "Twice"], .lst [.exc "Full", .exc "Full"], .lst [.exc "Bare", .exc "Bare"], .lst [.exc "NoDeed", .exc "NoDeed"], .lst [.exc "NoText", .exc "NoText"], .lst [.exc "NoLine", .exc "NoLine"]] = rows.map fun p => D.tup [.int (p.2 : Int), .lst ([p.1, p.1].map D.exc)] := rfl
    have hrow : ∀ p ∈ rows, p.1 ∈ kinds ∧ kinds.idxOf p.1 = p.2 := by decide
    have r4 : ∀ (xs : List Str) (k : Nat) m, (∀ x ∈ xs, (x = "ShelfError" ∧ k = 12) ∨ (x ∈ kinds ∧ kinds.idxOf x = k)) → f_law_right_4 [.lst (xs.map D.exc), .int (k : Int)] m = ret (.pl (.bl true)) m := fun xs k m h => law_right_4_eq h
    have r5 : ∀ m, f_law_right_4 [.lst [.exc "ShelfError", .exc "ShelfError"], .int 12] m = ret (.pl (.bl true)) m := fun m => r4 ["ShelfError", "ShelfError"] 12 m (by simp)
    have r6 : ∀ m, f_law_right_4 [.lst [.exc "NoSpan"], .int 0] m = ret (.pl (.bl true)) m := fun m => r4 ["NoSpan"] 0 m fun x hx => by
      cases List.mem_singleton.mp hx; exact .inr ⟨by decide, by decide⟩
    refine ws_mid (I := fun δ m' => ∃ (t : Str) (z2 z3 z4 : Option D), δ = [some (.scr ns), some (.str t), z2, z3, z4]) ?_ ?_
    · refine ws_forS (wk := ⟨rows.map fun p => D.tup [.int (p.2 : Int), .lst ([p.1, p.1].map D.exc)], []⟩) (m' := []) (by simp only [fnOf, endF, st, eC, eVar, eOp, eUn, eAnd, eOr, eNot, tst, mAnd, mOr, mNot, mYes, eIf, eChain, aNil, aCons, eTup, eCB, fCB, fLst, dat, cel, pla, FT.dat, F1.dat, FT.cel, celL, sNext, sBreak, sCont, sRetN, sSeq, sAsg, sSet, sExpr, sRet, sIf, sRaise, fCall, fCall0, pAdd, pSub, pLt, pLe, pGt, pGe, pEq, pNe, pIsN, pNotN, pIxT, pNeg, pMax2, pMin2, pMax3, pMin3, bind_ok, bind_ex, sure_ok, run_ok, run_ex, mName, mTup, msNil, msCons, List.length_cons, List.length_nil, List.map_cons, List.map_nil, List.replicate_zero, List.replicate_succ, List.append_nil, List.cons_append, List.nil_append, List.getElem?_cons_zero, List.getElem?_cons_succ, List.set_cons_zero, List.set_cons_succ, Option.bind_some, Option.map_some, Nat.sub_self, Nat.reduceSub, Nat.reduceAdd, fOp, pCat, fSl, oNone, oSome, fRev, eBM, eBM0, pAppend, pReverse, sSetI, sAug, eIsT, tyN, sFor, wList, wTup, wEnum, wZip, fLc, pIxL, pLen, pList, eBits, Bool.not_true, Bool.not_false, Bool.and_true, Bool.true_and, Bool.and_false, Bool.false_and, Bool.or_true, Bool.true_or, Bool.or_false, Bool.false_or, cond_true, cond_false, Nat.zero_add, Nat.reduceLeDiff, Nat.reduceLT, Int.reduceSub, Int.reduceNeg, Int.reduceAdd, Int.reduceToNat, if_true, ↓reduceIte, and_ret, or_ret, and_retB, or_retB, fin_same, List.length_set, rdQ_lst, rdL_lst, rdS_lst, rdS_tup, rdQ_scr, rdS_scr, vw_lst, vw_tup, pow_12, pow_9, pow_18, pow_29, atI_0, atI_1, atI_2, atI_3, er, srcOf_lst]) ?_
      refine ws_mono (forT (en := fun p : Str × Nat => D.tup [.int (p.2 : Int), .lst ([p.1, p.1].map D.exc)]) (I := fun l δ m' => (∀ p ∈ l, p.1 ∈ kinds ∧ kinds.idxOf p.1 = p.2) ∧ ∃ (t : Str) (z2 z3 z4 : Option D), δ = [some (.scr ns), some (.str t), z2, z3, z4]) (fun _ _ _ _ => chk_nil) ?_ (l := rows) ⟨hrow, _, _, _, _, rfl⟩) ?_
      · rintro p l δ m' ⟨hp, z1, z2, z3, z4, rfl⟩
        refine ⟨_, rfl, ?_⟩
        have h1 := hp p List.mem_cons_self
        have := r4 [p.1, p.1] p.2 m' fun x hx => by
          have : x = p.1 := by simpa using hx
          subst this; exact .inr h1
        simp only [List.map_cons, List.map_nil] at this
        simp only [st, eC, eVar, eOp, eUn, eAnd, eOr, eNot, tst, mAnd, mOr, mNot, mYes, eIf, eChain, aNil, aCons, eTup, eCB, fCB, fLst, dat, cel, pla, FT.dat, F1.dat, FT.cel, celL, sNext, sBreak, sCont, sRetN, sAsg, sSet, sExpr, sRet, sIf, sRaise, fCall, fCall0, pAdd, pSub, pLt, pLe, pGt, pGe, pEq, pNe, pIsN, pNotN, pIxT, pNeg, pMax2, pMin2, pMax3, pMin3, bind_ok, bind_ex, sure_ok, run_ok, run_ex, mName, mTup, msNil, msCons, List.length_cons, List.length_nil, List.map_cons, List.map_nil, List.replicate_zero, List.replicate_succ, List.append_nil, List.cons_append, List.nil_append, List.getElem?_cons_zero, List.getElem?_cons_succ, List.set_cons_zero, List.set_cons_succ, Option.bind_some, Option.map_some, Nat.sub_self, Nat.reduceSub, Nat.reduceAdd, fOp, pCat, fSl, oNone, oSome, fRev, eBM, eBM0, pAppend, pReverse, sSetI, sAug, eIsT, tyN, sFor, wList, wTup, wEnum, wZip, fLc, pIxL, pLen, pList, eBits, Bool.not_true, Bool.not_false, Bool.and_true, Bool.true_and, Bool.and_false, Bool.false_and, Bool.or_true, Bool.true_or, Bool.or_false, Bool.false_or, cond_true, cond_false, Nat.zero_add, Nat.reduceLeDiff, Nat.reduceLT, Int.reduceSub, Int.reduceNeg, Int.reduceAdd, Int.reduceToNat, if_true, ↓reduceIte, and_ret, or_ret, and_retB, or_retB, fin_same, List.length_set, rdQ_lst, rdL_lst, rdS_lst, rdS_tup, rdQ_scr, rdS_scr, vw_lst, vw_tup, pow_12, pow_9, pow_18, pow_29, atI_0, atI_1, atI_2, atI_3, ws_seq, ws_some, nx_nx, app_set, ws_cond, wp_some, endF_rt, endF_nx, endF_ex, cut_same, ixN_lit30, ixN_lit31, ixN_lit32, cond_true, cond_false, List.set_set, this]
        exact ⟨fun q hq => hp q (List.mem_cons_of_mem _ hq), _, _, _, _, rfl⟩
      · rintro o ⟨δ, m', rfl, _, z1, z2, z3, z4, rfl⟩
        exact ⟨_, _, rfl, _, _, _, _, rfl⟩
    rintro δ' m' ⟨z1, z2, z3, z4, rfl⟩
    simp only [st, eC, eVar, eOp, eUn, eAnd, eOr, eNot, tst, mAnd, mOr, mNot, mYes, eIf, eChain, aNil, aCons, eTup, eCB, fCB, fLst, dat, cel, pla, FT.dat, F1.dat, FT.cel, celL, sNext, sBreak, sCont, sRetN, sAsg, sSet, sExpr, sRet, sIf, sRaise, fCall, fCall0, pAdd, pSub, pLt, pLe, pGt, pGe, pEq, pNe, pIsN, pNotN, pIxT, pNeg, pMax2, pMin2, pMax3, pMin3, bind_ok, bind_ex, sure_ok, run_ok, run_ex, mName, mTup, msNil, msCons, List.length_cons, List.length_nil, List.map_cons, List.map_nil, List.replicate_zero, List.replicate_succ, List.append_nil, List.cons_append, List.nil_append, List.getElem?_cons_zero, List.getElem?_cons_succ, List.set_cons_zero, List.set_cons_succ, Option.bind_some, Option.map_some, Nat.sub_self, Nat.reduceSub, Nat.reduceAdd, fOp, pCat, fSl, oNone, oSome, fRev, eBM, eBM0, pAppend, pReverse, sSetI, sAug, eIsT, tyN, sFor, wList, wTup, wEnum, wZip, fLc, pIxL, pLen, pList, eBits, Bool.not_true, Bool.not_false, Bool.and_true, Bool.true_and, Bool.and_false, Bool.false_and, Bool.or_true, Bool.true_or, Bool.or_false, Bool.false_or, cond_true, cond_false, Nat.zero_add, Nat.reduceLeDiff, Nat.reduceLT, Int.reduceSub, Int.reduceNeg, Int.reduceAdd, Int.reduceToNat, if_true, ↓reduceIte, and_ret, or_ret, and_retB, or_retB, fin_same, List.length_set, rdQ_lst, rdL_lst, rdS_lst, rdS_tup, rdQ_scr, rdS_scr, vw_lst, vw_tup, pow_12, pow_9, pow_18, pow_29, atI_0, atI_1, atI_2, atI_3, ws_seq, ws_some, nx_nx, app_set, ws_cond, wp_some, endF_rt, endF_nx, endF_ex, cut_same, ixN_lit30, ixN_lit31, ixN_lit32, cond_true, cond_false, List.set_set, eExc, List.length_map, law_caught_4_eq, r5, r6, fin_top]
  obtain ⟨r, m', e, rfl⟩ := wp_get key
  exact ⟨m', e⟩
end DL
open DL
namespace LW
open PySem PySem.Spec PyProof.Rows L2 DL
def top (i : Nat) : Stmt := PySem.Challenge.pw_spanshelf_k90_refusals_made.main.body.getD i (.Pass ⟨0, 0, 0, 0⟩)
abbrev FnP (K : PySem.W.Frag) (x : Str) (st : Stmt) (f : Addr) (fd : FuncData) : Prop := FunD K x x (defArgs st) (defBody st) (defScope st) [] [] f fd
abbrev s_law_sorts : Stmt := top 21
abbrev N_law_sorts : List Str := ["_law_caught_here", "_law_some"]
theorem sc_law_sorts : FnScope N_law_sorts ["_law_caught_here"] (defScope s_law_sorts) := ⟨rfl, rfl, rfl, by decide +kernel, rfl, by decide +kernel, by decide +kernel⟩
abbrev s_law_right : Stmt := top 22
abbrev N_law_right : List Str := ["_law_some", "_law_at", "_law_caught_here", "_law_k"]
theorem sc_law_right : FnScope N_law_right ["_law_some", "_law_at"] (defScope s_law_right) := ⟨rfl, rfl, rfl, by decide +kernel, rfl, by decide +kernel, by decide +kernel⟩
abbrev s_is_place : Stmt := top 16
abbrev N_is_place : List Str := ["number"]
theorem sc_is_place : FnScope N_is_place ["number"] (defScope s_is_place) := ⟨rfl, rfl, rfl, by decide +kernel, rfl, by decide +kernel, by decide +kernel⟩
abbrev s_is_span : Stmt := top 17
abbrev N_is_span : List Str := ["span"]
theorem sc_is_span : FnScope N_is_span ["span"] (defScope s_is_span) := ⟨rfl, rfl, rfl, by decide +kernel, rfl, by decide +kernel, by decide +kernel⟩
abbrev s_must_span : Stmt := top 18
abbrev N_must_span : List Str := ["span"]
theorem sc_must_span : FnScope N_must_span ["span"] (defScope s_must_span) := ⟨rfl, rfl, rfl, by decide +kernel, rfl, by decide +kernel, by decide +kernel⟩
abbrev s_length_of : Stmt := top 19
abbrev N_length_of : List Str := ["span"]
theorem sc_length_of : FnScope N_length_of ["span"] (defScope s_length_of) := ⟨rfl, rfl, rfl, by decide +kernel, rfl, by decide +kernel, by decide +kernel⟩
abbrev s_law_caught : Stmt := top 23
abbrev N_law_caught : List Str := ["_law_low", "_law_caught_here", "e"]
theorem sc_law_caught : FnScope N_law_caught ["_law_low"] (defScope s_law_caught) := ⟨rfl, rfl, rfl, by decide +kernel, rfl, by decide +kernel, by decide +kernel⟩
abbrev s_law : Stmt := top 24
abbrev N_law : List Str := ["_law_script", "_law_text", "_law_rows", "_law_at", "_law_some"]
theorem sc_law : FnScope N_law ["_law_script"] (defScope s_law) := ⟨rfl, rfl, rfl, by decide +kernel, rfl, by decide +kernel, by decide +kernel⟩
abbrev xnames : List Str := kinds
structure Txt (K : PySem.W.Frag) (mg : Str → Option Value) : Prop where
  n_isinstance : mg "isinstance" = none
  n_ValueError : mg "ValueError" = none
  n_range : mg "range" = none
  n_len : mg "len" = none
  n_str : mg "str" = none
  n_sum : mg "sum" = none
  n_enumerate : mg "enumerate" = none
  c_BEYOND : ∃ t, mg "BEYOND" = some (.int 1000000000000 t)
  xs : Xs K xnames
  x_ShelfError : XCls K xnames "ShelfError"
  g_ShelfError : mg "ShelfError" = some (.ref (ga K "ShelfError"))
  x_NoSpan : XCls K xnames "NoSpan"
  g_NoSpan : mg "NoSpan" = some (.ref (ga K "NoSpan"))
  x_NoPlace : XCls K xnames "NoPlace"
  g_NoPlace : mg "NoPlace" = some (.ref (ga K "NoPlace"))
  x_NoCover : XCls K xnames "NoCover"
  g_NoCover : mg "NoCover" = some (.ref (ga K "NoCover"))
  x_NoWeight : XCls K xnames "NoWeight"
  g_NoWeight : mg "NoWeight" = some (.ref (ga K "NoWeight"))
  x_NoCount : XCls K xnames "NoCount"
  g_NoCount : mg "NoCount" = some (.ref (ga K "NoCount"))
  x_NoName : XCls K xnames "NoName"
  g_NoName : mg "NoName" = some (.ref (ga K "NoName"))
  x_Twice : XCls K xnames "Twice"
  g_Twice : mg "Twice" = some (.ref (ga K "Twice"))
  x_Full : XCls K xnames "Full"
  g_Full : mg "Full" = some (.ref (ga K "Full"))
  x_Bare : XCls K xnames "Bare"
  g_Bare : mg "Bare" = some (.ref (ga K "Bare"))
  x_NoDeed : XCls K xnames "NoDeed"
  g_NoDeed : mg "NoDeed" = some (.ref (ga K "NoDeed"))
  x_NoText : XCls K xnames "NoText"
  g_NoText : mg "NoText" = some (.ref (ga K "NoText"))
  x_NoLine : XCls K xnames "NoLine"
  g_NoLine : mg "NoLine" = some (.ref (ga K "NoLine"))
def t_law_sorts (K : PySem.W.Frag) (W : WX) : TS :=
  (tSeq (tAsg (tLst (tCons (tCB (rIsA K) (tCons (tVar 0) (tCons (tC (.ref (ga K "NoSpan"))) tNil))) (tCons (tCB (rIsA K) (tCons (tVar 0) (tCons (tC (.ref (ga K "NoPlace"))) tNil))) (tCons (tCB (rIsA K) (tCons (tVar 0) (tCons (tC (.ref (ga K "NoCover"))) tNil))) tNil)))) (gName 1))
    (tSeq (tAsg (tOp rCat (tVar 1) (tLst (tCons (tCB (rIsA K) (tCons (tVar 0) (tCons (tC (.ref (ga K "NoWeight"))) tNil))) (tCons (tCB (rIsA K) (tCons (tVar 0) (tCons (tC (.ref (ga K "NoCount"))) tNil))) (tCons (tCB (rIsA K) (tCons (tVar 0) (tCons (tC (.ref (ga K "NoName"))) tNil))) tNil))))) (gName 1))
    (tSeq (tAsg (tOp rCat (tVar 1) (tLst (tCons (tCB (rIsA K) (tCons (tVar 0) (tCons (tC (.ref (ga K "Twice"))) tNil))) (tCons (tCB (rIsA K) (tCons (tVar 0) (tCons (tC (.ref (ga K "Full"))) tNil))) (tCons (tCB (rIsA K) (tCons (tVar 0) (tCons (tC (.ref (ga K "Bare"))) tNil))) tNil))))) (gName 1))
    (tRet (tOp rCat (tVar 1) (tLst (tCons (tCB (rIsA K) (tCons (tVar 0) (tCons (tC (.ref (ga K "NoDeed"))) tNil))) (tCons (tCB (rIsA K) (tCons (tVar 0) (tCons (tC (.ref (ga K "NoText"))) tNil))) (tCons (tCB (rIsA K) (tCons (tVar 0) (tCons (tC (.ref (ga K "NoLine"))) tNil))) tNil)))))))))
theorem so_law_sorts {K : PySem.W.Frag} (xs : Xs K xnames) : SS K (t_law_sorts K) e_law_sorts :=
  (ss_seq (ss_set (fun W => (so_dat (so_lst (so_acons (so_isX xs (ck_one xs (by decide) (by decide)) so_var) (so_acons (so_isX xs (ck_one xs (by decide) (by decide)) so_var) (so_acons (so_isX xs (ck_one xs (by decide) (by decide)) so_var) so_anil)))))))
    (ss_seq (ss_set (fun W => (so_dat (so_fop s2_pCat so_var (so_dat (so_lst (so_acons (so_isX xs (ck_one xs (by decide) (by decide)) so_var) (so_acons (so_isX xs (ck_one xs (by decide) (by decide)) so_var) (so_acons (so_isX xs (ck_one xs (by decide) (by decide)) so_var) so_anil)))))))))
    (ss_seq (ss_set (fun W => (so_dat (so_fop s2_pCat so_var (so_dat (so_lst (so_acons (so_isX xs (ck_one xs (by decide) (by decide)) so_var) (so_acons (so_isX xs (ck_one xs (by decide) (by decide)) so_var) (so_acons (so_isX xs (ck_one xs (by decide) (by decide)) so_var) so_anil)))))))))
    (ss_ret (fun W => (so_cel (so_fop s2_pCat so_var (so_dat (so_lst (so_acons (so_isX xs (ck_one xs (by decide) (by decide)) so_var) (so_acons (so_isX xs (ck_one xs (by decide) (by decide)) so_var) (so_acons (so_isX xs (ck_one xs (by decide) (by decide)) so_var) so_anil))))))))))))
def t_law_right (K : PySem.W.Frag) (W : WX) : TS :=
  (tSeq (tFor (iList K (tVar 0)) (gName 2)
    ((tSeq (tIfS (tOr (tNot (tB (tCB (rIsA K) (tCons (tVar 2) (tCons (tC (.ref (ga K "ShelfError"))) tNil))))) (tNot (tB (tCB (rIsA K) (tCons (tVar 2) (tCons (tC (.ty "ValueError")) tNil)))))) (tRet (tC (.bl false))) tNext)
    (tIfS (tTest (tOp (rNeD K) (tCall (spF K f_law_sorts) [] E0 (tCons (tVar 2) tNil)) (tLc (iRng1 (tCons (tC (.int 12)) tNil)) (gName 3) tYes (tOp rEq (tVar 3) (tVar 1)) [3]))) (tRet (tC (.bl false))) tNext))))
    (tRet (tC (.bl true))))
theorem so_law_right {K : PySem.W.Frag} (xs : Xs K xnames) : SS K (t_law_right K) e_law_right_4 :=
  (ss_seq (ss_for (fun W => (so_wList so_var)) sg_name
    (ss_seq (ss_if (fun W => (so_mOr (so_mNot (so_B (so_isX xs (ck_up xs) so_var))) (so_mNot (so_B (so_isX xs (ck_ve xs) so_var))))) (ss_ret (fun W => so_cbl)) ss_next)
    (ss_if (fun W => (so_test (so_op s2_pNeD (so_dat (so_call0 (so_acons so_var so_anil))) (so_dat (so_lc (vs := [3]) (so_wRng1 (so_acons so_cint so_anil)) (sgw_name (by decide)) so_yes (so_op s2_pEq so_var so_var)))))) (ss_ret (fun W => so_cbl)) ss_next)))
    (ss_ret (fun W => so_cbl)))
def t_is_place (K : PySem.W.Frag) (W : WX) : TS :=
  (tRet (tChain oLt oLt (tOp oSub (tC (.int 0)) (tC (.int 1000000000000))) (tVar 0) (tC (.int 1000000000000))))
theorem so_is_place {K : PySem.W.Frag} (xs : Xs K xnames) : SS K (t_is_place K) e_is_place :=
  (ss_ret (fun W => (so_chain s2_pLt s2_pLt (so_op s2_pSub so_cint so_cint) so_var so_cint)))
def t_is_span (K : PySem.W.Frag) (W : WX) : TS :=
  (tRet (tAndV (tCall (spF K f_is_place) [] E0 (tCons (tOp (rIxT K) (tVar 0) (tC (.int 0))) tNil)) (tAndV (tCall (spF K f_is_place) [] E0 (tCons (tOp (rIxT K) (tVar 0) (tC (.int 1))) tNil)) (tOp oLt (tOp (rIxT K) (tVar 0) (tC (.int 0))) (tOp (rIxT K) (tVar 0) (tC (.int 1)))))))
theorem so_is_span {K : PySem.W.Frag} (xs : Xs K xnames) : SS K (t_is_span K) e_is_span :=
  (ss_ret (fun W => (so_and (so_pla (so_call0 (so_acons (so_op s2_pIxT so_var so_cint) so_anil))) (so_and (so_pla (so_call0 (so_acons (so_op s2_pIxT so_var so_cint) so_anil))) (so_op s2_pLt (so_op s2_pIxT so_var so_cint) (so_op s2_pIxT so_var so_cint))))))
def t_must_span (K : PySem.W.Frag) (W : WX) : TS :=
  (tIfS (tNot (tB (tCall (spF K f_is_span) [] E0 (tCons (tVar 0) tNil)))) (tRaise W (.ref (ga K "NoSpan"))) tNext)
theorem so_must_span {K : PySem.W.Frag} (xs : Xs K xnames) : SS K (t_must_span K) e_must_span :=
  (ss_if (fun W => (so_mNot (so_B (so_pla (so_call0 (so_acons so_var so_anil)))))) ss_raise ss_next)
def t_length_of (K : PySem.W.Frag) (W : WX) : TS :=
  (tSeq (tDrop (tCallS (spF K f_must_span) (WE W) (tCons (tVar 0) tNil)))
    (tRet (tOp oSub (tOp (rIxT K) (tVar 0) (tC (.int 1))) (tOp (rIxT K) (tVar 0) (tC (.int 0))))))
theorem so_length_of {K : PySem.W.Frag} (xs : Xs K xnames) : SS K (t_length_of K) e_length_of :=
  (ss_seq (ss_expr (fun W => (so_pla (so_call (so_acons so_var so_anil)))))
    (ss_ret (fun W => (so_op s2_pSub (so_op s2_pIxT so_var so_cint) (so_op s2_pIxT so_var so_cint)))))
def t_law_caught (K : PySem.W.Frag) (W : WX) : TS :=
  (tSeq (tAsg (tC .non) (gName 1))
    (tSeq (tTry K (.ref (ga K "ShelfError")) 2 1 (fun W => (tDrop (tCallS (spF K f_length_of) (WE W) (tCons (tTup (tCons (tVar 0) (tCons (tVar 0) tNil))) tNil)))))
    (tRet (tLst (tCons (tVar 1) tNil)))))
theorem so_law_caught {K : PySem.W.Frag} (xs : Xs K xnames) : SS K (t_law_caught K) e_law_caught_4 :=
  (ss_seq (ss_set (fun W => so_cnon))
    (ss_seq (ss_try xs (ss_expr (fun W => (so_pla (so_call (so_acons (so_tup (so_acons so_var (so_acons so_var so_anil))) so_anil))))))
    (ss_ret (fun W => (so_cel (so_lst (so_acons so_var so_anil)))))))
def t_law (K : PySem.W.Frag) (W : WX) : TS :=
  (tSeq (tAsg (tOp oAddS (tOp oAddS (tCB rStrI (tCons (tCB (Evl.rLenS K) (tCons (tVar 0) tNil)) tNil)) (tC (.str " of "))) (tCB rStrI (tCons (tOp oMod (tCB (rSum K) (tCons (tSl (rSlL K) (tVar 0) tNoPart (tPart (tC (.int 63)))) tNil)) (tOp oPow (tC (.int 10)) (tC (.int 9)))) tNil))) (gName 1))
    (tSeq (tAsg (tLst (tCons (tLst (tCons (tExc (ga K "NoSpan") tNil) (tCons (tExc (ga K "NoSpan") (tCons (tVar 1) tNil)) tNil))) (tCons (tLst (tCons (tExc (ga K "NoPlace") tNil) (tCons (tExc (ga K "NoPlace") (tCons (tVar 1) tNil)) tNil))) (tCons (tLst (tCons (tExc (ga K "NoCover") tNil) (tCons (tExc (ga K "NoCover") (tCons (tVar 1) tNil)) tNil))) tNil)))) (gName 2))
    (tSeq (tAsg (tOp rCat (tVar 2) (tLst (tCons (tLst (tCons (tExc (ga K "NoWeight") tNil) (tCons (tExc (ga K "NoWeight") (tCons (tVar 1) tNil)) tNil))) (tCons (tLst (tCons (tExc (ga K "NoCount") tNil) (tCons (tExc (ga K "NoCount") (tCons (tVar 1) tNil)) tNil))) (tCons (tLst (tCons (tExc (ga K "NoName") tNil) (tCons (tExc (ga K "NoName") (tCons (tVar 1) tNil)) tNil))) tNil))))) (gName 2))
    (tSeq (tAsg (tOp rCat (tVar 2) (tLst (tCons (tLst (tCons (tExc (ga K "Twice") tNil) (tCons (tExc (ga K "Twice") (tCons (tVar 1) tNil)) tNil))) (tCons (tLst (tCons (tExc (ga K "Full") tNil) (tCons (tExc (ga K "Full") (tCons (tVar 1) tNil)) tNil))) (tCons (tLst (tCons (tExc (ga K "Bare") tNil) (tCons (tExc (ga K "Bare") (tCons (tVar 1) tNil)) tNil))) tNil))))) (gName 2))
    (tSeq (tAsg (tOp rCat (tVar 2) (tLst (tCons (tLst (tCons (tExc (ga K "NoDeed") tNil) (tCons (tExc (ga K "NoDeed") (tCons (tVar 1) tNil)) tNil))) (tCons (tLst (tCons (tExc (ga K "NoText") tNil) (tCons (tExc (ga K "NoText") (tCons (tVar 1) tNil)) tNil))) (tCons (tLst (tCons (tExc (ga K "NoLine") tNil) (tCons (tExc (ga K "NoLine") (tCons (tVar 1) tNil)) tNil))) tNil))))) (gName 2))
    (tSeq (tFor (iEnum K (tCons (tVar 2) tNil)) (gTup K 2 (gCons (gName 3) (gCons (gName 4) gNil)))
    ((tIfS (tNot (tB (tCall (spF K f_law_right_4) [] E0 (tCons (tVar 4) (tCons (tVar 3) tNil))))) (tRet (tC (.bl false))) tNext)))
    (tRet (tAndV (tCall (spF K f_law_right_4) [] E0 (tCons (tLst (tCons (tExc (ga K "ShelfError") tNil) (tCons (tExc (ga K "ShelfError") (tCons (tVar 1) tNil)) tNil))) (tCons (tC (.int 12)) tNil))) (tCall (spF K f_law_right_4) [] E0 (tCons (tCall (spF K f_law_caught_4) [] E0 (tCons (tCB (Evl.rLenS K) (tCons (tVar 0) tNil)) tNil)) (tCons (tC (.int 0)) tNil)))))))))))
theorem so_law {K : PySem.W.Frag} (xs : Xs K xnames) : SS K (t_law K) e_law_k90 :=
  (ss_seq (ss_set (fun W => (so_op s2_pAddS (so_op s2_pAddS (so_eCB sc_pStrI (so_acons (so_eCB sc_pLen (so_acons so_var so_anil)) so_anil)) so_cstr) (so_eCB sc_pStrI (so_acons (so_op s2_pMod (so_eCB sc_pSum (so_acons (so_dat (so_sl so_var so_none (so_some so_cint))) so_anil)) (so_op s2_pPow so_cint so_cint)) so_anil)))))
    (ss_seq (ss_set (fun W => (so_dat (so_lst (so_acons (so_dat (so_lst (so_acons (so_exc so_anil) (so_acons (so_exc (so_acons so_var so_anil)) so_anil)))) (so_acons (so_dat (so_lst (so_acons (so_exc so_anil) (so_acons (so_exc (so_acons so_var so_anil)) so_anil)))) (so_acons (so_dat (so_lst (so_acons (so_exc so_anil) (so_acons (so_exc (so_acons so_var so_anil)) so_anil)))) so_anil)))))))
    (ss_seq (ss_set (fun W => (so_dat (so_fop s2_pCat so_var (so_dat (so_lst (so_acons (so_dat (so_lst (so_acons (so_exc so_anil) (so_acons (so_exc (so_acons so_var so_anil)) so_anil)))) (so_acons (so_dat (so_lst (so_acons (so_exc so_anil) (so_acons (so_exc (so_acons so_var so_anil)) so_anil)))) (so_acons (so_dat (so_lst (so_acons (so_exc so_anil) (so_acons (so_exc (so_acons so_var so_anil)) so_anil)))) so_anil)))))))))
    (ss_seq (ss_set (fun W => (so_dat (so_fop s2_pCat so_var (so_dat (so_lst (so_acons (so_dat (so_lst (so_acons (so_exc so_anil) (so_acons (so_exc (so_acons so_var so_anil)) so_anil)))) (so_acons (so_dat (so_lst (so_acons (so_exc so_anil) (so_acons (so_exc (so_acons so_var so_anil)) so_anil)))) (so_acons (so_dat (so_lst (so_acons (so_exc so_anil) (so_acons (so_exc (so_acons so_var so_anil)) so_anil)))) so_anil)))))))))
    (ss_seq (ss_set (fun W => (so_dat (so_fop s2_pCat so_var (so_dat (so_lst (so_acons (so_dat (so_lst (so_acons (so_exc so_anil) (so_acons (so_exc (so_acons so_var so_anil)) so_anil)))) (so_acons (so_dat (so_lst (so_acons (so_exc so_anil) (so_acons (so_exc (so_acons so_var so_anil)) so_anil)))) (so_acons (so_dat (so_lst (so_acons (so_exc so_anil) (so_acons (so_exc (so_acons so_var so_anil)) so_anil)))) so_anil)))))))))
    (ss_seq (ss_for (fun W => (so_wEnum (so_acons so_var so_anil))) (sg_tup (.cons (.cons .nil)) (sgs_cons sg_name (sgs_cons sg_name sgs_nil)))
    (ss_if (fun W => (so_mNot (so_B (so_pla (so_call0 (so_acons so_var (so_acons so_var so_anil))))))) (ss_ret (fun W => so_cbl)) ss_next))
    (ss_ret (fun W => (so_and (so_pla (so_call0 (so_acons (so_dat (so_lst (so_acons (so_exc so_anil) (so_acons (so_exc (so_acons so_var so_anil)) so_anil)))) (so_acons so_cint so_anil)))) (so_pla (so_call0 (so_acons (so_dat (so_call0 (so_acons (so_eCB sc_pLen (so_acons so_var so_anil)) so_anil))) (so_acons so_cint so_anil)))))))))))))
section
variable {P : Program} {w : World} {K : PySem.W.Frag} {mg : Str → Option Value} {base : Heap}
theorem ok_law_sorts (T : Txt K mg) {f : Addr} {fd : FuncData} (F : FnP K "_law_sorts" s_law_sorts f fd) : FnOk P w K mg base (L2.CX P w) 1 f fd ["_law_caught_here"] (spF K f_law_sorts) :=
  fn_okG (b := e_law_sorts) F sc_law_sorts (t_law_sorts K) (fun cdv A outer s H E hr =>
    (pss_cons (ps_set (i := 1) sc_law_sorts.nd rfl (Or.inl rfl) (pe_lst (pa_cons (pe_callB call_isA (by rfl) T.n_isinstance bt_isinstance (pa_cons (pv 0) (pa_cons (pe_glob (v := .ref (ga K "NoSpan")) (by rfl) T.g_NoSpan rfl) pa_nil))) (pa_cons (pe_callB call_isA (by rfl) T.n_isinstance bt_isinstance (pa_cons (pv 0) (pa_cons (pe_glob (v := .ref (ga K "NoPlace")) (by rfl) T.g_NoPlace rfl) pa_nil))) (pa_cons (pe_callB call_isA (by rfl) T.n_isinstance bt_isinstance (pa_cons (pv 0) (pa_cons (pe_glob (v := .ref (ga K "NoCover")) (by rfl) T.g_NoCover rfl) pa_nil))) pa_nil))))) (pss_cons (ps_set (i := 1) sc_law_sorts.nd rfl (Or.inl rfl) (pe_op op_cat (pv 1) (pe_lst (pa_cons (pe_callB call_isA (by rfl) T.n_isinstance bt_isinstance (pa_cons (pv 0) (pa_cons (pe_glob (v := .ref (ga K "NoWeight")) (by rfl) T.g_NoWeight rfl) pa_nil))) (pa_cons (pe_callB call_isA (by rfl) T.n_isinstance bt_isinstance (pa_cons (pv 0) (pa_cons (pe_glob (v := .ref (ga K "NoCount")) (by rfl) T.g_NoCount rfl) pa_nil))) (pa_cons (pe_callB call_isA (by rfl) T.n_isinstance bt_isinstance (pa_cons (pv 0) (pa_cons (pe_glob (v := .ref (ga K "NoName")) (by rfl) T.g_NoName rfl) pa_nil))) pa_nil)))))) (pss_cons (ps_set (i := 1) sc_law_sorts.nd rfl (Or.inl rfl) (pe_op op_cat (pv 1) (pe_lst (pa_cons (pe_callB call_isA (by rfl) T.n_isinstance bt_isinstance (pa_cons (pv 0) (pa_cons (pe_glob (v := .ref (ga K "Twice")) (by rfl) T.g_Twice rfl) pa_nil))) (pa_cons (pe_callB call_isA (by rfl) T.n_isinstance bt_isinstance (pa_cons (pv 0) (pa_cons (pe_glob (v := .ref (ga K "Full")) (by rfl) T.g_Full rfl) pa_nil))) (pa_cons (pe_callB call_isA (by rfl) T.n_isinstance bt_isinstance (pa_cons (pv 0) (pa_cons (pe_glob (v := .ref (ga K "Bare")) (by rfl) T.g_Bare rfl) pa_nil))) pa_nil)))))) (pss_one (ps_ret (pe_op op_cat (pv 1) (pe_lst (pa_cons (pe_callB call_isA (by rfl) T.n_isinstance bt_isinstance (pa_cons (pv 0) (pa_cons (pe_glob (v := .ref (ga K "NoDeed")) (by rfl) T.g_NoDeed rfl) pa_nil))) (pa_cons (pe_callB call_isA (by rfl) T.n_isinstance bt_isinstance (pa_cons (pv 0) (pa_cons (pe_glob (v := .ref (ga K "NoText")) (by rfl) T.g_NoText rfl) pa_nil))) (pa_cons (pe_callB call_isA (by rfl) T.n_isinstance bt_isinstance (pa_cons (pv 0) (pa_cons (pe_glob (v := .ref (ga K "NoLine")) (by rfl) T.g_NoLine rfl) pa_nil))) pa_nil))))))))))) (so_law_sorts T.xs) rfl rfl rfl
theorem ok_law_right (T : Txt K mg) (C_law_sorts : CalF P w K mg base "_law_sorts" 1 ["_law_caught_here"] f_law_sorts) {f : Addr} {fd : FuncData} (F : FnP K "_law_right" s_law_right f fd) : FnOk P w K mg base (L2.CX P w) 2 f fd ["_law_some", "_law_at"] (spF K f_law_right_4) :=
  fn_okG (b := e_law_right_4) F sc_law_right (t_law_right K) (fun cdv A outer s H E hr =>
    (pss_cons (ps_for (passes_of rfl) rfl (pi_list (pv 0)) (pg_name (i := 2) sc_law_right.nd rfl (Or.inl rfl)) (pss_cons (ps_if (PW.pt (pw_or (pt_not (pt_val (pe_callB call_isA (by rfl) T.n_isinstance bt_isinstance (pa_cons (pv 2) (pa_cons (pe_glob (v := .ref (ga K "ShelfError")) (by rfl) T.g_ShelfError rfl) pa_nil))))) (pw_or1 (pt_not (pt_val (pe_callB call_isA (by rfl) T.n_isinstance bt_isinstance (pa_cons (pv 2) (pa_cons (pe_bltn (v := .ty "ValueError") (by rfl) T.n_ValueError bt_ValueError rfl) pa_nil)))))))) (pss_one (ps_ret pe_bl)) pss_nil) (pss_one (ps_if (pt_cmpR (op_neD hr.units) (pc_own C_law_sorts (hr.mono (by decide)) (by rfl) (pa_cons (pv 2) pa_nil)) (pe_lc (own := [("_law_k", 3)]) (g := (gName 3)) (tt := tYes) rfl sc_law_right.nd (pi_range1 (by rfl) T.n_range (pa_cons pe_int pa_nil)) (blkOk_by (own := [("_law_k", 3)]) (N := N_law_right) (sc := defScope s_law_right) (by decide +kernel)) (fun _ _ _ _ _ => (pg_name (i := 3) sc_law_right.nd rfl (Or.inl rfl))) (fun _ _ _ _ _ => pts_nil) (fun _ _ _ _ _ => (pe_cmpR op_eq (pv 3) (pv 1) (nomark _)))) (nomark _)) (pss_one (ps_ret pe_bl)) pss_nil)))) (pss_one (ps_ret pe_bl)))) (so_law_right T.xs) rfl rfl rfl
theorem ok_is_place (T : Txt K mg) {f : Addr} {fd : FuncData} (F : FnP K "is_place" s_is_place f fd) : FnOk P w K mg base (L2.CX P w) 1 f fd ["number"] (spF K f_is_place) :=
  fn_okG (b := e_is_place) F sc_is_place (t_is_place K) (fun cdv A outer s H E hr =>
    (pss_one (ps_ret (pe_chain op_lt op_lt (pe_op op_sub pe_int (pe_const T.c_BEYOND (by rfl))) (pv 0) (pe_const T.c_BEYOND (by rfl)))))) (so_is_place T.xs) rfl rfl rfl
theorem ok_is_span (T : Txt K mg) (C_is_place : CalF P w K mg base "is_place" 1 ["number"] f_is_place) {f : Addr} {fd : FuncData} (F : FnP K "is_span" s_is_span f fd) : FnOk P w K mg base (L2.CX P w) 2 f fd ["span"] (spF K f_is_span) :=
  fn_okG (b := e_is_span) F sc_is_span (t_is_span K) (fun cdv A outer s H E hr =>
    (pss_one (ps_ret (pe_and (pc_own C_is_place (hr.mono (by decide)) (by rfl) (pa_cons (pe_ix ix_tup (pv 0) pe_int (fun _ _ => rfl)) pa_nil)) (pe_and (pc_own C_is_place (hr.mono (by decide)) (by rfl) (pa_cons (pe_ix ix_tup (pv 0) pe_int (fun _ _ => rfl)) pa_nil)) (pe_one (pe_cmpR op_lt (pe_ix ix_tup (pv 0) pe_int (fun _ _ => rfl)) (pe_ix ix_tup (pv 0) pe_int (fun _ _ => rfl)) (nomark _)))))))) (so_is_span T.xs) rfl rfl rfl
theorem ok_must_span (T : Txt K mg) (C_is_span : CalF P w K mg base "is_span" 2 ["span"] f_is_span) {f : Addr} {fd : FuncData} (F : FnP K "must_span" s_must_span f fd) : FnOk P w K mg base (L2.CX P w) 3 f fd ["span"] (spF K f_must_span) :=
  fn_okG (b := e_must_span) F sc_must_span (t_must_span K) (fun cdv A outer s H E hr =>
    (pss_one (ps_if (pt_not (pt_val (pc_own C_is_span (hr.mono (by decide)) (by rfl) (pa_cons (pv 0) pa_nil)))) (pss_one (ps_raiseK T.x_NoSpan T.g_NoSpan rfl (takes_of rfl rfl rfl rfl) (by rfl))) pss_nil))) (so_must_span T.xs) rfl rfl rfl
theorem ok_length_of (T : Txt K mg) (C_must_span : CalF P w K mg base "must_span" 3 ["span"] f_must_span) {f : Addr} {fd : FuncData} (F : FnP K "length_of" s_length_of f fd) : FnOk P w K mg base (L2.CX P w) 4 f fd ["span"] (spF K f_length_of) :=
  fn_okG (b := e_length_of) F sc_length_of (t_length_of K) (fun cdv A outer s H E hr =>
    (pss_cons (ps_expr (pc_ownS C_must_span (takes_of rfl rfl rfl rfl) (hr.mono (by decide)) (by rfl) (pa_cons (pv 0) pa_nil))) (pss_one (ps_ret (pe_op op_sub (pe_ix ix_tup (pv 0) pe_int (fun _ _ => rfl)) (pe_ix ix_tup (pv 0) pe_int (fun _ _ => rfl))))))) (so_length_of T.xs) rfl rfl rfl
theorem ok_law_caught (T : Txt K mg) (C_length_of : CalF P w K mg base "length_of" 4 ["span"] f_length_of) {f : Addr} {fd : FuncData} (F : FnP K "_law_caught" s_law_caught f fd) : FnOk P w K mg base (L2.CX P w) 5 f fd ["_law_low"] (spF K f_law_caught_4) :=
  fn_okG (b := e_law_caught_4) F sc_law_caught (t_law_caught K) (fun cdv A outer s H E hr =>
    (pss_cons (ps_set (i := 1) sc_law_caught.nd rfl (Or.inl rfl) pe_non) (pss_cons (ps_try_keep (i := 2) (j := 1) (c := .ref (ga K "ShelfError")) (tb := fun W => (tDrop (tCallS (spF K f_length_of) (WE W) (tCons (tTup (tCons (tVar 0) (tCons (tVar 0) tNil))) tNil)))) rfl rfl rfl sc_law_caught.nd rfl rfl ⟨rfl, by decide, .inl T.g_ShelfError⟩ (fun W pn xe tk po => (pss_one (ps_expr (pc_ownS C_length_of tk (hr.mono (by decide)) (by rfl) (pa_cons (pe_tup (pa_cons (pv 0) (pa_cons (pv 0) pa_nil))) pa_nil))))) (fun a oe pn => pss_one (ps_set (i := 1) sc_law_caught.nd rfl (Or.inl rfl) (pv 2)))) (pss_one (ps_ret (pe_lst (pa_cons (pv 1) pa_nil))))))) (so_law_caught T.xs) rfl rfl rfl
theorem ok_law (T : Txt K mg) (C_law_right : CalF P w K mg base "_law_right" 2 ["_law_some", "_law_at"] f_law_right_4) (C_law_caught : CalF P w K mg base "_law_caught" 5 ["_law_low"] f_law_caught_4) {f : Addr} {fd : FuncData} (F : FnP K "law" s_law f fd) : FnOk P w K mg base CX0 6 f fd ["_law_script"] (spF K f_law_k90) :=
  fn_okG (b := e_law_k90) F sc_law (t_law K) (fun cdv A outer s H E hr =>
    (pss_cons (ps_set (i := 1) sc_law.nd rfl (Or.inl rfl) (pe_op op_add_str (pe_op op_add_str (pe_callTy call_str_int (by rfl) T.n_str bt_str (pa_cons (pe_callB call_len_seq (by rfl) T.n_len bt_len (pa_cons (pv 0) pa_nil)) pa_nil)) pe_str) (pe_callTy call_str_int (by rfl) T.n_str bt_str (pa_cons (pe_op op_mod (pe_callB (cr_sum rfl) (by rfl) T.n_sum bt_sum (pa_cons (pe_slice sl_list (pv 0) po_none (po_some pe_int)) pa_nil)) (pe_op op_pow pe_int pe_int)) pa_nil)))) (pss_cons (ps_set (i := 2) sc_law.nd rfl (Or.inl rfl) (pe_lst (pa_cons (pe_lst (pa_cons (pe_excK0 T.x_NoSpan T.g_NoSpan (by rfl)) (pa_cons (pe_excK1 T.x_NoSpan T.g_NoSpan (by rfl) (pv 1)) pa_nil))) (pa_cons (pe_lst (pa_cons (pe_excK0 T.x_NoPlace T.g_NoPlace (by rfl)) (pa_cons (pe_excK1 T.x_NoPlace T.g_NoPlace (by rfl) (pv 1)) pa_nil))) (pa_cons (pe_lst (pa_cons (pe_excK0 T.x_NoCover T.g_NoCover (by rfl)) (pa_cons (pe_excK1 T.x_NoCover T.g_NoCover (by rfl) (pv 1)) pa_nil))) pa_nil))))) (pss_cons (ps_set (i := 2) sc_law.nd rfl (Or.inl rfl) (pe_op op_cat (pv 2) (pe_lst (pa_cons (pe_lst (pa_cons (pe_excK0 T.x_NoWeight T.g_NoWeight (by rfl)) (pa_cons (pe_excK1 T.x_NoWeight T.g_NoWeight (by rfl) (pv 1)) pa_nil))) (pa_cons (pe_lst (pa_cons (pe_excK0 T.x_NoCount T.g_NoCount (by rfl)) (pa_cons (pe_excK1 T.x_NoCount T.g_NoCount (by rfl) (pv 1)) pa_nil))) (pa_cons (pe_lst (pa_cons (pe_excK0 T.x_NoName T.g_NoName (by rfl)) (pa_cons (pe_excK1 T.x_NoName T.g_NoName (by rfl) (pv 1)) pa_nil))) pa_nil)))))) (pss_cons (ps_set (i := 2) sc_law.nd rfl (Or.inl rfl) (pe_op op_cat (pv 2) (pe_lst (pa_cons (pe_lst (pa_cons (pe_excK0 T.x_Twice T.g_Twice (by rfl)) (pa_cons (pe_excK1 T.x_Twice T.g_Twice (by rfl) (pv 1)) pa_nil))) (pa_cons (pe_lst (pa_cons (pe_excK0 T.x_Full T.g_Full (by rfl)) (pa_cons (pe_excK1 T.x_Full T.g_Full (by rfl) (pv 1)) pa_nil))) (pa_cons (pe_lst (pa_cons (pe_excK0 T.x_Bare T.g_Bare (by rfl)) (pa_cons (pe_excK1 T.x_Bare T.g_Bare (by rfl) (pv 1)) pa_nil))) pa_nil)))))) (pss_cons (ps_set (i := 2) sc_law.nd rfl (Or.inl rfl) (pe_op op_cat (pv 2) (pe_lst (pa_cons (pe_lst (pa_cons (pe_excK0 T.x_NoDeed T.g_NoDeed (by rfl)) (pa_cons (pe_excK1 T.x_NoDeed T.g_NoDeed (by rfl) (pv 1)) pa_nil))) (pa_cons (pe_lst (pa_cons (pe_excK0 T.x_NoText T.g_NoText (by rfl)) (pa_cons (pe_excK1 T.x_NoText T.g_NoText (by rfl) (pv 1)) pa_nil))) (pa_cons (pe_lst (pa_cons (pe_excK0 T.x_NoLine T.g_NoLine (by rfl)) (pa_cons (pe_excK1 T.x_NoLine T.g_NoLine (by rfl) (pv 1)) pa_nil))) pa_nil)))))) (pss_cons (ps_for (passes_of rfl) rfl (pi_enum (by rfl) T.n_enumerate (pa_cons (pv 2) pa_nil)) (pg_tup (by rfl) (pgs_cons (pg_name (i := 3) sc_law.nd rfl (Or.inl rfl)) (pgs_cons (pg_name (i := 4) sc_law.nd rfl (Or.inl rfl)) pgs_nil))) (pss_one (ps_if (pt_not (pt_val (pc_own C_law_right (hr.mono (by decide)) (by rfl) (pa_cons (pv 4) (pa_cons (pv 3) pa_nil))))) (pss_one (ps_ret pe_bl)) pss_nil))) (pss_one (ps_ret (pe_and (pc_own C_law_right (hr.mono (by decide)) (by rfl) (pa_cons (pe_lst (pa_cons (pe_excK0 T.x_ShelfError T.g_ShelfError (by rfl)) (pa_cons (pe_excK1 T.x_ShelfError T.g_ShelfError (by rfl) (pv 1)) pa_nil))) (pa_cons pe_int pa_nil))) (pe_one (pc_own C_law_right (hr.mono (by decide)) (by rfl) (pa_cons (pc_own C_law_caught (hr.mono (by decide)) (by rfl) (pa_cons (pe_callB call_len_seq (by rfl) T.n_len bt_len (pa_cons (pv 0) pa_nil)) pa_nil)) (pa_cons pe_int pa_nil)))))))))))))) (so_law T.xs) rfl rfl rfl
end
def d_law_sorts : He.DefD := ⟨("_law_sorts", none), "_law_sorts", "_law_sorts", defArgs s_law_sorts, defBody s_law_sorts, defScope s_law_sorts, [], []⟩
def d_law_right : He.DefD := ⟨("_law_right", none), "_law_right", "_law_right", defArgs s_law_right, defBody s_law_right, defScope s_law_right, [], []⟩
def d_is_place : He.DefD := ⟨("is_place", none), "is_place", "is_place", defArgs s_is_place, defBody s_is_place, defScope s_is_place, [], []⟩
def d_is_span : He.DefD := ⟨("is_span", none), "is_span", "is_span", defArgs s_is_span, defBody s_is_span, defScope s_is_span, [], []⟩
def d_must_span : He.DefD := ⟨("must_span", none), "must_span", "must_span", defArgs s_must_span, defBody s_must_span, defScope s_must_span, [], []⟩
def d_length_of : He.DefD := ⟨("length_of", none), "length_of", "length_of", defArgs s_length_of, defBody s_length_of, defScope s_length_of, [], []⟩
def d_law_caught : He.DefD := ⟨("_law_caught", none), "_law_caught", "_law_caught", defArgs s_law_caught, defBody s_law_caught, defScope s_law_caught, [], []⟩
def d_law : He.DefD := ⟨("law", none), "law", "law", defArgs s_law, defBody s_law, defScope s_law, [], []⟩
def fn : List He.DefD := [d_law_sorts, d_law_right, d_is_place, d_is_span, d_must_span, d_length_of, d_law_caught, d_law]
def fa : List He.Fa := [.glo "_law_sorts", .glo "_law_right", .glo "is_place", .glo "is_span", .glo "must_span", .glo "length_of", .glo "_law_caught", .glo "law", .free "isinstance", .free "ValueError", .free "range", .free "len", .free "str", .free "sum", .free "enumerate", .int "BEYOND" 1000000000000]
abbrev R : PySem.W.OpenRow := PySem.W.OpenLaw.row PySem.Challenge.rw_spanshelf_k90_refusals_made
abbrev hk : PySem.W.Hook := hookB 4 fa fn (xsB xnames)
def ob (s : PySem.W.SharedT) : He.AlD × Bool := obsB 4 fa fn (xsB xnames) (HandSHeadRun.getT s)
theorem ob_eq (s : PySem.W.SharedT) : ob s = hk.obs s.abs := obsB_eq (HandSHeadRun.getT_eq s)
def loose0 : List Str := ["__name__", "ShelfError", "NoSpan", "NoPlace", "NoCover", "NoWeight", "NoCount", "NoName", "Twice", "Full", "Bare", "NoDeed", "NoText", "NoLine", "BEYOND", "is_place", "is_span", "must_span", "length_of", "_law_sorts", "_law_right", "_law_caught"]
abbrev loose : List Str := loose0
theorem run (w : World) : HandSHeadRun.RunEq R (PySem.W.view R.prog [24]) hk ob 40000 loose w := by
  intro os
  kernel_rfl
theorem facts {P : Program} {w : World} {K : PySem.W.Frag} {h : Heap} {mg : Str → Option Value} {f : Addr} (X : K.In h) (G : h.Ns mainGlobals mg) (hfa : mg ("law" : Str) = some (.ref f)) (c : He.SaysD fa fn K) (xs : Xs K xnames) :
    ∃ fd : FuncData, (∀ (s : Shared) (v : Value), BindsTo s fd ⟨[v], []⟩ [("_law_script", v)]) ∧ ∀ base : Heap, K.In base → base.Ns mainGlobals mg → FnOk P w K mg base CX0 6 f fd ["_law_script"] (spF K f_law_k90) := by
  have T : Txt K mg := ⟨He.free_ok X G (c.fact 8 (f := .free "isinstance") rfl), He.free_ok X G (c.fact 9 (f := .free "ValueError") rfl), He.free_ok X G (c.fact 10 (f := .free "range") rfl), He.free_ok X G (c.fact 11 (f := .free "len") rfl), He.free_ok X G (c.fact 12 (f := .free "str") rfl), He.free_ok X G (c.fact 13 (f := .free "sum") rfl), He.free_ok X G (c.fact 14 (f := .free "enumerate") rfl), He.int_ok X G (c.fact 15 rfl), xs, xs.up, xs.up.mg X G, xs.one "NoSpan" (.head _), (xs.one "NoSpan" (.head _)).mg X G, xs.one "NoPlace" (.tail _ (.head _)), (xs.one "NoPlace" (.tail _ (.head _))).mg X G, xs.one "NoCover" (.tail _ (.tail _ (.head _))), (xs.one "NoCover" (.tail _ (.tail _ (.head _)))).mg X G, xs.one "NoWeight" (.tail _ (.tail _ (.tail _ (.head _)))), (xs.one "NoWeight" (.tail _ (.tail _ (.tail _ (.head _))))).mg X G, xs.one "NoCount" (.tail _ (.tail _ (.tail _ (.tail _ (.head _))))), (xs.one "NoCount" (.tail _ (.tail _ (.tail _ (.tail _ (.head _)))))).mg X G, xs.one "NoName" (.tail _ (.tail _ (.tail _ (.tail _ (.tail _ (.head _)))))), (xs.one "NoName" (.tail _ (.tail _ (.tail _ (.tail _ (.tail _ (.head _))))))).mg X G, xs.one "Twice" (.tail _ (.tail _ (.tail _ (.tail _ (.tail _ (.tail _ (.head _))))))), (xs.one "Twice" (.tail _ (.tail _ (.tail _ (.tail _ (.tail _ (.tail _ (.head _)))))))).mg X G, xs.one "Full" (.tail _ (.tail _ (.tail _ (.tail _ (.tail _ (.tail _ (.tail _ (.head _)))))))), (xs.one "Full" (.tail _ (.tail _ (.tail _ (.tail _ (.tail _ (.tail _ (.tail _ (.head _))))))))).mg X G, xs.one "Bare" (.tail _ (.tail _ (.tail _ (.tail _ (.tail _ (.tail _ (.tail _ (.tail _ (.head _))))))))), (xs.one "Bare" (.tail _ (.tail _ (.tail _ (.tail _ (.tail _ (.tail _ (.tail _ (.tail _ (.head _)))))))))).mg X G, xs.one "NoDeed" (.tail _ (.tail _ (.tail _ (.tail _ (.tail _ (.tail _ (.tail _ (.tail _ (.tail _ (.head _)))))))))), (xs.one "NoDeed" (.tail _ (.tail _ (.tail _ (.tail _ (.tail _ (.tail _ (.tail _ (.tail _ (.tail _ (.head _))))))))))).mg X G, xs.one "NoText" (.tail _ (.tail _ (.tail _ (.tail _ (.tail _ (.tail _ (.tail _ (.tail _ (.tail _ (.tail _ (.head _))))))))))), (xs.one "NoText" (.tail _ (.tail _ (.tail _ (.tail _ (.tail _ (.tail _ (.tail _ (.tail _ (.tail _ (.tail _ (.head _)))))))))))).mg X G, xs.one "NoLine" (.tail _ (.tail _ (.tail _ (.tail _ (.tail _ (.tail _ (.tail _ (.tail _ (.tail _ (.tail _ (.tail _ (.head _)))))))))))), (xs.one "NoLine" (.tail _ (.tail _ (.tail _ (.tail _ (.tail _ (.tail _ (.tail _ (.tail _ (.tail _ (.tail _ (.tail _ (.head _))))))))))))).mg X G⟩
  obtain ⟨fd_law_sorts, F_law_sorts⟩ := c.def_ 0 (d := d_law_sorts) rfl
  obtain ⟨fd_law_right, F_law_right⟩ := c.def_ 1 (d := d_law_right) rfl
  obtain ⟨fd_is_place, F_is_place⟩ := c.def_ 2 (d := d_is_place) rfl
  obtain ⟨fd_is_span, F_is_span⟩ := c.def_ 3 (d := d_is_span) rfl
  obtain ⟨fd_must_span, F_must_span⟩ := c.def_ 4 (d := d_must_span) rfl
  obtain ⟨fd_length_of, F_length_of⟩ := c.def_ 5 (d := d_length_of) rfl
  obtain ⟨fd_law_caught, F_law_caught⟩ := c.def_ 6 (d := d_law_caught) rfl
  obtain ⟨fd_law, F_law⟩ := c.def_ 7 (d := d_law) rfl
  have e := hfa.symm.trans (He.glo_ok X G (c.fact 7 (f := .glo "law") rfl))
  cases e
  have b := FunD.bindsA (ps := ["_law_script"]) F_law fun _ _ _ _ _ _ us hl => match us, hl with | [_], _ => rfl
  refine ⟨fd_law, fun s v => b s [v] rfl, fun base _ _ => ?_⟩
  have C_law_sorts : CalF P w K mg base "_law_sorts" 1 ["_law_caught_here"] f_law_sorts := ⟨_, ok_law_sorts T F_law_sorts, FunD.bindsN F_law_sorts fun _ _ _ _ _ _ us hl => match us, hl with | [_], _ => rfl, F_law_sorts.kp, He.glo_ok X G (c.fact 0 (f := .glo "_law_sorts") rfl)⟩
  have C_law_right : CalF P w K mg base "_law_right" 2 ["_law_some", "_law_at"] f_law_right_4 := ⟨_, ok_law_right T C_law_sorts F_law_right, FunD.bindsN F_law_right fun _ _ _ _ _ _ us hl => match us, hl with | [_, _], _ => rfl, F_law_right.kp, He.glo_ok X G (c.fact 1 (f := .glo "_law_right") rfl)⟩
  have C_is_place : CalF P w K mg base "is_place" 1 ["number"] f_is_place := ⟨_, ok_is_place T F_is_place, FunD.bindsN F_is_place fun _ _ _ _ _ _ us hl => match us, hl with | [_], _ => rfl, F_is_place.kp, He.glo_ok X G (c.fact 2 (f := .glo "is_place") rfl)⟩
  have C_is_span : CalF P w K mg base "is_span" 2 ["span"] f_is_span := ⟨_, ok_is_span T C_is_place F_is_span, FunD.bindsN F_is_span fun _ _ _ _ _ _ us hl => match us, hl with | [_], _ => rfl, F_is_span.kp, He.glo_ok X G (c.fact 3 (f := .glo "is_span") rfl)⟩
  have C_must_span : CalF P w K mg base "must_span" 3 ["span"] f_must_span := ⟨_, ok_must_span T C_is_span F_must_span, FunD.bindsN F_must_span fun _ _ _ _ _ _ us hl => match us, hl with | [_], _ => rfl, F_must_span.kp, He.glo_ok X G (c.fact 4 (f := .glo "must_span") rfl)⟩
  have C_length_of : CalF P w K mg base "length_of" 4 ["span"] f_length_of := ⟨_, ok_length_of T C_must_span F_length_of, FunD.bindsN F_length_of fun _ _ _ _ _ _ us hl => match us, hl with | [_], _ => rfl, F_length_of.kp, He.glo_ok X G (c.fact 5 (f := .glo "length_of") rfl)⟩
  have C_law_caught : CalF P w K mg base "_law_caught" 5 ["_law_low"] f_law_caught_4 := ⟨_, ok_law_caught T C_length_of F_law_caught, FunD.bindsN F_law_caught fun _ _ _ _ _ _ us hl => match us, hl with | [_], _ => rfl, F_law_caught.kp, He.glo_ok X G (c.fact 6 (f := .glo "_law_caught") rfl)⟩
  exact ok_law T C_law_right C_law_caught F_law
end LW
open PySem PySem.W PySem.Calls PyProof.Rows
set_option maxRecDepth 100000 in
set_option maxHeartbeats 0 in
theorem PySem.Challenge.cw_spanshelf_k90_refusals_made_holds : PySem.Challenge.rw_spanshelf_k90_refusals_made.Holds := by
  w_on; o_law
  refine HandSHeadRun.head_any (r := OpenLaw.row PySem.Challenge.rw_spanshelf_k90_refusals_made) (q := view (OpenLaw.row PySem.Challenge.rw_spanshelf_k90_refusals_made).prog [24]) (H := LW.hk) (ob := LW.ob) (M := 40000) (loose := LW.loose) (d := HandSHeadRun.topDef (OpenLaw.row PySem.Challenge.rw_spanshelf_k90_refusals_made).prog 24) (kwd := []) LW.ob_eq
    (by kernel_rfl) (fun s => by kernel_rfl) LW.run (by kernel_rfl) (by kernel_rfl) (by kernel_rfl) (by rfl) (by first | assumption | decide +kernel) (by decide +kernel) ⟨rfl, rfl, rfl, rfl, rfl, by decide +kernel⟩ ?hw ?hc
  case hw => w_witness2
  case hc =>
    refine L2.walk_ofE (l := PySem.Challenge.rw_spanshelf_k90_refusals_made) (n := 63) (k := 6) (x := "_law_script") (CX := L2.CX0) rfl (by decide) (by kernel_rfl) ⟨rfl, by decide, by decide⟩ ?F (fun _ _ _ _ z => z)
    intro w mg fa h Y G hmg0
    obtain ⟨K, KX, c, hx⟩ := Y
    have hmg : mg ("law" : PySem.Str) = some (.ref fa) := by
      have e : (HandSHeadRun.topDef (OpenLaw.row PySem.Challenge.rw_spanshelf_k90_refusals_made).prog 24).name = ("law" : PySem.Str) := by kernel_rfl
      rw [← e]
      exact hmg0
    obtain ⟨fd, hb, hF⟩ := LW.facts (P := (PySem.Challenge.rw_spanshelf_k90_refusals_made).prog) (w := w) KX G hmg c (DL.xsB_ok hx)
    refine ⟨K, fd, DL.spF K DL.f_law_k90, KX, hb, fun H a ns hl _ hS => ?_, hF⟩
    obtain ⟨m', hm⟩ := DL.law_true ns hl
    exact DL.law_startF hS hm
