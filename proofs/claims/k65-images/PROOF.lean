import PyProof.Rows.All
import Wide.All
import OpenK.AllK
import Wide.FinOn
import HandS.ForMost
import HandS.ForExc
import HandS.CallSlots
import HandS.Lambda
import HandS.TupMul
import HandS.TupAny
import HandS.Star
import PyProof.ReprReads
import HandS.IsInst
import HandS.TryOnly
import HandS.Zip
import HandS.Style
import HandS.ExcInit
import HandS.ExcIs
import HandS.ExcField
import HandS.Nested
import KE.KExcSuper
import KE.KTypeName
import HandS.Zip0
import KE.KDictZip
import HandS.Defaults
import HandS.OwnEq
import HandS.EndTab
import HandS.HeadHook4
import PySem.Challenge.RW_ropesays_k65_images_and_closed_tangles
import HandS.Head0
import HandS.Head1
import HandS.Head2
set_option Elab.async false
set_option linter.all false
set_option maxRecDepth 100000
set_option maxHeartbeats 4000000
/-! R1: the heap-free layer: data D, what stands for it in the abstract heap, slots, the invariant Rep. -/
namespace RL
open PySem PySem.Spec PyProof.Rows L2

/-- data: what a value is, read through the heap; rol: a list that is only read (the script); ptr: a bare address (of something that may change) -/
inductive D where
  | non | bl (b : Bool) | int (i : Int) | str (s : Str) | lst (l : List D) | tup (l : List D) | rol (l : List D)
  | obj (C : Addr) (fs : List (Str × D)) | exc (C : Addr) (fs : List (Str × D)) | ptr (a : Addr)

/-- a kept exception at a: its class, its own dict's address -/
def ExO (a C d : Addr) : HO := .ext fun h => ∃ (oe : Obj) (vs : Array Value), h.get? a = some oe ∧ oe.cls = .ref C ∧ oe.dict = some d ∧ oe.data = .fields vs

mutual
inductive Dr (K : PySem.W.Frag) (A : Hp) : V → D → Prop
  | non : Dr K A .non .non
  | bl (b : Bool) : Dr K A (.bl b) (.bl b)
  | int (i : Int) : Dr K A (.int i) (.int i)
  | str (x : Str) : Dr K A (.str x) (.str x)
  | lst {a : Addr} {xs : List V} {ds : List D} : A a = some (.lst xs) → DrAll K A xs ds → Dr K A (.ref a) (.lst ds)
  | rol {a : Addr} {xs : List V} {ds : List D} : SqL K A a xs → DrAll K A xs ds → Dr K A (.ref a) (.rol ds)
  | tup {a : Addr} {xs : List V} {ds : List D} : SqT K A a xs → DrAll K A xs ds → Dr K A (.ref a) (.tup ds)
  | obj {a C dx : Addr} {fs : List (Str × V)} {es : List (Str × D)} : A a = some (.ins C dx fs) → DrFs K A fs es → Dr K A (.ref a) (.obj C es)
  | exc {a C d : Addr} {fs : List (Str × V)} {es : List (Str × D)} : A a = some (ExO a C d) → A d = some (.xd fs) → DrFs K A fs es → Dr K A (.ref a) (.exc C es)
  | ptr (a : Addr) : Dr K A (.ref a) (.ptr a)
inductive DrAll (K : PySem.W.Frag) (A : Hp) : List V → List D → Prop
  | nil : DrAll K A [] []
  | cons {v : V} {vs : List V} {d : D} {ds : List D} : Dr K A v d → DrAll K A vs ds → DrAll K A (v :: vs) (d :: ds)
inductive DrFs (K : PySem.W.Frag) (A : Hp) : List (Str × V) → List (Str × D) → Prop
  | nil : DrFs K A [] []
  | cons {f : Str} {v : V} {vs : List (Str × V)} {d : D} {ds : List (Str × D)} : Dr K A v d → DrFs K A vs ds → DrFs K A ((f, v) :: vs) ((f, d) :: ds)
end

theorem sqT_same {K : PySem.W.Frag} {H H' : Hp} {a : Addr} {xs : List V} (e : Same H H') (h : SqT K H a xs) : SqT K H' a xs := by
  rcases h with (h | ⟨o, h⟩) | h
  · exact .inl (.inl (e _ _ h))
  · exact .inl (.inr ⟨o, e _ _ h⟩)
  · exact .inr h

section
variable {K : PySem.W.Frag} {A A' : Hp}
mutual
theorem Dr.same (e : Same A A') : ∀ {v : V} {d : D}, Dr K A v d → Dr K A' v d
  | _, _, .non => .non
  | _, _, .bl b => .bl b
  | _, _, .int i => .int i
  | _, _, .str x => .str x
  | _, _, .lst h1 h2 => .lst (e _ _ h1) (DrAll.same e h2)
  | _, _, .rol h1 h2 => .rol (e.seq h1) (DrAll.same e h2)
  | _, _, .tup h1 h2 => .tup (sqT_same e h1) (DrAll.same e h2)
  | _, _, .obj h1 h2 => .obj (e _ _ h1) (DrFs.same e h2)
  | _, _, .exc h1 h2 h3 => .exc (e _ _ h1) (e _ _ h2) (DrFs.same e h3)
  | _, _, .ptr a => .ptr a
theorem DrAll.same (e : Same A A') : ∀ {vs : List V} {ds : List D}, DrAll K A vs ds → DrAll K A' vs ds
  | _, _, .nil => .nil
  | _, _, .cons h1 h2 => .cons (Dr.same e h1) (DrAll.same e h2)
theorem DrFs.same (e : Same A A') : ∀ {vs : List (Str × V)} {ds : List (Str × D)}, DrFs K A vs ds → DrFs K A' vs ds
  | _, _, .nil => .nil
  | _, _, .cons h1 h2 => .cons (Dr.same e h1) (DrFs.same e h2)
end
theorem DrAll.length : ∀ {vs : List V} {ds : List D}, DrAll K A vs ds → vs.length = ds.length
  | _, _, .nil => rfl
  | _, _, .cons _ h => by rw [List.length_cons, List.length_cons, DrAll.length h]
theorem DrAll.append : ∀ {vs ws : List V} {ds es : List D}, DrAll K A vs ds → DrAll K A ws es → DrAll K A (vs ++ ws) (ds ++ es)
  | _, _, _, _, .nil, h => h
  | _, _, _, _, .cons a b, h => .cons a (DrAll.append b h)
theorem DrAll.get : ∀ {vs : List V} {ds : List D} {i : Nat} {v : V}, DrAll K A vs ds → vs[i]? = some v → ∃ d, ds[i]? = some d ∧ Dr K A v d
  | _, _, 0, _, .cons a b, e => ⟨_, rfl, by cases e; exact a⟩
  | _, _, i + 1, _, .cons a b, e => by
    obtain ⟨d, h1, h2⟩ := DrAll.get (i := i) b (by simpa using e)
    exact ⟨d, by simpa using h1, h2⟩
theorem DrAll.get' : ∀ {vs : List V} {ds : List D} {i : Nat} {d : D}, DrAll K A vs ds → ds[i]? = some d → ∃ v, vs[i]? = some v ∧ Dr K A v d
  | _, _, 0, _, .cons a b, e => ⟨_, rfl, by cases e; exact a⟩
  | _, _, i + 1, _, .cons a b, e => by
    obtain ⟨d, h1, h2⟩ := DrAll.get' (i := i) b (by simpa using e)
    exact ⟨d, by simpa using h1, h2⟩
theorem DrAll.take : ∀ {vs : List V} {ds : List D} (n : Nat), DrAll K A vs ds → DrAll K A (vs.take n) (ds.take n)
  | _, _, 0, _ => by simp; exact .nil
  | _, _, _ + 1, .nil => by simp; exact .nil
  | _, _, n + 1, .cons a b => .cons a (DrAll.take n b)
theorem DrAll.drop : ∀ {vs : List V} {ds : List D} (n : Nat), DrAll K A vs ds → DrAll K A (vs.drop n) (ds.drop n)
  | _, _, 0, h => by simpa using h
  | _, _, _ + 1, .nil => by simp; exact .nil
  | _, _, n + 1, .cons a b => by simpa using DrAll.drop n b
theorem DrAll.set : ∀ {vs : List V} {ds : List D} {v : V} {d : D} (i : Nat), DrAll K A vs ds → Dr K A v d → DrAll K A (vs.set i v) (ds.set i d)
  | _, _, _, _, _, .nil, _ => .nil
  | _, _, _, _, 0, .cons a b, h => .cons h b
  | _, _, _, _, i + 1, .cons a b, h => .cons a (DrAll.set i b h)
theorem DrAll.snoc {vs : List V} {ds : List D} {v : V} {d : D} (h : DrAll K A vs ds) (k : Dr K A v d) : DrAll K A (vs ++ [v]) (ds ++ [d]) := h.append (.cons k .nil)
theorem DrAll.reverse {vs : List V} {ds : List D} (h : DrAll K A vs ds) : DrAll K A vs.reverse ds.reverse := by
  induction vs generalizing ds with
  | nil => cases h; exact .nil
  | cons v vs ih =>
    cases h with
    | cons a b =>
      rw [List.reverse_cons, List.reverse_cons]
      exact (ih b).append (.cons a .nil)
theorem DrFs.lookup : ∀ {vs : List (Str × V)} {ds : List (Str × D)} {f : Str} {d : D}, DrFs K A vs ds → ds.lookup f = some d → ∃ v, vs.lookup f = some v ∧ Dr K A v d
  | _, _, _, _, .nil, e => by cases e
  | _, _, f, _, .cons (f := f') a b, e => by
    rw [List.lookup] at e ⊢
    cases h : f == f' with
    | true =>
      rw [h] at e
      cases e
      exact ⟨_, rfl, a⟩
    | false =>
      rw [h] at e
      exact DrFs.lookup b e
theorem DrFs.lookup_none : ∀ {vs : List (Str × V)} {ds : List (Str × D)} {f : Str}, DrFs K A vs ds → ds.lookup f = none → vs.lookup f = none
  | _, _, _, .nil, e => rfl
  | _, _, f, .cons (f := f') a b, e => by
    rw [List.lookup] at e ⊢
    cases h : f == f' with
    | true => rw [h] at e; cases e
    | false =>
      rw [h] at e
      exact DrFs.lookup_none b e
end

/-- things that may change, at addresses -/
inductive MO where
  | ls (l : List D) | ob (C : Addr) (fs : List (Str × D))
abbrev Mh := Addr → Option MO
def mup (m : Mh) (a : Addr) (o : MO) : Mh := fun b => if b = a then some o else m b
theorem mup_same {m : Mh} {a : Addr} {o : MO} : mup m a o a = some o := if_pos rfl
theorem mup_ne {m : Mh} {a b : Addr} {o : MO} (h : b ≠ a) : mup m a o b = m b := if_neg h

/-- a slot: nothing known, a value, a list of this frame's own that may change -/
inductive SD where
  | un | im (d : D) | ow (l : List D)
structure Dl where
  s : List SD
  m : Mh

/-- not a table of code objects -/
def nt : HO → Prop
  | .tbl _ => False
  | _ => True

structure MR (K : PySem.W.Frag) (A H : Hp) (m : Mh) : Prop where
  ls : ∀ p l, m p = some (.ls l) → ∃ xs, H p = some (.lst xs) ∧ A p = none ∧ DrAll K A xs l
  ob : ∀ p C fs, m p = some (.ob C fs) → ∃ dx fv, H p = some (.ins C dx fv) ∧ A p = none ∧ DrFs K A fv fs

/-- the tables of code objects that the written part leaves open (of defs that make lambdas) -/
def tabOf (K : PySem.W.Frag) (o : Obj) : Option (Addr × Str) := match o.data with
  | .func fd => (match fd.code with
    | .ref c => (match K.lookup c with
      | some oc => (match oc.data with
        | .fields vs => (match (vs[11]? : Option Value) with
          | some (Value.ref P) => if (K.lookup P).isNone then some (P, fd.qualname ++ ".<locals>." ++ "<lambda>") else none
          | _ => none)
        | _ => none)
      | none => none)
    | _ => none)
  | _ => none
def TK (K : PySem.W.Frag) : List (Addr × Str) := K.filterMap fun p => tabOf K p.2
def TabA (K : PySem.W.Frag) (A H : Hp) : Prop := ∀ p ∈ TK K, LamX.TabS H p.1 p.2 ∧ A p.1 = none
/-- where a frame began -/
structure Gh where
  A0 : Hp
  H0 : Hp
  m0 : Mh
  F : Addr → Prop

structure Rep (K : PySem.W.Frag) (g : Gh) (σ : L2.St) (δ : Dl) (A H : Hp) : Prop where
  sub : Same A H
  old : Same g.A0 A
  new : ∀ b, ¬ g.F b → g.H0 b ≠ none → A b = g.A0 b
  keep : ∀ b o, ¬ g.F b → g.m0 b = none → nt o → g.H0 b = some o → H b = some o
  dm : ∀ b, g.H0 b ≠ none → H b ≠ none
  d1 : ∀ b, g.H0 b ≠ none → g.m0 b = none → δ.m b = none
  d2 : ∀ b, g.m0 b ≠ none → δ.m b ≠ none
  tabs : TabA K A H
  len : σ.length = δ.s.length
  im : ∀ (i : Nat) (d : D), δ.s[i]? = some (.im d) → ∃ v, σ[i]? = some (some v) ∧ Dr K A v d
  ow : ∀ (i : Nat) (l : List D), δ.s[i]? = some (.ow l) → ∃ p xs, σ[i]? = some (some (.ref p)) ∧ H p = some (.lst xs) ∧ A p = none ∧ (g.H0 p = none ∨ g.F p) ∧ δ.m p = none ∧ DrAll K A xs l
  dis : ∀ (i j : Nat) (p : Addr) (l l' : List D), δ.s[i]? = some (.ow l) → δ.s[j]? = some (.ow l') → σ[i]? = some (some (.ref p)) → σ[j]? = some (some (.ref p)) → i = j
  mr : MR K A H δ.m

section
variable {K : PySem.W.Frag} {g : Gh} {σ : L2.St} {δ : Dl} {A H A' H' : Hp} {p : Addr} {o : HO}

theorem same_upd (hp : H p = none) : Same H (upd H p o) := fun b u e => by rw [upd_ne (ne_of_none e hp)]; exact e
theorem Rep.free (R : Rep K g σ δ A H) (hp : H p = none) : A p = none ∧ g.H0 p = none ∧ δ.m p = none := by
  refine ⟨R.sub.free hp, ?_, ?_⟩
  · cases e : g.H0 p with
    | none => rfl
    | some u => exact absurd hp (R.dm p (by rw [e]; simp))
  · cases e : δ.m p with
    | none => rfl
    | some u =>
      cases u with
      | ls l =>
        obtain ⟨xs, h, _⟩ := R.mr.ls p l e
        rw [hp] at h; cases h
      | ob C fs =>
        obtain ⟨dx, fv, h, _⟩ := R.mr.ob p C fs e
        rw [hp] at h; cases h
theorem MR.same {m : Mh} (M : MR K A H m) (hA : Same A A') (hH : ∀ b o, m b ≠ none → H b = some o → H' b = some o) (hN : ∀ b, m b ≠ none → A' b = A b) : MR K A' H' m := by
  refine ⟨fun p l e => ?_, fun p C fs e => ?_⟩
  · obtain ⟨xs, h1, h2, h3⟩ := M.ls p l e
    have n : m p ≠ none := by rw [e]; simp
    exact ⟨xs, hH _ _ n h1, by rw [hN p n]; exact h2, h3.same hA⟩
  · obtain ⟨dx, fv, h1, h2, h3⟩ := M.ob p C fs e
    have n : m p ≠ none := by rw [e]; simp
    exact ⟨dx, fv, hH _ _ n h1, by rw [hN p n]; exact h2, h3.same hA⟩
/-- the general step: A grows, H keeps all that is not known to change -/
theorem Rep.grow (R : Rep K g σ δ A H) (sub : Same A' H') (hA : Same A A') (hH : ∀ b o, nt o → H b = some o → H' b = some o) (hd : ∀ b, H b ≠ none → H' b ≠ none) (hN : ∀ b, H b ≠ none → A' b = A b) (ht : TabA K A' H') : Rep K g σ δ A' H' := by
  have nm : ∀ b, δ.m b ≠ none → H b ≠ none := fun b n z => n ((R.free z).2.2)
  refine ⟨sub, R.old.trans hA, fun b f n => ?_, fun b o f n t e => hH _ _ t (R.keep b o f n t e), fun b n => hd b (R.dm b n), R.d1, R.d2, ht, R.len, fun i d e => ?_, fun i l e => ?_, R.dis, ?_⟩
  · rw [hN b (R.dm b n)]
    exact R.new b f n
  · obtain ⟨v, h1, h2⟩ := R.im i d e
    exact ⟨v, h1, h2.same hA⟩
  · obtain ⟨q, xs, h1, h2, h3, h4, h5, h6⟩ := R.ow i l e
    exact ⟨q, xs, h1, hH _ _ trivial h2, by rw [hN q (by rw [h2]; simp)]; exact h3, h4, h5, h6.same hA⟩
  · refine R.mr.same hA (fun b o n e => ?_) fun b n => hN b (nm b n)
    cases e' : δ.m b with
    | none => exact absurd e' n
    | some u =>
      cases u with
      | ls l =>
        obtain ⟨xs, h1, _⟩ := R.mr.ls b l e'
        rw [e] at h1
        have z := Option.some.inj h1
        subst z
        exact hH _ _ trivial e
      | ob C fs =>
        obtain ⟨dx, fv, h1, _⟩ := R.mr.ob b C fs e'
        rw [e] at h1
        have z := Option.some.inj h1
        subst z
        exact hH _ _ trivial e
theorem tabs_same (h : TabA K A H) (e : Same H H') : TabA K A H' := fun p hp => ⟨(h p hp).1.ext e, (h p hp).2⟩
theorem TabA.put {o : HO} (h : TabA K A H) (hp : ∀ ps, H p ≠ some (.tbl ps)) : TabA K (upd A p o) H := fun q hq => ⟨(h q hq).1, by
  obtain ⟨ps, e, _⟩ := (h q hq).1
  rw [upd_ne (fun z => hp ps (by rw [← z]; exact e))]
  exact (h q hq).2⟩
/-- a new thing that will never change -/
theorem Rep.put (R : Rep K g σ δ A H) (hp : H p = none) : Rep K g σ δ (upd A p o) (upd H p o) := by
  have ha := (R.free hp).1
  refine R.grow (fun b u e => ?_) (same_upd ha) (fun b u _ e => same_upd hp b u e) (fun b n => ?_) (fun b n => ?_) (tabs_same (R.tabs.put (fun ps z => by rw [hp] at z; cases z)) (same_upd hp))
  · by_cases hb : b = p
    · subst hb; rw [upd_same] at e ⊢; exact e
    · rw [upd_ne hb] at e ⊢; exact R.sub b u e
  · by_cases hb : b = p
    · subst hb; exact absurd hp n
    · rw [upd_ne hb]; exact n
  · by_cases hb : b = p
    · subst hb; exact absurd hp n
    · rw [upd_ne hb]
/-- a new thing that may change, of no slot's yet -/
theorem Rep.lay (R : Rep K g σ δ A H) (hp : H p = none) : Rep K g σ δ A (upd H p o) := by
  refine R.grow (R.sub.trans (same_upd hp)) (Same.refl _) (fun b u _ e => same_upd hp b u e) (fun b n => ?_) (fun b n => rfl) (tabs_same R.tabs (same_upd hp))
  by_cases hb : b = p
  · subst hb; exact absurd hp n
  · rw [upd_ne hb]; exact n
/-- from here on: the slots' own lists may change -/
def owned (σ : L2.St) (δ : Dl) (b : Addr) : Prop := ∃ (i : Nat) (l : List D), δ.s[i]? = some (SD.ow l) ∧ σ[i]? = some (some (V.ref b))
def Gh.re (g : Gh) (σ : L2.St) (δ : Dl) (A H : Hp) : Gh := ⟨A, H, δ.m, owned σ δ⟩
theorem Rep.base (R : Rep K g σ δ A H) : Rep K (g.re σ δ A H) σ δ A H :=
  ⟨R.sub, Same.refl _, fun _ _ _ => rfl, fun _ _ _ _ _ e => e, fun _ n => n, fun _ _ n => n, fun _ n => n, R.tabs, R.len, R.im, fun i l e => by
    obtain ⟨q, xs, h1, h2, h3, _, h5, h6⟩ := R.ow i l e
    exact ⟨q, xs, h1, h2, h3, .inr ⟨i, l, e, h1⟩, h5, h6⟩, R.dis, R.mr⟩
theorem Rep.notOwned (R : Rep K g σ δ A H) {b : Addr} (f : ¬ g.F b) (n : g.H0 b ≠ none) : ¬ owned σ δ b := fun ⟨i, l, e, z⟩ => by
  obtain ⟨q, xs, h1, _, _, h4, _⟩ := R.ow i l e
  rw [h1] at z
  cases z
  exact h4.elim n f
theorem Rep.unbase {σ' : L2.St} {δ' : Dl} (R : Rep K g σ δ A H) (R' : Rep K (g.re σ δ A H) σ' δ' A' H') : Rep K g σ' δ' A' H' := by
  refine ⟨R'.sub, R.old.trans R'.old, fun b f n => ?_, fun b o f n t e => ?_, fun b n => R'.dm b (R.dm b n), fun b n z => R'.d1 b (R.dm b n) (R.d1 b n z), fun b n => R'.d2 b (R.d2 b n), R'.tabs, R'.len, R'.im, fun i l e => ?_, R'.dis, R'.mr⟩
  · exact (R'.new b (R.notOwned f n) (R.dm b n)).trans (R.new b f n)
  · have nn : g.H0 b ≠ none := by rw [e]; simp
    exact R'.keep b o (R.notOwned f nn) (R.d1 b nn n) t (R.keep b o f n t e)
  · obtain ⟨q, xs, h1, h2, h3, h4, h5, h6⟩ := R'.ow i l e
    refine ⟨q, xs, h1, h2, h3, ?_, h5, h6⟩
    rcases h4 with h4 | ⟨j, l', e', z⟩
    · refine .inl ?_
      cases q0 : g.H0 q with
      | none => rfl
      | some u => exact absurd h4 (R.dm q (by rw [q0]; simp))
    · obtain ⟨r, ys, k1, _, _, k4, _⟩ := R.ow j l' e'
      rw [k1] at z
      cases z
      exact k4
theorem upd_put (hp : A p = none) : Same A (upd A p o) := same_upd hp
end
end RL
set_option Elab.async false
set_option linter.all false
set_option maxRecDepth 100000
set_option maxHeartbeats 4000000
/-! R2: predicate transformers over data, their link to the readings of HandS; expressions. -/
namespace RL
open PySem PySem.Spec PyProof.Rows L2

structure Er where
  C : Addr
  fs : List (Str × D)
abbrev EXk := Er → Dl → Prop
abbrev DM := Dl → (D → Dl → Prop) → EXk → Prop
abbrev DT := Dl → (Bool → Dl → Prop) → EXk → Prop
abbrev DA := Dl → (List D → Dl → Prop) → EXk → Prop
structure Dn where
  nx : Dl → Prop
  rt : D → Dl → Prop
  bk : Dl → Prop
  ct : Dl → Prop
  ex : EXk
abbrev DS := Dl → Dn → Prop
/-- what is raised -/
def XR (K : PySem.W.Frag) (A : Hp) (cls : Value) (dd : Option Addr) (e : Er) : Prop := cls = .ref e.C ∧ ∃ d fv, dd = some d ∧ A d = some (.xd fv) ∧ DrFs K A fv e.fs

/-- an exception as the wish W has it -/
def LkX (K : PySem.W.Frag) (W : WX) (g : Gh) (σ : L2.St) (EX : EXk) : Prop := ∀ er δ' cls dd A' H', Rep K g σ δ' A' H' → XR K A' cls dd er → EX er δ' → W cls dd σ H'
def LkE (K : PySem.W.Frag) (W : WX) (t : TE) (φ : DM) : Prop := ∀ g σ δ A H P EX Q, Rep K g σ δ A H → φ δ P EX →
  (∀ v d δ' A' H', Rep K g σ δ' A' H' → Same A A' → Dr K A' v d → P d δ' → Q v H') → LkX K W g σ EX → t σ H Q
def LkT (K : PySem.W.Frag) (W : WX) (t : TT) (φ : DT) : Prop := ∀ g σ δ A H P EX Q, Rep K g σ δ A H → φ δ P EX →
  (∀ b δ' A' H', Rep K g σ δ' A' H' → Same A A' → P b δ' → Q b H') → LkX K W g σ EX → t σ H Q
def LkA (K : PySem.W.Frag) (W : WX) (t : TA) (φ : DA) : Prop := ∀ g σ δ A H P EX Q, Rep K g σ δ A H → φ δ P EX →
  (∀ vs ds δ' A' H', Rep K g σ δ' A' H' → Same A A' → DrAll K A' vs ds → P ds δ' → Q vs H') → LkX K W g σ EX → t σ H Q
/-- a list just made -/
structure Fre (K : PySem.W.Frag) (g : Gh) (σ : L2.St) (δ : Dl) (A H : Hp) (p : Addr) (xs : List V) (l : List D) : Prop where
  at' : H p = some (.lst xs)
  a : A p = none
  h0 : g.H0 p = none
  m : δ.m p = none
  ne : ∀ (j : Nat) (l' : List D), δ.s[j]? = some (.ow l') → σ[j]? ≠ some (some (.ref p))
  dr : DrAll K A xs l
def LkF (K : PySem.W.Frag) (W : WX) (t : TE) (φ : DA) : Prop := ∀ g σ δ A H P EX Q, Rep K g σ δ A H → φ δ P EX →
  (∀ p xs l δ' A' H', Rep K g σ δ' A' H' → Same A A' → Fre K g σ δ' A' H' p xs l → P l δ' → Q (.ref p) H') → LkX K W g σ EX → t σ H Q

structure DE (X : Cx) (W : WX) (e : Expr) (t : TE) (φ : DM) : Prop where
  pe : PE X e t
  lk : LkE X.K W t φ
structure DF (X : Cx) (W : WX) (e : Expr) (t : TE) (φ : DA) : Prop where
  pe : PE X e t
  lk : LkF X.K W t φ
structure DTe (X : Cx) (W : WX) (e : Expr) (t : TT) (φ : DT) : Prop where
  pt : PT X e t
  lk : LkT X.K W t φ
structure DW (X : Cx) (W : WX) (e : Expr) (t : TT) (φ : DT) : Prop where
  pw : PW X e t
  lk : LkT X.K W t φ
structure DAr (X : Cx) (W : WX) (es : List Expr) (t : TA) (φ : DA) : Prop where
  pa : PA X es t
  lk : LkA X.K W t φ

/-- a truth value; an int; something that is there -/
def asB : D → (Bool → Prop) → Prop
  | .bl b, P => P b
  | _, _ => False
def asI : D → (Int → Prop) → Prop
  | .int i, P => P i
  | _, _ => False
def asO {α : Type} : Option α → (α → Prop) → Prop
  | some a, P => P a
  | none, _ => False
theorem asB_of {d : D} {P : Bool → Prop} (h : asB d P) : ∃ c, d = .bl c ∧ P c := by
  cases d <;> first | exact h.elim | exact ⟨_, rfl, h⟩
theorem asI_of {d : D} {P : Int → Prop} (h : asI d P) : ∃ c, d = .int c ∧ P c := by
  cases d <;> first | exact h.elim | exact ⟨_, rfl, h⟩
theorem asO_of {α : Type} {d : Option α} {P : α → Prop} (h : asO d P) : ∃ c, d = some c ∧ P c := by
  cases d <;> first | exact h.elim | exact ⟨_, rfl, h⟩
section
variable {X : Cx} {W : WX} {K : PySem.W.Frag}

/-! ### names, constants -/
def mVar (i : Nat) : DM := fun δ P _ =>
  match δ.s[i]? with
  | some (.im d) => P d δ
  | some (.ow l) => P (.lst l) { δ with s := δ.s.set i (.im (.lst l)) }
  | _ => False
theorem get_set {α : Type} {l : List α} {i j : Nat} {x y : α} (h : (l.set i x)[j]? = some y) : (j = i ∧ y = x) ∨ (j ≠ i ∧ l[j]? = some y) := by
  rw [List.getElem?_set] at h
  by_cases e : i = j
  · subst e
    rw [if_pos rfl] at h
    split at h
    · exact .inl ⟨rfl, (Option.some.inj h).symm⟩
    · cases h
  · rw [if_neg e] at h
    exact .inr ⟨fun z => e z.symm, h⟩
theorem Rep.freeze {g : Gh} {σ : L2.St} {δ : Dl} {A H : Hp} {i : Nat} {l : List D} (R : Rep K g σ δ A H) (e : δ.s[i]? = some (.ow l)) :
    ∃ p xs, σ[i]? = some (some (.ref p)) ∧ Rep K g σ { δ with s := δ.s.set i (.im (.lst l)) } (upd A p (.lst xs)) H ∧ Same A (upd A p (.lst xs)) ∧ Dr K (upd A p (.lst xs)) (.ref p) (.lst l) := by
  obtain ⟨p, xs, h1, h2, h3, h4, h5, h6⟩ := R.ow i l e
  have s1 : Same A (upd A p (.lst xs)) := upd_put h3
  have d1 : Dr K (upd A p (.lst xs)) (.ref p) (.lst l) := .lst upd_same (h6.same s1)
  have ne : ∀ b, b ≠ p → upd A p (.lst xs) b = A b := fun b hb => upd_ne hb
  refine ⟨p, xs, h1, ⟨fun b o q => ?_, R.old.trans s1, fun b f n => ?_, R.keep, R.dm, R.d1, R.d2, R.tabs.put (fun ps z => by rw [h2] at z; cases z), ?_, fun j d q => ?_, fun j l' q => ?_, fun j k q l1 l2 a b => ?_, R.mr.same s1 (fun _ _ _ z => z) fun b n => ?_⟩, s1, d1⟩
  · by_cases hb : b = p
    · subst hb; rw [upd_same] at q; rw [h2]; exact q
    · rw [ne b hb] at q; exact R.sub b o q
  · rw [ne b (fun z => by subst z; exact h4.elim n f)]
    exact R.new b f n
  · rw [R.len]
    show δ.s.length = (δ.s.set i _).length
    rw [List.length_set]
  · rcases get_set q with ⟨ej, q2⟩ | ⟨_, q2⟩
    · cases q2
      exact ⟨_, by rw [ej]; exact h1, d1⟩
    · obtain ⟨v, a, b⟩ := R.im j d q2
      exact ⟨v, a, b.same s1⟩
  · rcases get_set q with ⟨_, q2⟩ | ⟨hj, q2⟩
    · cases q2
    · obtain ⟨r, ys, a1, a2, a3, a4, a5, a6⟩ := R.ow j l' q2
      have hr : r ≠ p := fun z => by
        subst z
        exact hj (R.dis j i r l' l q2 e a1 h1)
      exact ⟨r, ys, a1, a2, by rw [ne r hr]; exact a3, a4, a5, a6.same s1⟩
  · rcases get_set a with ⟨_, a2⟩ | ⟨_, a2⟩
    · cases a2
    · rcases get_set b with ⟨_, b2⟩ | ⟨_, b2⟩
      · cases b2
      · exact R.dis j k q l1 l2 a2 b2
  · exact ne b fun z => n (by rw [z]; exact h5)
theorem lk_var (i : Nat) : LkE K W (tVar i) (mVar i) := fun g σ δ A H P EX Q R h hQ _ => by
  unfold mVar at h
  split at h
  · rename_i d e
    obtain ⟨v, h1, h2⟩ := R.im i d e
    exact ⟨v, h1, hQ v d δ A H R (Same.refl _) h2 h⟩
  · rename_i l e
    obtain ⟨p, xs, h1, R', s1, d1⟩ := R.freeze e
    exact ⟨_, h1, hQ _ _ _ _ H R' s1 d1 h⟩
  · exact h.elim
theorem de_var (i : Nat) {x : Str} {pos : Pos} (hN : X.N[i]? = some x := by rfl) (hv : Vis X.env.scope x := by first | exact Or.inl rfl | exact Or.inr (Or.inl rfl) | exact Or.inr (Or.inr rfl)) (hd : (x == ("__debug__" : Str)) = false := by decide)
    (hcd : (x == ("__classdict__" : Str)) = false := by decide) : DE X W (.Name x pos) (tVar i) (mVar i) := ⟨pe_var hN hv hd hcd, lk_var i⟩
def mC (d : D) : DM := fun δ P _ => P d δ
theorem lk_c {v : V} {d : D} (h : ∀ A, Dr K A v d) : LkE K W (tC v) (mC d) := fun g σ δ A H P EX Q R q hQ _ => hQ v d δ A H R (Same.refl _) (h A) q
theorem de_int {i j pos} : DE X W (.Constant (.int i) j pos) (tC (.int i)) (mC (.int i)) := ⟨pe_int, lk_c fun _ => .int i⟩
theorem de_bl {b j pos} : DE X W (.Constant (.bool b) j pos) (tC (.bl b)) (mC (.bl b)) := ⟨pe_bl, lk_c fun _ => .bl b⟩
theorem de_non {j pos} : DE X W (.Constant .none j pos) (tC .non) (mC .non) := ⟨pe_non, lk_c fun _ => .non⟩
theorem de_str {x j pos} : DE X W (.Constant (.str x) j pos) (tC (.str x)) (mC (.str x)) := ⟨pe_str, lk_c fun _ => .str x⟩
/-- a module's constant -/
structure Cst (K : PySem.W.Frag) (mg : Str → Option Value) (x : Str) (v : V) (d : D) : Prop where
  u : ∃ u, mg x = some u ∧ RelV v u
  d : ∀ A, Dr K A v d
theorem de_glob {x : Str} {v : V} {d : D} {pos : Pos} (c : Cst X.K X.mg x v d) (hg : Gl X x := by rfl) (hd : (x == ("__debug__" : Str)) = false := by decide) : DE X W (.Name x pos) (tC v) (mC d) := by
  obtain ⟨u, hu, r⟩ := c.u
  exact ⟨pe_glob hg hu r hd, lk_c c.d⟩

/-! ### operations of two values -/
abbrev O2 := D → D → (D → Prop) → Prop
def OLk (K : PySem.W.Frag) (r : R2) (o : O2) : Prop := ∀ g σ δ A H x y d e P Q, Rep K g σ δ A H → Dr K A x d → Dr K A y e → o d e P →
  (∀ v z A' H', Rep K g σ δ A' H' → Same A A' → Dr K A' v z → P z → Q v H') → r x y H Q
def mOp (o : O2) (a b : DM) : DM := fun δ P EX => a δ (fun x δ1 => b δ1 (fun y δ2 => o x y fun z => P z δ2) EX) EX
theorem lk_op {r : R2} {o : O2} {ta tb : TE} {a b : DM} (ol : OLk K r o) (ha : LkE K W ta a) (hb : LkE K W tb b) : LkE K W (tOp r ta tb) (mOp o a b) := fun g σ δ A H P EX Q R h hQ hX =>
  ha g σ δ A H _ EX _ R h (fun x d δ1 A1 H1 R1 s1 d1 h1 => hb g σ δ1 A1 H1 _ EX _ R1 h1 (fun y e δ2 A2 H2 R2 s2 d2 h2 =>
    ol g σ δ2 A2 H2 x y d e _ Q R2 (d1.same s2) d2 h2 fun v z A3 H3 R3 s3 d3 h3 => hQ v z δ2 A3 H3 R3 ((s1.trans s2).trans s3) d3 h3) hX) hX
variable {e a b c o : Expr} {es : List Expr} {ta tb tc to : TE} {t : TA} {φ φa φb φc : DM} {φs : DA} {pos p apos : Pos}
theorem de_op {op : Operator} {r : R2} {o : O2} (ho : OpR X (binaryOp op) r) (ol : OLk X.K r o) (ha : DE X W a ta φa) (hb : DE X W b tb φb) : DE X W (.BinOp a op b pos) (tOp r ta tb) (mOp o φa φb) :=
  ⟨pe_op ho ha.pe hb.pe, lk_op ol ha.lk hb.lk⟩
theorem de_cmp {op : CmpOp} {r : R2} {o : O2} (ho : OpR X (compareOp op) r) (ol : OLk X.K r o) (ha : DE X W a ta φa) (hb : DE X W b tb φb) (hm : behindInMarks op b = false := by first | exact nobehind _ (by decide) (by decide) | rfl) :
    DE X W (.Compare a [op] [b] pos) (tOp r ta tb) (mOp o φa φb) := ⟨pe_cmpR ho ha.pe hb.pe hm, lk_op ol ha.lk hb.lk⟩
def mChain (o o' : O2) (a b c : DM) : DM := fun δ P EX => a δ (fun x δ1 => b δ1 (fun y δ2 => o x y fun z => asB z fun k => if k = true then c δ2 (fun w δ3 => o' y w fun z => P z δ3) EX else P (.bl false) δ2) EX) EX
theorem de_chain {op op' : CmpOp} {r r' : R2} {o o' : O2} (ho : OpR X (compareOp op) r) (ol : OLk X.K r o) (ho' : OpR X (compareOp op') r') (ol' : OLk X.K r' o') (ha : DE X W a ta φa) (hb : DE X W b tb φb) (hc : DE X W c tc φc)
    (hm : lastMarks [op, op'] [b, c] = false := by with_unfolding_all rfl) : DE X W (.Compare a [op, op'] [b, c] pos) (tChain r r' ta tb tc) (mChain o o' φa φb φc) := by
  refine ⟨pe_chain ho ho' ha.pe hb.pe hc.pe hm, fun g σ δ A H P EX Q R h hQ hX => ?_⟩
  refine ha.lk g σ δ A H _ EX _ R h (fun x d δ1 A1 H1 R1 s1 d1 h1 => ?_) hX
  refine hb.lk g σ δ1 A1 H1 _ EX _ R1 h1 (fun y e δ2 A2 H2 R2 s2 d2 h2 => ?_) hX
  refine ol g σ δ2 A2 H2 x y d e _ _ R2 (d1.same s2) d2 h2 (fun v z A3 H3 R3 s3 d3 h3 => ?_)
  obtain ⟨k, rfl, h3⟩ := asB_of h3
  cases d3
  refine ⟨k, rfl, ?_⟩
  cases k with
  | false => exact hQ _ _ δ2 A3 H3 R3 ((s1.trans s2).trans s3) (.bl false) h3
  | true =>
    refine hc.lk g σ δ2 A3 H3 _ EX _ R3 h3 (fun w f δ4 A4 H4 R4 s4 d4 h4 => ?_) hX
    exact ol' g σ δ4 A4 H4 y w e f _ Q R4 (d2.same (s3.trans s4)) d4 h4 fun v z A5 H5 R5 s5 d5 h5 => hQ v z δ4 A5 H5 R5 (((s1.trans s2).trans (s3.trans s4)).trans s5) d5 h5
/-- one value -/
abbrev O1 := D → (D → Prop) → Prop
def ULk (K : PySem.W.Frag) (r : V → Hp → VK → Prop) (o : O1) : Prop := ∀ g σ δ A H x d P Q, Rep K g σ δ A H → Dr K A x d → o d P →
  (∀ v z A' H', Rep K g σ δ A' H' → Same A A' → Dr K A' v z → P z → Q v H') → r x H Q
def mUn (o : O1) (a : DM) : DM := fun δ P EX => a δ (fun x δ1 => o x fun z => P z δ1) EX
theorem de_un {op : UnaryOp} {r : V → Hp → VK → Prop} {o : O1} (ho : UnR X (unaryOp op) r) (ol : ULk X.K r o) (ha : DE X W a ta φa) : DE X W (.UnaryOp op a pos) (tUn r ta) (mUn o φa) :=
  ⟨pe_un ho ha.pe, fun g σ δ A H P EX Q R h hQ hX => ha.lk g σ δ A H _ EX _ R h (fun x d δ1 A1 H1 R1 s1 d1 h1 =>
    ol g σ δ1 A1 H1 x d _ Q R1 d1 h1 fun v z A3 H3 R3 s3 d3 h3 => hQ v z δ1 A3 H3 R3 (s1.trans s3) d3 h3) hX⟩

/-! ### and, or, not, if: as values; tests -/
def mAnd (a b : DM) : DM := fun δ P EX => a δ (fun x δ1 => asB x fun c => if c = true then b δ1 P EX else P (.bl false) δ1) EX
def mOr (a b : DM) : DM := fun δ P EX => a δ (fun x δ1 => asB x fun c => if c = true then P (.bl true) δ1 else b δ1 P EX) EX
theorem de_and {op} (ha : DE X W a ta φa) (hb : DE X W (.BoolOp .And (b :: es) pos) tb φb) (hop : op = .And := by rfl) : DE X W (.BoolOp op (a :: b :: es) pos) (tAndV ta tb) (mAnd φa φb) := by
  subst hop
  refine ⟨pe_and ha.pe hb.pe, fun g σ δ A H P EX Q R h hQ hX => ha.lk g σ δ A H _ EX _ R h (fun x d δ1 A1 H1 R1 s1 d1 h1 => ?_) hX⟩
  obtain ⟨c, rfl, h1⟩ := asB_of h1
  cases d1
  refine ⟨c, rfl, ?_⟩
  cases c with
  | false => exact hQ _ _ δ1 A1 H1 R1 s1 (.bl false) h1
  | true => exact hb.lk g σ δ1 A1 H1 P EX Q R1 h1 (fun v d δ2 A2 H2 R2 s2 => hQ v d δ2 A2 H2 R2 (s1.trans s2)) hX
theorem de_or {op} (ha : DE X W a ta φa) (hb : DE X W (.BoolOp .Or (b :: es) pos) tb φb) (hop : op = .Or := by rfl) : DE X W (.BoolOp op (a :: b :: es) pos) (tOrV ta tb) (mOr φa φb) := by
  subst hop
  refine ⟨pe_or ha.pe hb.pe, fun g σ δ A H P EX Q R h hQ hX => ha.lk g σ δ A H _ EX _ R h (fun x d δ1 A1 H1 R1 s1 d1 h1 => ?_) hX⟩
  obtain ⟨c, rfl, h1⟩ := asB_of h1
  cases d1
  refine ⟨c, rfl, ?_⟩
  cases c with
  | true => exact hQ _ _ δ1 A1 H1 R1 s1 (.bl true) h1
  | false => exact hb.lk g σ δ1 A1 H1 P EX Q R1 h1 (fun v d δ2 A2 H2 R2 s2 => hQ v d δ2 A2 H2 R2 (s1.trans s2)) hX
theorem de_one {op} (ha : DE X W a ta φa) : DE X W (.BoolOp op [a] pos) ta φa := ⟨pe_one ha.pe, ha.lk⟩
def mNot (a : DM) : DM := fun δ P EX => a δ (fun x δ1 => asB x fun c => P (.bl (!c)) δ1) EX
theorem de_not (ha : DE X W a ta φa) : DE X W (.UnaryOp .Not a pos) (tNotV ta) (mNot φa) := by
  refine ⟨pe_not ha.pe, fun g σ δ A H P EX Q R h hQ hX => ha.lk g σ δ A H _ EX _ R h (fun x d δ1 A1 H1 R1 s1 d1 h1 => ?_) hX⟩
  obtain ⟨c, rfl, h1⟩ := asB_of h1
  cases d1
  exact ⟨c, rfl, hQ _ _ δ1 A1 H1 R1 s1 (.bl _) h1⟩

variable {tA tB' : TT} {τ τ' : DT}
/-- a value that is True or False, as a test -/
def dB (a : DM) : DT := fun δ P EX => a δ (fun x δ1 => asB x fun c => P c δ1) EX
theorem dt_val (ha : DE X W a ta φa) (he : ∀ whole, isTrue a X.env whole = (do let v ← whole; standAt a.pos; holding [v] (truthy v)) := by intro _; rfl) : DTe X W a (tB ta) (dB φa) := by
  refine ⟨pt_val ha.pe he, fun g σ δ A H P EX Q R h hQ hX => ha.lk g σ δ A H _ EX _ R h (fun x d δ1 A1 H1 R1 s1 d1 h1 => ?_) hX⟩
  obtain ⟨c, rfl, h1⟩ := asB_of h1
  cases d1
  exact ⟨c, rfl, hQ c δ1 A1 H1 R1 s1 h1⟩
/-- any value's truth -/
def tru : D → (Bool → Prop) → Prop
  | .non, P => P false
  | .bl b, P => P b
  | .int i, P => P (i != 0)
  | .str s, P => s.length ≤ sizeLine ∧ P ((s.length : Int) != 0)
  | .lst l, P => P (!l.isEmpty)
  | .tup l, P => P (!l.isEmpty)
  | .rol l, P => P (!l.isEmpty)
  | _, _ => False
def dTru (a : DM) : DT := fun δ P EX => a δ (fun x δ1 => tru x fun c => P c δ1) EX
theorem DrAll.isEmpty {A : Hp} {vs : List V} {ds : List D} (h : DrAll K A vs ds) : vs.isEmpty = ds.isEmpty := by cases h <;> rfl
theorem dt_tru (ha : DE X W a ta φa) (he : ∀ whole, isTrue a X.env whole = (do let v ← whole; standAt a.pos; holding [v] (truthy v)) := by intro _; rfl) : DTe X W a (fun σ H Q => ta σ H fun x H' => ∃ k, TruV X.K x H' k ∧ Q k H') (dTru φa) := by
  refine ⟨pt_truth ha.pe he, fun g σ δ A H P EX Q R h hQ hX => ha.lk g σ δ A H _ EX _ R h (fun x d δ1 A1 H1 R1 s1 d1 h1 => ?_) hX⟩
  cases d1 with
  | non => exact ⟨false, rfl, hQ _ δ1 A1 H1 R1 s1 h1⟩
  | bl b => exact ⟨b, rfl, hQ _ δ1 A1 H1 R1 s1 h1⟩
  | int i => exact ⟨_, rfl, hQ _ δ1 A1 H1 R1 s1 h1⟩
  | str z => exact ⟨_, ⟨h1.1, rfl⟩, hQ _ δ1 A1 H1 R1 s1 h1.2⟩
  | lst k1 k2 =>
    rename_i xs ds
    refine ⟨!ds.isEmpty, .inl ⟨xs, SqL.of (R1.sub _ _ k1), ?_⟩, hQ _ δ1 A1 H1 R1 s1 h1⟩
    rw [k2.isEmpty]
  | rol k1 k2 =>
    rename_i xs ds
    refine ⟨!ds.isEmpty, .inl ⟨xs, R1.sub.seq k1, ?_⟩, hQ _ δ1 A1 H1 R1 s1 h1⟩
    rw [k2.isEmpty]
  | tup k1 k2 =>
    rename_i xs ds
    refine ⟨!ds.isEmpty, .inr (.inl ⟨xs, sqT_same R1.sub k1, ?_⟩), hQ _ δ1 A1 H1 R1 s1 h1⟩
    rw [k2.isEmpty]
  | obj _ _ => exact h1.elim
  | exc _ _ _ => exact h1.elim
  | ptr _ => exact h1.elim
def dNot (a : DT) : DT := fun δ P EX => a δ (fun c δ1 => P (!c) δ1) EX
theorem dt_not (ha : DTe X W a tA τ) : DTe X W (.UnaryOp .Not a pos) (tNot tA) (dNot τ) :=
  ⟨pt_not ha.pt, fun g σ δ A H P EX Q R h hQ hX => ha.lk g σ δ A H _ EX _ R h (fun b δ1 A1 H1 R1 s1 h1 => hQ _ δ1 A1 H1 R1 s1 h1) hX⟩
def dAnd (a b : DT) : DT := fun δ P EX => a δ (fun c δ1 => if c = true then b δ1 P EX else P false δ1) EX
def dOr (a b : DT) : DT := fun δ P EX => a δ (fun c δ1 => if c = true then P true δ1 else b δ1 P EX) EX
theorem dw_and (ha : DTe X W a tA τ) (hb : DW X W (.BoolOp .And (b :: es) pos) tB' τ') : DW X W (.BoolOp .And (a :: b :: es) pos) (tAnd tA tB') (dAnd τ τ') := by
  refine ⟨pw_and ha.pt hb.pw, fun g σ δ A H P EX Q R h hQ hX => ha.lk g σ δ A H _ EX _ R h (fun c δ1 A1 H1 R1 s1 h1 => ?_) hX⟩
  cases c with
  | false => exact hQ _ δ1 A1 H1 R1 s1 h1
  | true => exact hb.lk g σ δ1 A1 H1 P EX Q R1 h1 (fun v δ2 A2 H2 R2 s2 => hQ v δ2 A2 H2 R2 (s1.trans s2)) hX
theorem dw_or (ha : DTe X W a tA τ) (hb : DW X W (.BoolOp .Or (b :: es) pos) tB' τ') : DW X W (.BoolOp .Or (a :: b :: es) pos) (tOr tA tB') (dOr τ τ') := by
  refine ⟨pw_or ha.pt hb.pw, fun g σ δ A H P EX Q R h hQ hX => ha.lk g σ δ A H _ EX _ R h (fun c δ1 A1 H1 R1 s1 h1 => ?_) hX⟩
  cases c with
  | true => exact hQ _ δ1 A1 H1 R1 s1 h1
  | false => exact hb.lk g σ δ1 A1 H1 P EX Q R1 h1 (fun v δ2 A2 H2 R2 s2 => hQ v δ2 A2 H2 R2 (s1.trans s2)) hX
theorem dw_and1 (ha : DTe X W a tA τ) : DW X W (.BoolOp .And [a] pos) tA τ := ⟨pw_and1 ha.pt, ha.lk⟩
theorem dw_or1 (ha : DTe X W a tA τ) : DW X W (.BoolOp .Or [a] pos) tA τ := ⟨pw_or1 ha.pt, ha.lk⟩
theorem dt_w (ha : DW X W a tA τ) : DTe X W a tA τ := ⟨ha.pw.pt, ha.lk⟩
def mIf (t : DT) (a b : DM) : DM := fun δ P EX => t δ (fun c δ1 => if c = true then a δ1 P EX else b δ1 P EX) EX
theorem de_if (hc : DTe X W c tA τ) (ha : DE X W a ta φa) (hb : DE X W b tb φb) : DE X W (.IfExp c a b pos) (tIf tA ta tb) (mIf τ φa φb) := by
  refine ⟨pe_ifExp hc.pt ha.pe hb.pe, fun g σ δ A H P EX Q R h hQ hX => hc.lk g σ δ A H _ EX _ R h (fun k δ1 A1 H1 R1 s1 h1 => ?_) hX⟩
  cases k with
  | true => exact ha.lk g σ δ1 A1 H1 P EX Q R1 h1 (fun v d δ2 A2 H2 R2 s2 => hQ v d δ2 A2 H2 R2 (s1.trans s2)) hX
  | false => exact hb.lk g σ δ1 A1 H1 P EX Q R1 h1 (fun v d δ2 A2 H2 R2 s2 => hQ v d δ2 A2 H2 R2 (s1.trans s2)) hX

/-! ### arguments, tuples, lists -/
def aNil : DA := fun δ P _ => P [] δ
def aCons (a : DM) (s : DA) : DA := fun δ P EX => a δ (fun x δ1 => s δ1 (fun xs δ2 => P (x :: xs) δ2) EX) EX
theorem da_nil : DAr X W [] tNil aNil := ⟨pa_nil, fun g σ δ A H P EX Q R h hQ _ => hQ [] [] δ A H R (Same.refl _) .nil h⟩
theorem da_cons (ha : DE X W a ta φa) (hs : DAr X W es t φs) (hst : starEach (a :: es) X.env = (false, eval a X.env) :: starEach es X.env := by rfl) : DAr X W (a :: es) (tCons ta t) (aCons φa φs) := by
  refine ⟨pa_cons ha.pe hs.pa hst, fun g σ δ A H P EX Q R h hQ hX => ha.lk g σ δ A H _ EX _ R h (fun x d δ1 A1 H1 R1 s1 d1 h1 => ?_) hX⟩
  exact hs.lk g σ δ1 A1 H1 _ EX _ R1 h1 (fun vs ds δ2 A2 H2 R2 s2 d2 h2 => hQ _ _ δ2 A2 H2 R2 (s1.trans s2) (.cons (d1.same s2) d2) h2) hX
def mTup (s : DA) : DM := fun δ P EX => s δ (fun xs δ1 => xs.length ≤ sizeLine ∧ P (.tup xs) δ1) EX
theorem de_tup {k} (hs : DAr X W es t φs) : DE X W (.Tuple es k pos) (tTup t) (mTup φs) := by
  refine ⟨pe_tup hs.pa, fun g σ δ A H P EX Q R h hQ hX => hs.lk g σ δ A H _ EX _ R h (fun vs ds δ1 A1 H1 R1 s1 d1 h1 => ?_) hX⟩
  refine ⟨by rw [d1.length]; exact h1.1, fun q hq => ?_⟩
  have sq := upd_put (o := .tup vs) (R1.free hq).1
  exact hQ _ _ δ1 _ _ (R1.put hq) (s1.trans sq) (.tup (SqT.of upd_same) (d1.same sq)) h1.2
def fLst (s : DA) : DA := fun δ P EX => s δ (fun xs δ1 => xs.length ≤ sizeLine ∧ P xs δ1) EX
theorem Rep.fresh {g : Gh} {σ : L2.St} {δ : Dl} {A H : Hp} {p : Addr} {xs : List V} {l : List D} (R : Rep K g σ δ A H) (hp : H p = none) (d : DrAll K A xs l) : Fre K g σ δ A (upd H p (.lst xs)) p xs l := by
  obtain ⟨a, b, c⟩ := R.free hp
  refine ⟨upd_same, a, b, c, fun j l' e z => ?_, d⟩
  obtain ⟨q, ys, h1, h2, _⟩ := R.ow j l' e
  rw [h1] at z
  cases z
  rw [hp] at h2
  cases h2
theorem df_lst (hs : DAr X W es t φs) : DF X W (.List es pos) (tLst t) (fLst φs) := by
  refine ⟨pe_lst hs.pa, fun g σ δ A H P EX Q R h hQ hX => hs.lk g σ δ A H _ EX _ R h (fun vs ds δ1 A1 H1 R1 s1 d1 h1 => ?_) hX⟩
  exact ⟨by rw [d1.length]; exact h1.1, fun q hq => hQ q vs ds δ1 _ _ (R1.lay hq) s1 (R1.fresh hq d1) h1.2⟩
/-- a fresh list as a value -/
def mF (s : DA) : DM := fun δ P EX => s δ (fun xs δ1 => P (.lst xs) δ1) EX
theorem Fre.freeze {g : Gh} {σ : L2.St} {δ : Dl} {A H : Hp} {p : Addr} {xs : List V} {l : List D} (F : Fre K g σ δ A H p xs l) (R : Rep K g σ δ A H) :
    Rep K g σ δ (upd A p (.lst xs)) H ∧ Same A (upd A p (.lst xs)) ∧ Dr K (upd A p (.lst xs)) (.ref p) (.lst l) := by
  have s1 : Same A (upd A p (.lst xs)) := upd_put F.a
  have ne : ∀ b, b ≠ p → upd A p (.lst xs) b = A b := fun b hb => upd_ne hb
  refine ⟨⟨fun b o q => ?_, R.old.trans s1, fun b f n => ?_, R.keep, R.dm, R.d1, R.d2, R.tabs.put (fun ps z => by rw [F.at'] at z; cases z), R.len, fun j d q => ?_, fun j l' q => ?_, R.dis, R.mr.same s1 (fun _ _ _ z => z) fun b n => ne b fun z => n (by rw [z]; exact F.m)⟩, s1, .lst upd_same (F.dr.same s1)⟩
  · by_cases hb : b = p
    · subst hb; rw [upd_same] at q; rw [F.at']; exact q
    · rw [ne b hb] at q; exact R.sub b o q
  · rw [ne b (fun z => n (by rw [z]; exact F.h0))]
    exact R.new b f n
  · obtain ⟨v, a, b⟩ := R.im j d q
    exact ⟨v, a, b.same s1⟩
  · obtain ⟨r, ys, a1, a2, a3, a4, a5, a6⟩ := R.ow j l' q
    have hr : r ≠ p := fun z => by
      subst z
      exact F.ne j l' q a1
    exact ⟨r, ys, a1, a2, by rw [ne r hr]; exact a3, a4, a5, a6.same s1⟩
theorem de_f (hs : DF X W e ta φs) : DE X W e ta (mF φs) := by
  refine ⟨hs.pe, fun g σ δ A H P EX Q R h hQ hX => hs.lk g σ δ A H _ EX _ R h (fun q xs l δ1 A1 H1 R1 s1 F1 h1 => ?_) hX⟩
  obtain ⟨R2, s2, d2⟩ := F1.freeze R1
  exact hQ _ _ δ1 _ _ R2 (s1.trans s2) d2 h1
end
end RL
set_option Elab.async false
set_option linter.all false
set_option maxRecDepth 100000
set_option maxHeartbeats 4000000
/-! R3: operators, subscripts, slices, built-in functions over data. -/
namespace RL
open PySem PySem.Spec PyProof.Rows L2

section
variable {X : Cx} {W : WX} {K : PySem.W.Frag}

/-! ### operators -/
theorem op_or {f : Value → Value → Sem Value} {r r' : R2} (h : OpR X f r) (h' : OpR X f r') : OpR X f (fun x y H Q => r x y H Q ∨ r' x y H Q) := fun pins s σ H x y v u Q I rx ry q =>
  q.elim (fun q => h pins s σ H x y v u Q I rx ry q) fun q => h' pins s σ H x y v u Q I rx ry q
theorem sqT_put {A : Hp} {p : Addr} {xs : List V} {ds : List D} (h : A p = none) (d : DrAll K A xs ds) : Dr K (upd A p (.tup xs)) (.ref p) (.tup ds) := .tup (SqT.of upd_same) (d.same (upd_put h))
theorem lst_put {A : Hp} {p : Addr} {xs : List V} {ds : List D} (h : A p = none) (d : DrAll K A xs ds) : Dr K (upd A p (.lst xs)) (.ref p) (.lst ds) := .lst upd_same (d.same (upd_put h))

def oAdd : O2
  | .int i, .int j, P => P (.int (i + j))
  | .str a, .str b, P => a.length + b.length ≤ sizeLine ∧ P (.str (a ++ b))
  | .lst a, .lst b, P => a.length + b.length ≤ sizeLine ∧ P (.lst (a ++ b))
  | .tup a, .tup b, P => a.length + b.length ≤ sizeLine ∧ P (.tup (a ++ b))
  | _, _, _ => False
def rAdd (K : PySem.W.Frag) : R2 := fun x y H Q => rI0 (fun i j => .int (i + j)) x y H Q ∨ (∃ i j, x = .str i ∧ y = .str j ∧ i.length + j.length ≤ sizeLine ∧ Q (.str (i ++ j)) H) ∨ rCat x y H Q ∨ rCatA K x y H Q
theorem opr_add : OpR X (binaryOp .Add) (rAdd X.K) := op_or op_add (op_or op_add_str (op_or op_cat op_catA))
theorem ol_add : OLk K (rAdd K) oAdd := fun g σ δ A H x y d e P Q R dx dy h hQ => by
  cases dx <;> cases dy <;> try exact h.elim
  · exact .inl ⟨_, _, rfl, rfl, hQ _ _ A H R (Same.refl _) (.int _) h⟩
  · exact .inr (.inl ⟨_, _, rfl, rfl, h.1, hQ _ _ A H R (Same.refl _) (.str _) h.2⟩)
  · rename_i a xs ds a1 a2 b ys es b1 b2
    refine .inr (.inr (.inl ⟨a, b, xs, ys, rfl, rfl, R.sub _ _ a1, R.sub _ _ b1, by rw [a2.length, b2.length]; exact h.1, fun p hp => ?_⟩))
    exact hQ _ _ _ _ (R.put hp) (upd_put (R.free hp).1) (lst_put (R.free hp).1 (a2.append b2)) h.2
  · rename_i a xs ds a1 a2 b ys es b1 b2
    refine .inr (.inr (.inr ⟨a, b, xs, ys, rfl, rfl, sqT_same R.sub a1, sqT_same R.sub b1, by rw [a2.length, b2.length]; exact h.1, fun z => ?_, fun z1 z2 => ?_, fun _ _ p hp => ?_⟩))
    · subst z
      cases a2
      exact hQ _ _ A H R (Same.refl _) (.tup b1 b2) h.2
    · subst z2
      cases b2
      have h2 := h.2
      rw [List.append_nil] at h2
      exact hQ _ _ A H R (Same.refl _) (.tup a1 a2) h2
    · exact hQ _ _ _ _ (R.put hp) (upd_put (R.free hp).1) (sqT_put (R.free hp).1 (a2.append b2)) h.2
def oSub : O2
  | .int i, .int j, P => P (.int (i - j))
  | _, _, _ => False
theorem ol_sub : OLk K (rI0 fun i j => .int (i - j)) oSub := fun g σ δ A H x y d e P Q R dx dy h hQ => by
  cases dx <;> cases dy <;> try exact h.elim
  exact ⟨_, _, rfl, rfl, hQ _ _ A H R (Same.refl _) (.int _) h⟩
def oMul : O2
  | .int i, .int j, P => CMul i j ∧ P (.int (i * j))
  | .lst a, .int k, P => 0 ≤ k ∧ k < 2 ^ 63 ∧ a.length * k.toNat ≤ sizeLine ∧ P (.lst (List.replicate k.toNat a).flatten)
  | .tup a, .int k, P => a ≠ [] ∧ 2 ≤ k ∧ k ≤ 1000 ∧ a.length ≤ 1000 ∧ P (.tup (List.replicate k.toNat a).flatten)
  | _, _, _ => False
def rMul (K : PySem.W.Frag) : R2 := fun x y H Q => rI CMul (fun i j => .int (i * j)) x y H Q ∨ rRep x y H Q ∨ rRepT K x y H Q
theorem opr_mul : OpR X (binaryOp .Mult) (rMul X.K) := op_or op_mul (op_or op_rep op_repT)
theorem DrAll.rep {A : Hp} {xs : List V} {ds : List D} (d : DrAll K A xs ds) : ∀ n : Nat, DrAll K A (List.replicate n xs).flatten (List.replicate n ds).flatten
  | 0 => .nil
  | n + 1 => by
    rw [List.replicate_succ, List.replicate_succ, List.flatten_cons, List.flatten_cons]
    exact d.append (DrAll.rep d n)
theorem ol_mul : OLk K (rMul K) oMul := fun g σ δ A H x y d e P Q R dx dy h hQ => by
  cases dx <;> cases dy <;> try exact h.elim
  · exact .inl ⟨_, _, rfl, rfl, h.1, hQ _ _ A H R (Same.refl _) (.int _) h.2⟩
  · rename_i a xs ds a1 a2 k
    refine .inr (.inl ⟨a, k, xs, rfl, rfl, R.sub _ _ a1, by have := h.1; omega, h.2.1, by rw [a2.length]; exact h.2.2.1, fun p hp => ?_⟩)
    exact hQ _ _ _ _ (R.put hp) (upd_put (R.free hp).1) (lst_put (R.free hp).1 (a2.rep _)) h.2.2.2
  · rename_i a xs ds a1 a2 k
    refine .inr (.inr ⟨a, k, xs, rfl, rfl, sqT_same R.sub a1, fun z => ?_, h.2.1, h.2.2.1, by rw [a2.length]; exact h.2.2.2.1, fun p hp => ?_⟩)
    · subst z
      cases a2
      exact h.1 rfl
    · exact hQ _ _ _ _ (R.put hp) (upd_put (R.free hp).1) (sqT_put (R.free hp).1 (a2.rep _)) h.2.2.2.2
def oI2 (C : Int → Int → Prop) (f : Int → Int → Int) : O2
  | .int i, .int j, P => C i j ∧ P (.int (f i j))
  | _, _, _ => False
theorem ol_i2 {C : Int → Int → Prop} {f : Int → Int → Int} : OLk K (rI C fun i j => .int (f i j)) (oI2 C f) := fun g σ δ A H x y d e P Q R dx dy h hQ => by
  cases dx <;> cases dy <;> try exact h.elim
  exact ⟨_, _, rfl, rfl, h.1, hQ _ _ A H R (Same.refl _) (.int _) h.2⟩
abbrev oMod : O2 := oI2 (fun _ j => 0 < j) fun i j => i % j
theorem ol_mod : OLk K (rI (fun _ j => 0 < j) fun i j => .int (i % j)) oMod := ol_i2
abbrev oFdiv : O2 := oI2 CDiv fun i j => i / j
theorem ol_fdiv : OLk K (rI CDiv fun i j => .int (i / j)) oFdiv := ol_i2
abbrev oPow : O2 := oI2 CPow fun i j => i ^ j.toNat
theorem ol_pow : OLk K (rI CPow fun i j => .int (i ^ j.toNat)) oPow := ol_i2
def oB2 (f : Int → Int → Bool) : O2
  | .int i, .int j, P => P (.bl (f i j))
  | _, _, _ => False
theorem ol_b2 {f : Int → Int → Bool} : OLk K (rI0 fun i j => .bl (f i j)) (oB2 f) := fun g σ δ A H x y d e P Q R dx dy h hQ => by
  cases dx <;> cases dy <;> try exact h.elim
  exact ⟨_, _, rfl, rfl, hQ _ _ A H R (Same.refl _) (.bl _) h⟩
abbrev oLt : O2 := oB2 fun i j => decide (i < j)
abbrev oLe : O2 := oB2 fun i j => decide (i ≤ j)
abbrev oGt : O2 := oB2 fun i j => decide (j < i)
abbrev oGe : O2 := oB2 fun i j => decide (j ≤ i)
def oNeg : O1
  | .int i, P => P (.int (-i))
  | _, _ => False
theorem ul_neg : ULk K (rU fun i => .int (-i)) oNeg := fun g σ δ A H x d P Q R dx h hQ => by
  cases dx <;> try exact h.elim
  exact ⟨_, rfl, hQ _ _ A H R (Same.refl _) (.int _) h⟩

/-! ### equality of data -/
mutual
def D.py : D → PyData
  | .non => .none
  | .bl b => .bool b
  | .int i => .int i
  | .str s => .str s
  | .lst l => .list (pyAll l)
  | .rol l => .list (pyAll l)
  | .tup l => .tuple (pyAll l)
  | .obj _ _ => .none
  | .exc _ _ => .none
  | .ptr _ => .none
def pyAll : List D → List PyData
  | [] => []
  | d :: ds => d.py :: pyAll ds
end
mutual
def D.dat : D → Bool
  | .lst l => datAll l
  | .rol l => datAll l
  | .tup l => datAll l
  | .obj _ _ => false
  | .exc _ _ => false
  | .ptr _ => false
  | .non => true
  | .bl _ => true
  | .int _ => true
  | .str _ => true
def datAll : List D → Bool
  | [] => true
  | d :: ds => d.dat && datAll ds
end
mutual
theorem Dr.dp {A H : Hp} (e : Same A H) : ∀ (d : D) {v : V}, Dr K A v d → d.dat = true → Dp K H v d.py
  | .non, _, h, _ => by cases h; exact .non
  | .bl b, _, h, _ => by cases h; exact .bl b
  | .int i, _, h, _ => by cases h; exact .int i
  | .str x, _, h, _ => by cases h; exact .str x
  | .lst l, _, h, k => by
    cases h with
    | lst h1 h2 => exact .lst (SqL.of (e _ _ h1)) (DrAll.dp e l h2 (by simpa [D.dat] using k))
  | .rol l, _, h, k => by
    cases h with
    | rol h1 h2 => exact .lst (e.seq h1) (DrAll.dp e l h2 (by simpa [D.dat] using k))
  | .tup l, _, h, k => by
    cases h with
    | tup h1 h2 => exact .tup (sqT_same e h1) (DrAll.dp e l h2 (by simpa [D.dat] using k))
  | .obj _ _, _, _, k => by simp [D.dat] at k
  | .exc _ _, _, _, k => by simp [D.dat] at k
  | .ptr _, _, _, k => by simp [D.dat] at k
theorem DrAll.dp {A H : Hp} (e : Same A H) : ∀ (ds : List D) {vs : List V}, DrAll K A vs ds → datAll ds = true → DpAll K H vs (pyAll ds)
  | [], _, h, _ => by cases h; exact .nil
  | d :: ds, _, h, k => by
    cases h with
    | cons h1 h2 =>
      have k' : d.dat = true ∧ datAll ds = true := by simpa [datAll] using k
      exact .cons (Dr.dp e d h1 k'.1) (DrAll.dp e ds h2 k'.2)
end
/-- fit for == : no objects in it, not too deep -/
def D.ok (d : D) : Bool := d.dat && SeqAt.shaped d.py
def D.eqv (d e : D) : Bool := PyData.eqv d.py e.py
def oEq : O2
  | .int a, .int b, P => P (.bl (decide (a = b)))
  | .str a, .str b, P => P (.bl (decide (a = b)))
  | d, e, P => d.ok = true ∧ e.ok = true ∧ P (.bl (d.eqv e))
def oNe : O2
  | .int a, .int b, P => P (.bl (!decide (a = b)))
  | .str a, .str b, P => P (.bl (!decide (a = b)))
  | d, e, P => d.ok = true ∧ e.ok = true ∧ P (.bl (!d.eqv e))
def rEqG (K : PySem.W.Frag) : R2 := fun x y H Q => rEq x y H Q ∨ rEqD K x y H Q
def rNeG (K : PySem.W.Frag) : R2 := fun x y H Q => rNe x y H Q ∨ rNeD K x y H Q
theorem opr_eq (hu : X.A.units + 64 < cLine) : OpR X (compareOp .Eq) (rEqG X.K) := op_or op_eq (op_eqD hu)
theorem opr_ne (hu : X.A.units + 64 < cLine) : OpR X (compareOp .NotEq) (rNeG X.K) := op_or op_ne (op_neD hu)
theorem decV_int (a b : Int) : decide (V.int a = V.int b) = decide (a = b) := by
  by_cases h : a = b
  · rw [h, decide_eq_true rfl, decide_eq_true rfl]
  · rw [decide_eq_false h, decide_eq_false fun e => h (V.int.inj e)]
theorem decV_str (a b : Str) : decide (V.str a = V.str b) = decide (a = b) := by
  by_cases h : a = b
  · rw [h, decide_eq_true rfl, decide_eq_true rfl]
  · rw [decide_eq_false h, decide_eq_false fun e => h (V.str.inj e)]
theorem ol_eq : OLk K (rEqG K) oEq := fun g σ δ A H x y d e P Q R dx dy h hQ => by
  have big : ∀ {d' e' : D}, Dr K A x d' → Dr K A y e' → (d'.ok = true ∧ e'.ok = true ∧ P (.bl (d'.eqv e'))) → rEqG K x y H Q := fun {d' e'} dx dy h => by
    obtain ⟨h1, h2, h3⟩ := h
    rw [D.ok, Bool.and_eq_true] at h1 h2
    exact .inr ⟨_, _, dx.dp R.sub _ h1.1, dy.dp R.sub _ h2.1, h1.2, h2.2, hQ _ _ A H R (Same.refl _) (.bl _) h3⟩
  unfold oEq at h
  split at h
  · cases dx
    cases dy
    refine .inl ⟨rfl, ?_⟩
    rw [decV_int]
    exact hQ _ _ A H R (Same.refl _) (.bl _) h
  · cases dx
    cases dy
    refine .inl ⟨rfl, ?_⟩
    rw [decV_str]
    exact hQ _ _ A H R (Same.refl _) (.bl _) h
  · exact big dx dy h
theorem ol_ne : OLk K (rNeG K) oNe := fun g σ δ A H x y d e P Q R dx dy h hQ => by
  have big : ∀ {d' e' : D}, Dr K A x d' → Dr K A y e' → (d'.ok = true ∧ e'.ok = true ∧ P (.bl (!d'.eqv e'))) → rNeG K x y H Q := fun {d' e'} dx dy h => by
    obtain ⟨h1, h2, h3⟩ := h
    rw [D.ok, Bool.and_eq_true] at h1 h2
    exact .inr ⟨_, _, dx.dp R.sub _ h1.1, dy.dp R.sub _ h2.1, h1.2, h2.2, hQ _ _ A H R (Same.refl _) (.bl _) h3⟩
  unfold oNe at h
  split at h
  · cases dx
    cases dy
    refine .inl ⟨rfl, ?_⟩
    rw [decV_int]
    exact hQ _ _ A H R (Same.refl _) (.bl _) h
  · cases dx
    cases dy
    refine .inl ⟨rfl, ?_⟩
    rw [decV_str]
    exact hQ _ _ A H R (Same.refl _) (.bl _) h
  · exact big dx dy h
def D.isN : D → Bool
  | .non => true
  | _ => false
theorem Dr.isN {A : Hp} {v : V} {d : D} (h : Dr K A v d) : decide (v = .non) = d.isN := by
  cases h <;> first | rfl | (simp [D.isN])
def oIsN : O2
  | d, .non, P => P (.bl d.isN)
  | _, _, _ => False
theorem ol_isN : OLk K (fun x y H Q => y = .non ∧ Q (.bl (decide (x = .non))) H) oIsN := fun g σ δ A H x y d e P Q R dx dy h hQ => by
  cases dy <;> try exact h.elim
  exact ⟨rfl, by rw [dx.isN]; exact hQ _ _ A H R (Same.refl _) (.bl _) h⟩
def oNotN : O2
  | d, .non, P => P (.bl (!d.isN))
  | _, _, _ => False
theorem ol_notN : OLk K (fun x y H Q => y = .non ∧ Q (.bl (!decide (x = .non))) H) oNotN := fun g σ δ A H x y d e P Q R dx dy h hQ => by
  cases dy <;> try exact h.elim
  exact ⟨rfl, by rw [dx.isN]; exact hQ _ _ A H R (Same.refl _) (.bl _) h⟩

/-! ### x in a list or tuple of flat things; in a text -/
def D.fv : D → V
  | .bl b => .bl b
  | .int i => .int i
  | .str s => .str s
  | _ => .non
def D.flat : D → Bool
  | .non => true
  | .bl _ => true
  | .int _ => true
  | .str _ => true
  | _ => false
theorem Dr.fv {A : Hp} {v : V} {d : D} (h : Dr K A v d) (f : d.flat = true) : v = d.fv ∧ flatV v = true := by cases h <;> first | exact ⟨rfl, rfl⟩ | cases f
theorem DrAll.fv {A : Hp} : ∀ {vs : List V} {ds : List D}, DrAll K A vs ds → ds.all D.flat = true → vs = ds.map D.fv ∧ vs.all flatV = true
  | _, _, .nil, _ => ⟨rfl, rfl⟩
  | _, _, .cons a b, f => by
    rw [List.all_cons, Bool.and_eq_true] at f
    obtain ⟨h1, h2⟩ := a.fv f.1
    obtain ⟨h3, h4⟩ := DrAll.fv b f.2
    rw [List.map_cons, List.all_cons, h1, h3, ← h1, ← h3, h2, h4]
    exact ⟨rfl, rfl⟩
/-- is d among flat things -/
def D.among (d : D) (ds : List D) : Bool := inV d.fv (ds.map D.fv)
def D.items : D → Option (List D)
  | .lst l => some l
  | .rol l => some l
  | .tup l => some l
  | _ => none
theorem Dr.items {A H : Hp} {v : V} {d : D} {l : List D} (e : Same A H) (h : Dr K A v d) (k : d.items = some l) : ∃ p xs, v = .ref p ∧ (SqL K H p xs ∨ SqT K H p xs) ∧ DrAll K A xs l := by
  cases h <;> cases k
  · rename_i a xs h1 h2; exact ⟨a, xs, rfl, .inl (SqL.of (e _ _ h1)), h2⟩
  · rename_i a xs h1 h2; exact ⟨a, xs, rfl, .inl (e.seq h1), h2⟩
  · rename_i a xs h1 h2; exact ⟨a, xs, rfl, .inr (sqT_same e h1), h2⟩
def asS : D → (Str → Prop) → Prop
  | .str i, P => P i
  | _, _ => False
theorem asS_of {d : D} {P : Str → Prop} (h : asS d P) : ∃ c, d = .str c ∧ P c := by
  cases d <;> first | exact h.elim | exact ⟨_, rfl, h⟩
def oIn (neg : Bool) : O2 := fun d e P =>
  match e with
  | .str t => asS d fun s => P (.bl (if neg then !(!(Builtin.Str.occurrences t s 0 t.length 1).isEmpty) else !(Builtin.Str.occurrences t s 0 t.length 1).isEmpty))
  | e => asO e.items fun l => d.flat = true ∧ l.all D.flat = true ∧ P (.bl (if neg then !d.among l else d.among l))
def rInB (K : PySem.W.Frag) : R2 := fun x y H Q => rIn K false x y H Q ∨ ∃ i j, x = .str i ∧ y = .str j ∧ Q (.bl (!(Builtin.Str.occurrences j i 0 j.length 1).isEmpty)) H
def rNotInB (K : PySem.W.Frag) : R2 := fun x y H Q => rIn K true x y H Q ∨ ∃ i j, x = .str i ∧ y = .str j ∧ Q (.bl (!(!(Builtin.Str.occurrences j i 0 j.length 1).isEmpty))) H
theorem opr_in : OpR X (compareOp .In) (rInB X.K) := op_or op_in_seq op_in_str
theorem opr_notIn : OpR X (compareOp .NotIn) (rNotInB X.K) := op_or op_notIn_seq op_notIn_str
theorem ol_inG {neg : Bool} {r : R2} (h1 : ∀ x y H Q, rIn K neg x y H Q → r x y H Q)
    (h2 : ∀ i j H Q, Q (.bl (if neg then !(!(Builtin.Str.occurrences j i 0 j.length 1).isEmpty) else !(Builtin.Str.occurrences j i 0 j.length 1).isEmpty)) H → r (.str i) (.str j) H Q) : OLk K r (oIn neg) := fun g σ δ A H x y d e P Q R dx dy h hQ => by
  have seq : (asO e.items fun l => d.flat = true ∧ l.all D.flat = true ∧ P (.bl (if neg then !d.among l else d.among l))) → r x y H Q := fun h => by
    obtain ⟨l, k, f1, f2, q⟩ := asO_of h
    obtain ⟨p, xs, rfl, hs, ha⟩ := dy.items R.sub k
    obtain ⟨e1, g1⟩ := dx.fv f1
    obtain ⟨e2, g2⟩ := ha.fv f2
    refine h1 _ _ _ _ ⟨p, xs, rfl, hs, g1, g2, ?_⟩
    rw [e1, e2]
    exact hQ _ _ A H R (Same.refl _) (.bl _) q
  cases dy with
  | str t =>
    obtain ⟨s, rfl, q⟩ := asS_of h
    cases dx
    exact h2 _ _ _ _ (hQ _ _ A H R (Same.refl _) (.bl _) q)
  | _ => exact seq h
theorem ol_in : OLk K (rInB K) (oIn false) := ol_inG (fun _ _ _ _ q => .inl q) fun i j H Q q => .inr ⟨i, j, rfl, rfl, q⟩
theorem ol_notIn : OLk K (rNotInB K) (oIn true) := ol_inG (fun _ _ _ _ q => .inl q) fun i j H Q q => .inr ⟨i, j, rfl, rfl, q⟩

/-! ### subscripts, slices -/
variable {e a b c o : Expr} {es : List Expr} {ta tb tc to : TE} {t : TA} {φ φa φb φc : DM} {φs : DA} {pos p apos p2 : Pos}
def oIx : O2
  | .lst l, .int i, P => asO (atI l i) P
  | .rol l, .int i, P => asO (atI l i) P
  | .tup l, .int i, P => asO (atI l i) P
  | .str z, .int i, P => z.length ≤ sizeLine ∧ asO (atI z.cps.toList i) fun c => P (.str ⟨#[c]⟩)
  | _, _, _ => False
theorem DrAll.atI {A : Hp} {xs : List V} {ds : List D} {i : Int} {d : D} (h : DrAll K A xs ds) (e : atI ds i = some d) : ∃ v, L2.atI xs i = some v ∧ Dr K A v d := by
  unfold L2.atI at e ⊢
  rw [h.length]
  cases q : ixN ds.length i with
  | none => rw [q] at e; cases e
  | some j =>
    rw [q] at e
    exact h.get' e
theorem ol_ix : OLk K (rIx K) oIx := fun g σ δ A H x y d e P Q R dx dy h hQ => by
  cases dx <;> cases dy <;> try exact h.elim
  · obtain ⟨hz, h⟩ := h
    obtain ⟨c, e, q⟩ := asO_of h
    exact .inr (.inr ⟨_, _, c, rfl, rfl, hz, e, hQ _ _ A H R (Same.refl _) (.str _) q⟩)
  · rename_i a xs ds a1 a2 k
    obtain ⟨d, e, q⟩ := asO_of h
    obtain ⟨v, e2, dv⟩ := a2.atI e
    exact .inl ⟨a, xs, k, v, rfl, rfl, SqL.of (R.sub _ _ a1), e2, hQ _ _ A H R (Same.refl _) dv q⟩
  · rename_i a xs ds a1 a2 k
    obtain ⟨d, e, q⟩ := asO_of h
    obtain ⟨v, e2, dv⟩ := a2.atI e
    exact .inl ⟨a, xs, k, v, rfl, rfl, R.sub.seq a1, e2, hQ _ _ A H R (Same.refl _) dv q⟩
  · rename_i a xs ds a1 a2 k
    obtain ⟨d, e, q⟩ := asO_of h
    obtain ⟨v, e2, dv⟩ := a2.atI e
    exact .inr (.inl ⟨a, xs, k, v, rfl, rfl, sqT_same R.sub a1, e2, hQ _ _ A H R (Same.refl _) dv q⟩)
theorem de_ix (ha : DE X W a ta φa) (hb : DE X W b tb φb) (hs : PlainIx b := by exact fun _ _ => rfl) : DE X W (.Subscript a b pos) (tOp (rIx X.K) ta tb) (mOp oIx φa φb) := ⟨pe_ix ix_seq ha.pe hb.pe hs, lk_op ol_ix ha.lk hb.lk⟩

/-- a slice's bound -/
abbrev DP' := Dl → (Option Int → Dl → Prop) → EXk → Prop
def LkP (K : PySem.W.Frag) (W : WX) (t : TO) (φ : DP') : Prop := ∀ g σ δ A H P EX Q, Rep K g σ δ A H → φ δ P EX →
  (∀ o δ' A' H', Rep K g σ δ' A' H' → Same A A' → P o δ' → Q o H') → LkX K W g σ EX → t σ H Q
structure DPo (X : Cx) (W : WX) (e : Option Expr) (t : TO) (φ : DP') : Prop where
  po : PO X e t
  lk : LkP X.K W t φ
def pNone : DP' := fun δ P _ => P none δ
theorem dp_none : DPo X W none tNoPart pNone := ⟨po_none, fun g σ δ A H P EX Q R h hQ _ => hQ none δ A H R (Same.refl _) h⟩
def pSome (a : DM) : DP' := fun δ P EX => a δ (fun x δ1 => asI x fun i => P (some i) δ1) EX
theorem dp_some (ha : DE X W a ta φa) : DPo X W (some a) (tPart ta) (pSome φa) := by
  refine ⟨po_some ha.pe, fun g σ δ A H P EX Q R h hQ hX => ha.lk g σ δ A H _ EX _ R h (fun x d δ1 A1 H1 R1 s1 d1 h1 => ?_) hX⟩
  obtain ⟨i, rfl, h1⟩ := asI_of h1
  cases d1
  exact ⟨i, rfl, hQ _ δ1 A1 H1 R1 s1 h1⟩
def cut (l : List D) (lo hi : Option Int) : List D := (l.drop (HT.sIx l.length 0 lo)).take (HT.sIx l.length l.length hi - HT.sIx l.length 0 lo)
theorem DrAll.cut {A : Hp} {xs : List V} {ds : List D} (h : DrAll K A xs ds) (lo hi : Option Int) : DrAll K A (cutV xs lo hi) (cut ds lo hi) := by
  unfold cutV RL.cut
  rw [h.length]
  exact (h.drop _).take _
variable {lo hi : Option Expr} {tl th : TO} {φl φh : DP'}
/-- a slice of a list: a new list -/
def fSl (a : DM) (l h : DP') : DA := fun δ P EX => a δ (fun x δ1 => l δ1 (fun i δ2 => h δ2 (fun j δ3 => match x with | .lst xs => P (cut xs i j) δ3 | .rol xs => P (cut xs i j) δ3 | _ => False) EX) EX) EX
theorem df_slice (ha : DE X W a ta φa) (hl : DPo X W lo tl φl) (hh : DPo X W hi th φh) : DF X W (.Subscript a (.Slice lo hi none p2) pos) (tSl (rSlL X.K) ta tl th) (fSl φa φl φh) := by
  refine ⟨pe_slice sl_list ha.pe hl.po hh.po, fun g σ δ A H P EX Q R h hQ hX => ha.lk g σ δ A H _ EX _ R h (fun x d δ1 A1 H1 R1 s1 d1 h1 => ?_) hX⟩
  refine hl.lk g σ δ1 A1 H1 _ EX _ R1 h1 (fun i δ2 A2 H2 R2 s2 h2 => ?_) hX
  refine hh.lk g σ δ2 A2 H2 _ EX _ R2 h2 (fun j δ3 A3 H3 R3 s3 h3 => ?_) hX
  have d3 := (d1.same s2).same s3
  cases d3 <;> try exact h3.elim
  · rename_i q xs ds k1 k2
    exact ⟨q, xs, rfl, SqL.of (R3.sub _ _ k1), fun r hr => hQ r _ _ δ3 _ _ (R3.lay hr) ((s1.trans s2).trans s3) (R3.fresh hr (k2.cut i j)) h3⟩
  · rename_i q xs ds k1 k2
    exact ⟨q, xs, rfl, R3.sub.seq k1, fun r hr => hQ r _ _ δ3 _ _ (R3.lay hr) ((s1.trans s2).trans s3) (R3.fresh hr (k2.cut i j)) h3⟩
/-- any slice, as a value -/
def rSlB (K : PySem.W.Frag) : V → Option Int → Option Int → Hp → VK → Prop := fun x lo hi H Q => rSlL K x lo hi H Q ∨ rSlA K x lo hi H Q ∨ rSlS x lo hi H Q
theorem slr_b : SlR X (rSlB X.K) := SlR.or sl_list (SlR.or sl_tupA sl_str)
def mSl (a : DM) (l h : DP') : DM := fun δ P EX => a δ (fun x δ1 => l δ1 (fun i δ2 => h δ2 (fun j δ3 => match x with
  | .lst xs => P (.lst (cut xs i j)) δ3
  | .rol xs => P (.lst (cut xs i j)) δ3
  | .tup xs => P (.tup (cut xs i j)) δ3
  | .str z => z.length ≤ sizeLine ∧ P (.str (cutS z i j)) δ3
  | _ => False) EX) EX) EX
theorem cut_all (l : List D) (lo hi : Option Int) (h : HT.sIx l.length 0 lo = 0 ∧ HT.sIx l.length l.length hi = l.length) : cut l lo hi = l := by
  unfold RL.cut
  rw [h.1, h.2]
  simp
theorem de_slice (ha : DE X W a ta φa) (hl : DPo X W lo tl φl) (hh : DPo X W hi th φh) : DE X W (.Subscript a (.Slice lo hi none p2) pos) (tSl (rSlB X.K) ta tl th) (mSl φa φl φh) := by
  refine ⟨pe_slice slr_b ha.pe hl.po hh.po, fun g σ δ A H P EX Q R h hQ hX => ha.lk g σ δ A H _ EX _ R h (fun x d δ1 A1 H1 R1 s1 d1 h1 => ?_) hX⟩
  refine hl.lk g σ δ1 A1 H1 _ EX _ R1 h1 (fun i δ2 A2 H2 R2 s2 h2 => ?_) hX
  refine hh.lk g σ δ2 A2 H2 _ EX _ R2 h2 (fun j δ3 A3 H3 R3 s3 h3 => ?_) hX
  have s0 := (s1.trans s2).trans s3
  have d3 := (d1.same s2).same s3
  cases d3 <;> try exact h3.elim
  · rename_i z
    exact .inr (.inr ⟨z, rfl, h3.1, hQ _ _ δ3 A3 H3 R3 s0 (.str _) h3.2⟩)
  · rename_i q xs ds k1 k2
    exact .inl ⟨q, xs, rfl, SqL.of (R3.sub _ _ k1), fun r hr => hQ _ _ δ3 _ _ (R3.put hr) (s0.trans (upd_put (R3.free hr).1)) (lst_put (R3.free hr).1 (k2.cut i j)) h3⟩
  · rename_i q xs ds k1 k2
    exact .inl ⟨q, xs, rfl, R3.sub.seq k1, fun r hr => hQ _ _ δ3 _ _ (R3.put hr) (s0.trans (upd_put (R3.free hr).1)) (lst_put (R3.free hr).1 (k2.cut i j)) h3⟩
  · rename_i q xs ds k1 k2
    refine .inr (.inl ⟨q, xs, rfl, sqT_same R3.sub k1, fun w => ?_, fun w r hr => ?_⟩)
    · rw [k2.length] at w
      have h4 : P (.tup (cut ds i j)) δ3 := h3
      rw [cut_all ds i j w] at h4
      exact hQ _ _ δ3 A3 H3 R3 s0 (.tup k1 k2) h4
    · exact hQ _ _ δ3 _ _ (R3.put hr) (s0.trans (upd_put (R3.free hr).1)) (sqT_put (R3.free hr).1 (k2.cut i j)) h3
end
end RL
set_option Elab.async false
set_option linter.all false
set_option maxRecDepth 100000
set_option maxHeartbeats 4000000
/-! R4: built-in functions, calls of defs, fields, comprehensions. -/
namespace RL
open PySem PySem.Spec PyProof.Rows L2

section
variable {X : Cx} {W : WX} {K : PySem.W.Frag}
variable {e a b c o : Expr} {es : List Expr} {ta tb tc to : TE} {t : TA} {φ φa φb φc : DM} {φs : DA} {pos p apos p2 : Pos}

/-! ### built-in functions -/
abbrev OA := List D → (D → Prop) → Prop
def BLk (K : PySem.W.Frag) (r : List V → Hp → VK → Prop) (o : OA) : Prop := ∀ g σ δ A H xs ds P Q, Rep K g σ δ A H → DrAll K A xs ds → o ds P →
  (∀ v z A' H', Rep K g σ δ A' H' → Same A A' → Dr K A' v z → P z → Q v H') → r xs H Q
def mCB (o : OA) (s : DA) : DM := fun δ P EX => s δ (fun ds δ1 => o ds fun z => P z δ1) EX
theorem lk_cb {r : List V → Hp → VK → Prop} {o : OA} (bl : BLk K r o) (hs : LkA K W t φs) : LkE K W (tCB r t) (mCB o φs) := fun g σ δ A H P EX Q R h hQ hX =>
  hs g σ δ A H _ EX _ R h (fun xs ds δ1 A1 H1 R1 s1 d1 h1 => bl g σ δ1 A1 H1 xs ds _ Q R1 d1 h1 fun v z A2 H2 R2 s2 d2 h2 => hQ v z δ1 A2 H2 R2 (s1.trans s2) d2 h2) hX
theorem de_callB {x : Str} {id : String} {r : List V → Hp → VK → Prop} {o : OA} (hc : CallR X (.builtin id) r) (bl : BLk X.K r o) (hm : X.mg x = none) (ha : DAr X W (e :: es) t φs) (hv : bootBuiltins x = some (.builtin id)) (hg : Gl X x)
    (hn : x ≠ "__name__" := by decide) (hdb : (x == ("__debug__" : Str)) = false := by decide)
    (he : starEach (e :: es) X.env = (false, eval e X.env) :: starEach es X.env := by rfl) (hpl : (backTo pos (starEach es X.env)).any (·.1) = false := by rfl) : DE X W (.Call (.Name x p) (e :: es) [] pos) (tCB r t) (mCB o φs) :=
  ⟨pe_callB hc hg hm hv ha.pa hn hdb he hpl, lk_cb bl ha.lk⟩
theorem de_callTy {x : Str} {T : String} {r : List V → Hp → VK → Prop} {o : OA} (hc : CallR X (.type T) r) (bl : BLk X.K r o) (hm : X.mg x = none) (ha : DAr X W (e :: es) t φs) (hv : bootBuiltins x = some (.type T)) (hg : Gl X x)
    (hn : x ≠ "__name__" := by decide) (hdb : (x == ("__debug__" : Str)) = false := by decide)
    (he : starEach (e :: es) X.env = (false, eval e X.env) :: starEach es X.env := by rfl) (hpl : (backTo pos (starEach es X.env)).any (·.1) = false := by rfl) : DE X W (.Call (.Name x p) (e :: es) [] pos) (tCB r t) (mCB o φs) :=
  ⟨pe_callTy hc hg hm hv ha.pa hn hdb he hpl, lk_cb bl ha.lk⟩

abbrev rLen (K : PySem.W.Frag) : List V → Hp → VK → Prop := fun xs H Q => ∃ x n, xs = [x] ∧ LenV K x H n ∧ Q (.int n) H
abbrev rI1 (f : Int → Int) : List V → Hp → VK → Prop := fun xs H Q => ∃ i, xs = [.int i] ∧ Q (.int (f i)) H
abbrev rI2a (f : Int → Int → Int) : List V → Hp → VK → Prop := fun xs H Q => ∃ i j, xs = [.int i, .int j] ∧ Q (.int (f i j)) H
abbrev rIntG : List V → Hp → VK → Prop := fun xs H Q => ((∃ i, xs = [.int i] ∧ Q (.int i) H) ∨ ∃ k, xs = [.bl k] ∧ Q (.int (if k then 1 else 0)) H) ∨ ∃ a n, xs = [.str a] ∧ PySem.intText? a = some n ∧ a.length ≤ 640 ∧ Q (.int n) H
abbrev rStrI : List V → Hp → VK → Prop := fun xs H Q => ∃ i, xs = [.int i] ∧ i.natAbs.log2 < 1920 ∧ Q (.str (toString i)) H
abbrev rTupleG (K : PySem.W.Frag) : List V → Hp → VK → Prop := fun xs H Q => ∃ p ys, xs = [.ref p] ∧ ((SqL K H p ys ∧ ∀ l, H l = none → Q (.ref l) (upd H l (.tup ys))) ∨ (SqT K H p ys ∧ Q (.ref p) H))
abbrev rListG (K : PySem.W.Frag) : List V → Hp → VK → Prop := fun xs H Q => ∃ p ys, xs = [.ref p] ∧ (SqL K H p ys ∨ SqT K H p ys) ∧ ∀ l, H l = none → Q (.ref l) (upd H l (.lst ys))
def oLen : OA
  | [.str s], P => s.length ≤ sizeLine ∧ P (.int s.length)
  | [.lst l], P => P (.int l.length)
  | [.rol l], P => P (.int l.length)
  | [.tup l], P => P (.int l.length)
  | _, _ => False
theorem bl_len : BLk K (fun xs H Q => ∃ x n, xs = [x] ∧ LenV K x H n ∧ Q (.int n) H) oLen := fun g σ δ A H xs ds P Q R d h hQ => by
  cases d with
  | nil => exact h.elim
  | cons d1 d2 =>
    cases d2 with
    | cons _ _ => cases d1 <;> exact h.elim
    | nil =>
      cases d1 <;> try exact h.elim
      · exact ⟨_, _, rfl, ⟨h.1, rfl⟩, hQ _ _ A H R (Same.refl _) (.int _) h.2⟩
      · rename_i q xs ds k1 k2
        exact ⟨_, _, rfl, .inl ⟨xs, SqL.of (R.sub _ _ k1), k2.length.symm⟩, hQ _ _ A H R (Same.refl _) (.int _) h⟩
      · rename_i q xs ds k1 k2
        exact ⟨_, _, rfl, .inl ⟨xs, R.sub.seq k1, k2.length.symm⟩, hQ _ _ A H R (Same.refl _) (.int _) h⟩
      · rename_i q xs ds k1 k2
        exact ⟨_, _, rfl, .inr ⟨xs, sqT_same R.sub k1, k2.length.symm⟩, hQ _ _ A H R (Same.refl _) (.int _) h⟩
theorem de_len (hm : X.mg "len" = none) (ha : DAr X W (e :: es) t φs) (hg : Gl X "len" := by rfl) (he : starEach (e :: es) X.env = (false, eval e X.env) :: starEach es X.env := by rfl) (hpl : (backTo pos (starEach es X.env)).any (·.1) = false := by rfl) :
    DE X W (.Call (.Name "len" p) (e :: es) [] pos) (tCB (rLen X.K) t) (mCB oLen φs) := de_callB call_len bl_len hm ha PySem.boot_len hg (by decide) (by decide) he hpl
def oI1 (f : Int → Int) : OA
  | [.int i], P => P (.int (f i))
  | _, _ => False
theorem bl_i1 {f : Int → Int} : BLk K (fun xs H Q => ∃ i, xs = [.int i] ∧ Q (.int (f i)) H) (oI1 f) := fun g σ δ A H xs ds P Q R d h hQ => by
  cases d with
  | nil => exact h.elim
  | cons d1 d2 =>
    cases d2 with
    | cons _ _ => cases d1 <;> exact h.elim
    | nil =>
      cases d1 <;> try exact h.elim
      exact ⟨_, rfl, hQ _ _ A H R (Same.refl _) (.int _) h⟩
theorem de_abs (hm : X.mg "abs" = none) (ha : DAr X W (e :: es) t φs) (hg : Gl X "abs" := by rfl) (he : starEach (e :: es) X.env = (false, eval e X.env) :: starEach es X.env := by rfl) (hpl : (backTo pos (starEach es X.env)).any (·.1) = false := by rfl) :
    DE X W (.Call (.Name "abs" p) (e :: es) [] pos) (tCB (rI1 fun i => if i < 0 then -i else i) t) (mCB (oI1 fun i => if i < 0 then -i else i) φs) := de_callB call_abs bl_i1 hm ha (by decide +kernel) hg (by decide) (by decide) he hpl
def oI2a (f : Int → Int → Int) : OA
  | [.int i, .int j], P => P (.int (f i j))
  | _, _ => False
theorem bl_i2a {f : Int → Int → Int} : BLk K (fun xs H Q => ∃ i j, xs = [.int i, .int j] ∧ Q (.int (f i j)) H) (oI2a f) := fun g σ δ A H xs ds P Q R d h hQ => by
  cases d with
  | nil => exact h.elim
  | cons d1 d2 =>
    cases d2 with
    | nil => cases d1 <;> exact h.elim
    | cons d3 d4 =>
      cases d4 with
      | cons _ _ => cases d1 <;> cases d3 <;> exact h.elim
      | nil =>
        cases d1 <;> cases d3 <;> try exact h.elim
        exact ⟨_, _, rfl, hQ _ _ A H R (Same.refl _) (.int _) h⟩
theorem de_max2 (hm : X.mg "max" = none) (ha : DAr X W (e :: es) t φs) (hg : Gl X "max" := by rfl) (hc : X.calm = true := by rfl) (he : starEach (e :: es) X.env = (false, eval e X.env) :: starEach es X.env := by rfl) (hpl : (backTo pos (starEach es X.env)).any (·.1) = false := by rfl) :
    DE X W (.Call (.Name "max" p) (e :: es) [] pos) (tCB (rI2a fun i j => if j > i then j else i) t) (mCB (oI2a fun i j => if j > i then j else i) φs) := de_callB (call_max2 hc) bl_i2a hm ha (by decide +kernel) hg (by decide) (by decide) he hpl
theorem de_min2 (hm : X.mg "min" = none) (ha : DAr X W (e :: es) t φs) (hg : Gl X "min" := by rfl) (hc : X.calm = true := by rfl) (he : starEach (e :: es) X.env = (false, eval e X.env) :: starEach es X.env := by rfl) (hpl : (backTo pos (starEach es X.env)).any (·.1) = false := by rfl) :
    DE X W (.Call (.Name "min" p) (e :: es) [] pos) (tCB (rI2a fun i j => if j < i then j else i) t) (mCB (oI2a fun i j => if j < i then j else i) φs) := de_callB (call_min2 hc) bl_i2a hm ha (by decide +kernel) hg (by decide) (by decide) he hpl
/-- int(x): of an int, a bool, a text that is a number -/
def oInt : OA
  | [.int i], P => P (.int i)
  | [.bl k], P => P (.int (if k then 1 else 0))
  | [.str s], P => asO (PySem.intText? s) fun n => s.length ≤ 640 ∧ P (.int n)
  | _, _ => False
theorem callR_or {f : Value} {r r' : List V → Hp → VK → Prop} (h : CallR X f r) (h' : CallR X f r') : CallR X f (fun xs H Q => r xs H Q ∨ r' xs H Q) := fun pins s σ H xs us Q I rv q =>
  q.elim (fun q => h pins s σ H xs us Q I rv q) fun q => h' pins s σ H xs us Q I rv q
theorem bl_int : BLk K (fun xs H Q => ((∃ i, xs = [.int i] ∧ Q (.int i) H) ∨ ∃ k, xs = [.bl k] ∧ Q (.int (if k then 1 else 0)) H) ∨ ∃ a n, xs = [.str a] ∧ PySem.intText? a = some n ∧ a.length ≤ 640 ∧ Q (.int n) H) oInt := fun g σ δ A H xs ds P Q R d h hQ => by
  cases d with
  | nil => exact h.elim
  | cons d1 d2 =>
    cases d2 with
    | cons _ _ => cases d1 <;> exact h.elim
    | nil =>
      cases d1 <;> try exact h.elim
      · exact .inl (.inr ⟨_, rfl, hQ _ _ A H R (Same.refl _) (.int _) h⟩)
      · exact .inl (.inl ⟨_, rfl, hQ _ _ A H R (Same.refl _) (.int _) h⟩)
      · obtain ⟨n, h1, h2, h3⟩ := asO_of h
        exact .inr ⟨_, n, rfl, h1, h2, hQ _ _ A H R (Same.refl _) (.int _) h3⟩
theorem de_toInt (hm : X.mg "int" = none) (ha : DAr X W (e :: es) t φs) (hg : Gl X "int" := by rfl) (he : starEach (e :: es) X.env = (false, eval e X.env) :: starEach es X.env := by rfl) (hpl : (backTo pos (starEach es X.env)).any (·.1) = false := by rfl) :
    DE X W (.Call (.Name "int" p) (e :: es) [] pos) (tCB rIntG t) (mCB oInt φs) := de_callTy (callR_or call_int1 call_int_str) bl_int hm ha (by decide +kernel) hg (by decide) (by decide) he hpl
def oStrI : OA
  | [.int i], P => i.natAbs.log2 < 1920 ∧ P (.str (toString i))
  | _, _ => False
theorem bl_strI : BLk K (fun xs H Q => ∃ i, xs = [.int i] ∧ i.natAbs.log2 < 1920 ∧ Q (.str (toString i)) H) oStrI := fun g σ δ A H xs ds P Q R d h hQ => by
  cases d with
  | nil => exact h.elim
  | cons d1 d2 =>
    cases d2 with
    | cons _ _ => cases d1 <;> exact h.elim
    | nil =>
      cases d1 <;> try exact h.elim
      exact ⟨_, rfl, h.1, hQ _ _ A H R (Same.refl _) (.str _) h.2⟩
theorem de_strI (hm : X.mg "str" = none) (ha : DAr X W (e :: es) t φs) (hg : Gl X "str" := by rfl) (he : starEach (e :: es) X.env = (false, eval e X.env) :: starEach es X.env := by rfl) (hpl : (backTo pos (starEach es X.env)).any (·.1) = false := by rfl) :
    DE X W (.Call (.Name "str" p) (e :: es) [] pos) (tCB rStrI t) (mCB oStrI φs) := de_callTy call_str_int bl_strI hm ha (by decide +kernel) hg (by decide) (by decide) he hpl
/-- tuple(x) -/
def oTuple : OA
  | [.lst l], P => P (.tup l)
  | [.rol l], P => P (.tup l)
  | [.tup l], P => P (.tup l)
  | _, _ => False
theorem bl_tuple : BLk K (fun xs H Q => ∃ p ys, xs = [.ref p] ∧ ((SqL K H p ys ∧ ∀ l, H l = none → Q (.ref l) (upd H l (.tup ys))) ∨ (SqT K H p ys ∧ Q (.ref p) H))) oTuple := fun g σ δ A H xs ds P Q R d h hQ => by
  cases d with
  | nil => exact h.elim
  | cons d1 d2 =>
    cases d2 with
    | cons _ _ => cases d1 <;> exact h.elim
    | nil =>
      cases d1 <;> try exact h.elim
      · rename_i q xs ds k1 k2
        exact ⟨_, _, rfl, .inl ⟨SqL.of (R.sub _ _ k1), fun l hl => hQ _ _ _ _ (R.put hl) (upd_put (R.free hl).1) (sqT_put (R.free hl).1 k2) h⟩⟩
      · rename_i q xs ds k1 k2
        exact ⟨_, _, rfl, .inl ⟨R.sub.seq k1, fun l hl => hQ _ _ _ _ (R.put hl) (upd_put (R.free hl).1) (sqT_put (R.free hl).1 k2) h⟩⟩
      · rename_i q xs ds k1 k2
        exact ⟨_, _, rfl, .inr ⟨sqT_same R.sub k1, hQ _ _ A H R (Same.refl _) (.tup k1 k2) h⟩⟩
theorem de_tuple (hm : X.mg "tuple" = none) (ha : DAr X W (e :: es) t φs) (hg : Gl X "tuple" := by rfl) (he : starEach (e :: es) X.env = (false, eval e X.env) :: starEach es X.env := by rfl) (hpl : (backTo pos (starEach es X.env)).any (·.1) = false := by rfl) :
    DE X W (.Call (.Name "tuple" p) (e :: es) [] pos) (tCB (rTupleG X.K) t) (mCB oTuple φs) := de_callTy call_tuple_of bl_tuple hm ha (by decide +kernel) hg (by decide) (by decide) he hpl
/-- list(x): a new list -/
def as1 {α : Type} : List α → (α → Prop) → Prop
  | [x], P => P x
  | _, _ => False
theorem as1_of {α : Type} {l : List α} {P : α → Prop} (h : as1 l P) : ∃ x, l = [x] ∧ P x := by
  unfold as1 at h
  split at h
  · exact ⟨_, rfl, h⟩
  · exact h.elim
def fList (s : DA) : DA := fun δ P EX => s δ (fun ds δ1 => as1 ds fun x => asO x.items fun l => P l δ1) EX
theorem df_list (hm : X.mg "list" = none) (ha : DAr X W (e :: es) t φs) (hg : Gl X "list" := by rfl) (he : starEach (e :: es) X.env = (false, eval e X.env) :: starEach es X.env := by rfl) (hpl : (backTo pos (starEach es X.env)).any (·.1) = false := by rfl) :
    DF X W (.Call (.Name "list" p) (e :: es) [] pos) (tCB (rListG X.K) t) (fList φs) := by
  refine ⟨pe_callTy call_list_of hg hm (by decide +kernel) ha.pa (by decide) (by decide) he hpl, fun g σ δ A H P EX Q R h hQ hX => ha.lk g σ δ A H _ EX _ R h (fun xs ds δ1 A1 H1 R1 s1 d1 h1 => ?_) hX⟩
  obtain ⟨x, rfl, h1⟩ := as1_of h1
  obtain ⟨l, hi, h1⟩ := asO_of h1
  cases d1 with
  | cons d1 d2 =>
    cases d2
    obtain ⟨q, ys, rfl, hs, hd⟩ := d1.items R1.sub hi
    exact ⟨q, ys, rfl, hs, fun r hr => hQ r _ _ δ1 _ _ (R1.lay hr) s1 (R1.fresh hr hd) h1⟩
/-- all([..]), any([..]) of truth values -/
def D.bls : List D → Option (List Bool)
  | [] => some []
  | .bl b :: r => (D.bls r).map (b :: ·)
  | _ :: _ => none
theorem DrAll.bls {A : Hp} : ∀ {vs : List V} {ds : List D} {bs : List Bool}, DrAll K A vs ds → D.bls ds = some bs → vs = bs.map V.bl
  | _, _, _, .nil, e => by cases e; rfl
  | _, _, bs, .cons a b, e => by
    cases a <;> simp only [D.bls, Option.map_eq_some_iff, reduceCtorEq] at e
    obtain ⟨cs, e1, rfl⟩ := e
    rw [DrAll.bls b e1]
    rfl
def asL : D → (List D → Prop) → Prop
  | .lst l, P => P l
  | _, _ => False
theorem asL_of {d : D} {P : List D → Prop} (h : asL d P) : ∃ c, d = .lst c ∧ P c := by
  cases d <;> first | exact h.elim | exact ⟨_, rfl, h⟩
def oBls (f : List Bool → Bool) : OA := fun ds P => as1 ds fun x => asL x fun l => asO (D.bls l) fun bs => P (.bl (f bs))
theorem bl_bls {f : List Bool → Bool} : BLk K (fun vs H Q => ∃ (a : Addr) (bs : List Bool), vs = [V.ref a] ∧ SqL K H a (bs.map V.bl) ∧ Q (.bl (f bs)) H) (oBls f) := fun g σ δ A H xs ds P Q R d h hQ => by
  obtain ⟨x, rfl, h⟩ := as1_of h
  obtain ⟨l, rfl, h⟩ := asL_of h
  obtain ⟨bs, hb, h⟩ := asO_of h
  cases d with
  | cons d1 d2 =>
    cases d2
    cases d1 with
    | lst k1 k2 =>
      rename_i q ys
      have e := k2.bls hb
      exact ⟨q, bs, rfl, by rw [← e]; exact SqL.of (R.sub _ _ k1), hQ _ _ A H R (Same.refl _) (.bl _) h⟩
theorem de_all (hm : X.mg "all" = none) (ha : DAr X W (e :: es) t φs) (hg : Gl X "all" := by rfl) (hc : X.calm = true := by rfl) (he : starEach (e :: es) X.env = (false, eval e X.env) :: starEach es X.env := by rfl) (hpl : (backTo pos (starEach es X.env)).any (·.1) = false := by rfl) :
    DE X W (.Call (.Name "all" p) (e :: es) [] pos) (tCB (rAll X.K) t) (mCB (oBls (·.all id)) φs) := de_callB (cr_all hc) (bl_bls (f := fun bs => bs.all id)) hm ha (by decide +kernel) hg (by decide) (by decide) he hpl

end
end RL
set_option Elab.async false
set_option linter.all false
set_option maxRecDepth 100000
set_option maxHeartbeats 4000000
/-! R5: defs: what they promise over data; their calls; new objects; fields; isinstance; repr. -/
namespace RL
open PySem PySem.Spec PyProof.Rows L2

/-! ### promises -/
/-- the arguments, what may change ahead; the answer, what may change behind; what is raised -/
abbrev Fsp := List D → Mh → (D → Mh → Prop) → (Er → Mh → Prop) → Prop
structure Fin' (K : PySem.W.Frag) (A H : Hp) (m : Mh) (A' H' : Hp) (m' : Mh) : Prop where
  old : Same A A'
  sub : Same A' H'
  new : ∀ b, H b ≠ none → A' b = A b
  keep : ∀ b o, m b = none → nt o → H b = some o → H' b = some o
  dm : ∀ b, H b ≠ none → H' b ≠ none
  d1 : ∀ b, H b ≠ none → m b = none → m' b = none
  d2 : ∀ b, m b ≠ none → m' b ≠ none
  tabs : TabA K A' H'
  mr : MR K A' H' m'
def spD (K : PySem.W.Frag) (f : Fsp) : Sp := fun vs H Q E => ∃ A m ds P EX, Same A H ∧ TabA K A H ∧ MR K A H m ∧ DrAll K A vs ds ∧ f ds m P EX ∧
  (∀ v d A' H' m', Fin' K A H m A' H' m' → Dr K A' v d → P d m' → Q v H') ∧
  (∀ er cls dd A' H' m', Fin' K A H m A' H' m' → XR K A' cls dd er → EX er m' → E cls dd H')
section
variable {K : PySem.W.Frag} {g : Gh} {σ : L2.St} {δ : Dl} {A H A' H' : Hp} {m' : Mh}
theorem Rep.fin (R : Rep K g σ δ A H) (F : Fin' K A H δ.m A' H' m') : Rep K g σ { δ with m := m' } A' H' := by
  refine ⟨F.sub, R.old.trans F.old, fun b f n => (F.new b (R.dm b n)).trans (R.new b f n), fun b o f n t e => ?_, fun b n => F.dm b (R.dm b n), fun b n z => F.d1 b (R.dm b n) (R.d1 b n z), fun b n => F.d2 b (R.d2 b n), F.tabs, R.len, fun i d e => ?_, fun i l e => ?_, R.dis, F.mr⟩
  · exact F.keep b o (R.d1 b (by rw [e]; simp) n) t (R.keep b o f n t e)
  · obtain ⟨v, h1, h2⟩ := R.im i d e
    exact ⟨v, h1, h2.same F.old⟩
  · obtain ⟨q, xs, h1, h2, h3, h4, h5, h6⟩ := R.ow i l e
    have n : H q ≠ none := by rw [h2]; simp
    exact ⟨q, xs, h1, F.keep q _ h5 trivial h2, by rw [F.new q n]; exact h3, h4, F.d1 q n h5, h6.same F.old⟩
/-- a frame's beginning -/
def Gh.of (A H : Hp) (m : Mh) : Gh := ⟨A, H, m, fun _ => False⟩
theorem Rep.out {m : Mh} {A H : Hp} (R : Rep K (Gh.of A H m) σ δ A' H') : Fin' K A H m A' H' δ.m :=
  ⟨R.old, R.sub, fun b n => R.new b (fun z => z) n, fun b o n t e => R.keep b o (fun z => z) n t e, R.dm, R.d1, R.d2, R.tabs, R.mr⟩
def startD (N : List Str) (ds : List D) : List SD := ds.map .im ++ List.replicate (N.length - ds.length) .un
theorem rep_start {N : List Str} {m : Mh} {vs : List V} {ds : List D} (h1 : Same A H) (h2 : TabA K A H) (h3 : MR K A H m) (h4 : DrAll K A vs ds) : Rep K (Gh.of A H m) (L2.start N vs) ⟨startD N ds, m⟩ A H := by
  have hl := h4.length
  have un : ∀ (i : Nat) (x : SD), (startD N ds)[i]? = some x → (∃ d, x = .im d ∧ ds[i]? = some d) ∨ x = .un := fun i x e => by
    unfold startD at e
    by_cases hi : i < (ds.map SD.im).length
    · rw [List.getElem?_append_left hi, List.getElem?_map] at e
      cases q : ds[i]? with
      | none => rw [q] at e; cases e
      | some d => rw [q] at e; cases e; exact .inl ⟨d, rfl, rfl⟩
    · rw [List.getElem?_append_right (Nat.le_of_not_lt hi), List.getElem?_replicate] at e
      split at e
      · exact .inr (Option.some.inj e).symm
      · cases e
  refine ⟨h1, Same.refl _, fun _ _ _ => rfl, fun _ _ _ _ _ e => e, fun _ n => n, fun _ _ n => n, fun _ n => n, h2, ?_, fun i d e => ?_, fun i l e => ?_, fun i j p l l' e _ _ _ => ?_, h3⟩
  · unfold L2.start startD
    rw [List.length_append, List.length_append, List.length_map, List.length_map, List.length_replicate, List.length_replicate, hl]
  · rcases un i _ e with ⟨d', e1, e2⟩ | e1
    · cases e1
      obtain ⟨v, e3, e4⟩ := h4.get' e2
      refine ⟨v, ?_, e4⟩
      unfold L2.start
      rw [List.getElem?_append_left (by rw [List.length_map]; exact (List.getElem?_eq_some_iff.mp e3).1), List.getElem?_map, e3]
      rfl
    · cases e1
  · rcases un i _ e with ⟨d', e1, e2⟩ | e1 <;> cases e1
  · rcases un i _ e with ⟨d', e1, e2⟩ | e1 <;> cases e1
end

/-! ### contracts of defs; nothing is being shown by repr when they are called -/
structure FnQ (P : Program) (w : World) (K : PySem.W.Frag) (mg : Str → Option Value) (base : Heap) (CX : CXT) (k : Nat) (f : Addr) (fd : FuncData) (ps : List Str) (sp : Sp) : Prop where
  len : ∀ vs H Q E, sp vs H Q E → vs.length = ps.length
  run : ∀ (A : Around) (outer : List Env) (s : Shared) (H : Hp) (args : Args) (us : List Value) (vs : List V) (Q : VK) (E : XK), Room k A → A.guards = some [] → Env0 P w K mg base A outer s H → BindsTo s fd args (ps.zip us) → Vals vs us → sp vs H Q E →
    codeAny (model P w) A (.call (.ref f) args) (CR CX outer P w H s Q E) s
theorem FnQ.of {P : Program} {w : World} {K : PySem.W.Frag} {mg : Str → Option Value} {base : Heap} {CX : CXT} {k : Nat} {f : Addr} {fd : FuncData} {ps : List Str} {sp : Sp} (F : FnOk P w K mg base CX k f fd ps sp) : FnQ P w K mg base CX k f fd ps sp :=
  ⟨F.len, fun A outer s H args us vs Q E hr _ => F.run A outer s H args us vs Q E hr⟩
theorem FnQ.mono {P : Program} {w : World} {K : PySem.W.Frag} {mg : Str → Option Value} {base : Heap} {CX : CXT} {j k : Nat} {f : Addr} {fd : FuncData} {ps : List Str} {sp : Sp} (F : FnQ P w K mg base CX j f fd ps sp) (h : j ≤ k) : FnQ P w K mg base CX k f fd ps sp :=
  ⟨F.len, fun A outer s H args us vs Q E hr => F.run A outer s H args us vs Q E (hr.mono h)⟩
theorem guards_deeper {A : Around} (env : Env) (h : A.guards = some []) : (A.deeper env).guards = some [] := by
  first | exact h | (simp [Around.deeper, h]) | (obtain ⟨a, b, c, d, e⟩ := A; exact h)
theorem fnq_of {CX : CXT} {P : Program} {w : World} {K : PySem.W.Frag} {mg : Str → Option Value} {base : Heap} {k : Nat} {f : Addr} {name qual : Str} {params : Arguments} {body : List Stmt} {scope : Scope} {dV kV doc pm cdv ct oc : Value} {an od : Option Addr}
    {osl : Array (Option Value)} {N ps : List Str} {sp : Sp} (lk : K.lookup f = some ⟨oc, od, .func (PySem.W.fnOf name qual params body scope dV kV doc pm an cdv ct), osl⟩) (hcd : PySem.W.codeIn K cdv qual = true) (S : FnScope N ps scope)
    (len : ∀ vs H Q E, sp vs H Q E → vs.length = ps.length)
    (hbody : ∀ (A : Around) (outer : List Env) (s : Shared) (H : Hp) (vs : List V) (Q : VK) (E : XK), Room k (A.deeper (envOfC qual scope s.heap.objs.size f cdv)) → (A.deeper (envOfC qual scope s.heap.objs.size f cdv)).guards = some [] → sp vs H Q E →
      ∃ t, PSs (cxOf CX P w K mg base N qual scope f cdv A outer s H E) body t ∧ t { nx := fun _ H' => Q .non H', rt := Q } (L2.start N vs) H) :
    FnQ P w K mg base CX (k + 1) f (PySem.W.fnOf name qual params body scope dV kV doc pm an cdv ct) ps sp := by
  refine ⟨len, fun A outer s H args us vs Q E hr hg e0 hb r hsp => ?_⟩
  have hl := len _ _ _ _ hsp
  have KX : K.In s.heap := e0.mod.kin.keeps fun b o e => (e0.bs b o e).1
  have lim : s.heap.NoLimit := e0.mod.nolimit.keeps fun b o e => (e0.bs b o e).1
  have hkind : ∀ y ∈ ps.zip us, scope.names.lookup y.1 = some .local ∨ (scope.names.lookup y.1 = some .cell ∧ ((cellsFrom (s.heap.objs.size + 1) scope.names []).lookup y.1).isSome = true) := fun ⟨n, v⟩ hy => by
    rcases S.par n (List.of_mem_zip hy).1 with q | q
    · exact .inl q
    · exact .inr ⟨q, PySem.W.cellsFrom_some _ _ _ (.inl q)⟩
  refine codeAny_call_function hr.depth (KX _ _ lk) rfl S.co S.gen rfl (PySem.W.codeRec_of KX hcd) (hb _ _ _ _ ?_)
  refine wpAny_newFunctionEnv_cells S.kind hkind fun env he s1 x => ?_
  subst he
  refine ⟨lim.keeps x.toInCall.keep, codeAny_func ?_⟩
  obtain ⟨t, ht, hq⟩ := hbody A outer s H vs Q E (hr.deeper _) (guards_deeper _ hg) hsp
  have I : Inv (cxOf CX P w K mg base N qual scope f cdv A outer s H E) [] (L2.start N vs) H s1 := inv_start S hr.hd e0 hl r x
  refine wpAny_mono (ht.run [] s1 (L2.start N vs) H _ I hq) (fun fl s' hs => ?_) fun e s' hs => hs
  have fin : ∀ {σ' : L2.St} {H' : Hp} {v : V} {u : Value}, Inv (cxOf CX P w K mg base N qual scope f cdv A outer s H E) [] σ' H' s' → RelV v u → Q v H' → CE outer P w H s Q u s' :=
    fun {σ' H' v u} J rv q => ⟨v, H', J.os, J.bare, J.base, J.hok, rv, q⟩
  cases fl with
  | ret u =>
    obtain ⟨v, σ', H', J, rv, q⟩ := hs
    exact fin J rv q
  | next =>
    obtain ⟨σ', H', J, q⟩ := hs
    exact fin (v := V.non) (u := Value.none) J rfl q
  | brk =>
    obtain ⟨_, _, _, q⟩ := hs
    exact False.elim q
  | cont =>
    obtain ⟨_, _, _, q⟩ := hs
    exact False.elim q

/-- the def x of the module: its level, its parameters, the values of the lacking ones, its promise -/
structure Ok (P : Program) (w : World) (K : PySem.W.Frag) (mg : Str → Option Value) (base : Heap) (k : Nat) (x : Str) (dvs : List V) (f : Fsp) : Prop where
  ex : ∃ (a : Addr) (fd : FuncData) (ps : List Str) (ds : List Value), FnQ P w K mg base (L2.CX P w) k a fd ps (spD K f) ∧ mg x = some (.ref a) ∧ PySem.W.keepIn K (.ref a) = true ∧ L2.Binds K fd ps ds ∧ Vals dvs ds

section
variable {X : Cx} {W : WX} {K : PySem.W.Frag}
variable {e a b c o : Expr} {es : List Expr} {ta tb tc to : TE} {t : TA} {φ φa φb φc : DM} {φs : DA} {pos p apos p2 : Pos}
def mCall (f : Fsp) (dds : List D) (s : DA) : DM := fun δ P EX => s δ (fun ds δ1 => f (ds ++ dds) δ1.m (fun d m' => P d { δ1 with m := m' }) (fun er m' => EX er { δ1 with m := m' })) EX
theorem lk_call {f : Fsp} {dvs : List V} {dds : List D} (hd : ∀ A, DrAll K A dvs dds) (hs : LkA K W t φs) : LkE K W (tCallSD (spD K f) dvs (WE W) t) (mCall f dds φs) := fun g σ δ A H P EX Q R h hQ hX =>
  hs g σ δ A H _ EX _ R h (fun vs ds δ1 A1 H1 R1 s1 d1 h1 => ⟨A1, δ1.m, ds ++ dds, _, _, R1.sub, R1.tabs, R1.mr, d1.append (hd A1), h1,
    fun v d A' H' m' F dv q => hQ v d _ A' H' (R1.fin F) (s1.trans F.old) dv q, fun er cls dd A' H' m' F x q => hX er _ cls dd A' H' (R1.fin F) x q⟩) hX
theorem de_call {k : Nat} {x : Str} {f : Fsp} {dvs : List V} {dds : List D} (G : Ok X.prog X.w X.K X.mg X.base k x dvs f) (hr : Room k X.A) (gd : X.A.guards = some []) (tk : Takes X W) (hd : ∀ A, DrAll X.K A dvs dds) (ha : DAr X W (e :: es) t φs) (hg : Gl X x := by rfl)
    (hdb : (x == ("__debug__" : Str)) = false := by decide) (he : starEach (e :: es) X.env = (false, eval e X.env) :: starEach es X.env := by rfl) (hpl : (backTo pos (starEach es X.env)).any (·.1) = false := by rfl) :
    DE X W (.Call (.Name x p) (e :: es) [] pos) (tCallSD (spD X.K f) dvs (WE W) t) (mCall f dds φs) := by
  obtain ⟨fa, fd, ps, ds, F, hm, hk, hb, hv⟩ := G.ex
  refine ⟨⟨fun pins s σ H Q I h => ?_⟩, lk_call hd ha.lk⟩
  refine wpAny_Call_Name_kw (ld_glob I hg hm ?_ hdb)
  refine PySem.W.callWith_K (h₀ := X.base) I.ok.mod.kin hk (thn (ha.pa.run pos pins s σ H _ I h) fun us s1 ⟨vs, H1, I1, r, q⟩ => ⟨I1.kIn, ?_⟩) he hpl
  have r2 : Vals (vs ++ dvs) (us ++ ds) := r.append hv
  have hl : (us ++ ds).length = ps.length := by rw [← r2.length]; exact F.len _ _ _ _ q
  refine wpAny_call (codeAny_mono (F.run X.A X.stack s1 H1 ⟨us, []⟩ (us ++ ds) (vs ++ dvs) Q (WE W σ) hr gd I1.env0 (hb s1 us I1.kIn hl) r2 q) fun r' s' hq => ?_)
  cases r' with
  | error er => exact passAt tk σ pins H1 s1 er s' I1 hq
  | ok fl =>
    cases fl with
    | ret u => exact I1.after hq
    | next => exact False.elim hq
    | brk => exact False.elim hq
    | cont => exact False.elim hq
theorem de_call0 {k : Nat} {x : Str} {f : Fsp} {dvs : List V} {dds : List D} (G : Ok X.prog X.w X.K X.mg X.base k x dvs f) (hr : Room k X.A) (gd : X.A.guards = some []) (tk : Takes X W) (hd : ∀ A, DrAll X.K A dvs dds) (hg : Gl X x := by rfl)
    (hdb : (x == ("__debug__" : Str)) = false := by decide) :
    DE X W (.Call (.Name x p) [] [] pos) (tCallSD (spD X.K f) dvs (WE W) tNil) (mCall f dds aNil) := by
  obtain ⟨fa, fd, ps, ds, F, hm, hk, hb, hv⟩ := G.ex
  refine ⟨⟨fun pins s σ H Q I h => ?_⟩, lk_call hd da_nil.lk⟩
  refine wpAny_Call_Name_kw (ld_glob I hg hm ?_ hdb)
  have q : spD X.K f ([] ++ dvs) H Q (WE W σ) := h
  refine PySem.W.callWith_K0 (first := []) I.kIn hk ?_
  have r2 : Vals ([] ++ dvs) ([] ++ ds) := hv
  have hl : (([] : List Value) ++ ds).length = ps.length := by rw [← r2.length]; exact F.len _ _ _ _ q
  refine wpAny_call (codeAny_mono (F.run X.A X.stack s H ⟨[], []⟩ ([] ++ ds) ([] ++ dvs) Q (WE W σ) hr gd I.env0 (hb s [] I.kIn hl) r2 q) fun r' s' hq => ?_)
  cases r' with
  | error er => exact passAt tk σ pins H s er s' I hq
  | ok fl =>
    cases fl with
    | ret u => exact I.after hq
    | next => exact False.elim hq
    | brk => exact False.elim hq
    | cont => exact False.elim hq

/-! ### repr -/
/-- what a list or a tuple of data is shown as -/
theorem repr_seq {prog : Program} {w : World} {A : Around} {E : Value → Shared → Prop} {s : Shared} {a : Addr} {d : PyData} {as : List Addr} {Q : Value → Shared → Prop} (rd : Reads s.heap (.ref a) d as) (h1 : d.showable = true) (h2 : d.hasDict = false) (h3 : d.depth < 90)
    (h4 : d.shown.length ≤ sizeLine) (hne : d ≠ .list []) (hu : A.units + 100 < cLine) (gd : A.guards = some []) (hQ : ∀ h' u tk, (∀ b o, s.heap.get? b = some o → h'.get? b = some o) → Q (.str d.shown u) { s with heap := h', toks := tk }) :
    wpAny (model prog w) A (call (.builtin "repr") [.ref a]) Q E s := by
  refine Calls.call_function_entry F.kind_repr F.plain_repr F.entry_repr (F.args_repr1 _) ?_
  unfold Builtin.«repr»
  refine wpAny_bind (m := oneArg "repr" _) (wpAny_pure ?_)
  have hu1 : A.in1.units + 98 < cLine := by show A.units + 1 + 98 < cLine; omega
  refine wpAny_bind (wpAny_cRoomFor (by omega) ?_)
  have fin : ∀ h' u tk, (∀ b o, s.heap.get? b = some o → h'.get? b = some o) → wpAny (model prog w) A.in1 (isInstance (.str d.shown u) (.type "str")) (fun b s2 => wpAny (model prog w) A.in1 (if b = true then ret (.str d.shown u) else do rule "repr.not-str"; raiseError "TypeError" s!"__repr__ returned non-string (type {← typeNameOf (.str d.shown u)})") (fun fin s' => ∃ v, fin = .done (.ret v) ∧ Q v s') E s2) E { s with heap := h', toks := tk } := fun h' u tk k =>
    wpAny_isInstance (T := "str") (b := true) rfl isSubtype_str_str (wpAny_pure ⟨_, rfl, hQ h' u tk k⟩)
  have hgd : A.in1.guards = some [] := gd
  cases rd with
  | list k1 k2 k3 k4 =>
    rename_i oa vs n xs as1
    have hdc : PyData.hasDictAll xs = false := by simpa [PyData.hasDict] using h2
    obtain ⟨l⟩ := vs
    cases l with
    | nil =>
      have k4' : ReadsAll s.heap [] xs _ := k4
      cases k4'
      exact absurd rfl hne
    | cons x l =>
      have hz' : (listText (PyData.shownAll xs)).length ≤ sizeLine := by simpa only [PyData.shown] using h4
      obtain ⟨bs, hb, hk⟩ := ReprAllK.of_readsAll (prog := prog) (w := w) k4 (by simpa [PyData.showable] using h1) (fun hx => absurd hx (by rw [hdc]; simp)) (fun t ht => Nat.le_trans (listText_mem_le ht) hz')
      have r : Reads s.heap (.ref a) (.list xs) _ := .list k1 k2 k3 k4
      have hna : a ∉ bs := not_mem_of_deeper r (by simp only [PyData.depth]; omega) hb
      have hd : PyData.depthAll xs + 1 < 90 := by simpa [PyData.depth] using h3
      have T : Shared.TypeIs s (.ref a) "list" := ⟨_, k1, k2⟩
      refine wpAny_bind (wpAny_specialOf (name := Str.ofString "__repr__") T F.slot_list_repr.lookup ?_)
      refine wpAny_bind (m := callSpecialIfBound? (.ref a) (Str.ofString "__repr__")) (wpAny_callSpecialIfBound?_slot (name := Str.ofString "__repr__") T F.slot_list_repr
        (call_list_reprK k1 k2 k3 hna (by simpa using hk.length_eq) (fun i y e => hk.item i y (by simpa using e)) hgd (fun b _ => Clear.nil b) (by omega) (fun _ _ e => e) (fun h' u tk k => ?_) hz'))
      refine wpAny_bind ?_
      have := fin h' u tk k
      simp only [PyData.shown] at this
      exact this
  | tuple k1 k2 k3 k4 =>
    rename_i o vs n xs
    have hdc : PyData.hasDictAll xs = false := by simpa [PyData.hasDict] using h2
    have hz' : (tupleText (PyData.shownAll xs)).length ≤ sizeLine := by simpa only [PyData.shown] using h4
    obtain ⟨bs, hb, hk⟩ := ReprAllK.of_readsAll (prog := prog) (w := w) k4 (by simpa [PyData.showable] using h1) (fun hx => absurd hx (by rw [hdc]; simp)) (fun t ht => Nat.le_trans (tupleText_mem_le ht) hz')
    have r : Reads s.heap (.ref a) (.tuple xs) _ := .tuple k1 k2 k3 k4
    have hna : a ∉ bs := not_mem_of_deeper r (by simp only [PyData.depth]; omega) hb
    have hd : PyData.depthAll xs + 1 < 90 := by simpa [PyData.depth] using h3
    have T : Shared.TypeIs s (.ref a) "tuple" := ⟨_, k1, k2⟩
    refine wpAny_bind (wpAny_specialOf (name := Str.ofString "__repr__") T F.slot_tuple_repr.lookup ?_)
    refine wpAny_bind (m := callSpecialIfBound? (.ref a) (Str.ofString "__repr__")) (wpAny_callSpecialIfBound?_slotG (name := Str.ofString "__repr__") T F.slot_tuple_repr
      (call_tuple_reprK k1 k2 k3 hna hk hgd (fun b _ => Clear.nil b) (by omega) (fun _ _ e => e) (fun h' u tk k => ?_) hz'))
    refine wpAny_bind ?_
    have := fin h' u tk k
    simp only [PyData.shown] at this
    exact this
  | dict _ _ _ _ _ => simp [PyData.hasDict] at h2
def rRepr (K : PySem.W.Frag) : List V → Hp → VK → Prop := fun xs H Q => ∃ (a : Addr) (d : PyData), xs = [.ref a] ∧ Dp K H (.ref a) d ∧ d.showable = true ∧ d.hasDict = false ∧ d.depth < 90 ∧ d.shown.length ≤ sizeLine ∧ d ≠ .list [] ∧ Q (.str d.shown) H
theorem call_reprD (hu : X.A.units + 100 < cLine) (gd : X.A.guards = some []) : CallR X (.builtin "repr") (rRepr X.K) := by
  intro pins s σ H xs us Q I r h
  obtain ⟨a, d, rfl, dx, h1, h2, h3, h4, h5, q⟩ := h
  obtain ⟨u, rfl, rx⟩ := vals1 r
  cases (show u = Value.ref a from rx)
  obtain ⟨as, rd⟩ := Dp.reads I d _ _ dx rfl
  exact repr_seq rd h1 h2 h3 h4 h5 hu gd fun h' u tk k => ⟨.str _, H, I.kept (t' := tk) k, ⟨_, rfl⟩, q⟩
/-- fit to be shown -/
def D.okR (d : D) : Bool := d.dat && (d.py.showable && (!d.py.hasDict && (decide (d.py.depth < 90) && decide (d.py.shown.length ≤ sizeLine))))
def oRepr : OA
  | [.lst (x :: l)], P => (D.lst (x :: l)).okR = true ∧ P (.str (D.lst (x :: l)).py.shown)
  | [.tup l], P => (D.tup l).okR = true ∧ P (.str (D.tup l).py.shown)
  | _, _ => False
theorem D.okR_of {d : D} (h : d.okR = true) : d.dat = true ∧ d.py.showable = true ∧ d.py.hasDict = false ∧ d.py.depth < 90 ∧ d.py.shown.length ≤ sizeLine := by
  simp only [D.okR, Bool.and_eq_true, Bool.not_eq_true', decide_eq_true_eq] at h
  exact h
theorem oRepr_one {ds : List D} {P : D → Prop} (h : oRepr ds P) : ds.length = 1 := by
  unfold oRepr at h
  split at h <;> first | rfl | exact h.elim
theorem bl_repr : BLk K (rRepr K) oRepr := fun g σ δ A H xs ds P Q R d h hQ => by
  cases d with
  | nil => exact h.elim
  | cons d1 d2 =>
    cases d2 with
    | cons _ _ => exact absurd (oRepr_one h) (by simp)
    | nil =>
      cases d1 <;> try exact h.elim
      · rename_i a xs ds k1 k2
        cases ds with
        | nil => exact h.elim
        | cons x l =>
          obtain ⟨h1, h2, h3, h4, h5⟩ := D.okR_of h.1
          exact ⟨a, _, rfl, (Dr.lst k1 k2).dp R.sub _ h1, h2, h3, h4, h5, (fun z => by simp [D.py, pyAll] at z), hQ _ _ A H R (Same.refl _) (.str _) h.2⟩
      · rename_i a xs ds k1 k2
        obtain ⟨h1, h2, h3, h4, h5⟩ := D.okR_of h.1
        exact ⟨a, _, rfl, (Dr.tup k1 k2).dp R.sub _ h1, h2, h3, h4, h5, (fun z => by simp [D.py] at z), hQ _ _ A H R (Same.refl _) (.str _) h.2⟩
theorem de_repr (hu : X.A.units + 100 < cLine) (gd : X.A.guards = some []) (hm : X.mg "repr" = none) (ha : DAr X W (e :: es) t φs) (hg : Gl X "repr" := by rfl) (he : starEach (e :: es) X.env = (false, eval e X.env) :: starEach es X.env := by rfl) (hpl : (backTo pos (starEach es X.env)).any (·.1) = false := by rfl) :
    DE X W (.Call (.Name "repr" p) (e :: es) [] pos) (tCB (rRepr X.K) t) (mCB oRepr φs) := de_callB (call_reprD hu gd) bl_repr hm ha (by decide +kernel) hg (by decide) (by decide) he hpl
end
end RL
set_option Elab.async false
set_option linter.all false
set_option maxRecDepth 100000
set_option maxHeartbeats 4000000
/-! R6: targets; what a for walks; comprehensions. -/
namespace RL
open PySem PySem.Spec PyProof.Rows L2 RZ

/-! ### targets -/
abbrev DG := D → Dl → (Dl → Prop) → Prop
abbrev DGs := List D → Dl → (Dl → Prop) → Prop
def LkG (K : PySem.W.Frag) (g : TG) (tg : List Nat) (φ : DG) : Prop := ∀ gh σ δ A H v d P Q, Rep K gh σ δ A H → Dr K A v d → φ d δ P →
  (∀ σ' δ', Rep K gh σ' δ' A H → (∀ vs : List Nat, (∀ i ∈ tg, i ∈ vs) → wipe σ' vs = wipe σ vs) → P δ' → Q σ' H) → g v σ H Q
def LkGs (K : PySem.W.Frag) (g : TGs) (tg : List Nat) (φ : DGs) : Prop := ∀ gh σ δ A H vs ds P Q, Rep K gh σ δ A H → DrAll K A vs ds → φ ds δ P →
  (∀ σ' δ', Rep K gh σ' δ' A H → (∀ vs : List Nat, (∀ i ∈ tg, i ∈ vs) → wipe σ' vs = wipe σ vs) → P δ' → Q σ' H) → g vs σ H Q
structure DGt (X : Cx) (e : Expr) (g : TG) (tg : List Nat) (φ : DG) : Prop where
  pg : PG X e g
  lk : LkG X.K g tg φ
structure DGst (X : Cx) (es : List Expr) (g : TGs) (tg : List Nat) (φ : DGs) : Prop where
  pg : PGs X es g
  lk : LkGs X.K g tg φ
section
variable {K : PySem.W.Frag} {gh : Gh} {σ : L2.St} {δ : Dl} {A H : Hp}
theorem get_setV {σ : L2.St} {i j : Nat} {x : Option V} {y : Option V} (h : (σ.set i x)[j]? = some y) : (j = i ∧ y = x) ∨ (j ≠ i ∧ σ[j]? = some y) := get_set h
/-- a slot is given a value -/
theorem Rep.set {i : Nat} {v : V} {d : D} (R : Rep K gh σ δ A H) (h : Dr K A v d) : Rep K gh (σ.set i (some v)) { δ with s := δ.s.set i (.im d) } A H := by
  refine ⟨R.sub, R.old, R.new, R.keep, R.dm, R.d1, R.d2, R.tabs, ?_, fun j d' e => ?_, fun j l e => ?_, fun j k q l l' e1 e2 a b => ?_, R.mr⟩
  · rw [List.length_set, R.len]
    show _ = (δ.s.set i _).length
    rw [List.length_set]
  · rcases get_set e with ⟨e1, e2⟩ | ⟨hj, e2⟩
    · cases e2
      have hi : j < (δ.s.set i (SD.im d)).length := (List.getElem?_eq_some_iff.mp e).1
      rw [List.length_set, ← R.len] at hi
      exact ⟨v, by rw [e1] at hi ⊢; exact List.getElem?_set_self hi, h⟩
    · obtain ⟨w, a, b⟩ := R.im j d' e2
      exact ⟨w, by rw [List.getElem?_set_ne (Ne.symm hj)]; exact a, b⟩
  · rcases get_set e with ⟨_, e2⟩ | ⟨hj, e2⟩
    · cases e2
    · obtain ⟨q, xs, a, b⟩ := R.ow j l e2
      exact ⟨q, xs, by rw [List.getElem?_set_ne (Ne.symm hj)]; exact a, b⟩
  · rcases get_set e1 with ⟨_, e1⟩ | ⟨hj, e1⟩
    · cases e1
    · rcases get_set e2 with ⟨_, e2⟩ | ⟨hk, e2⟩
      · cases e2
      · rw [List.getElem?_set_ne (Ne.symm hj)] at a
        rw [List.getElem?_set_ne (Ne.symm hk)] at b
        exact R.dis j k q l l' e1 e2 a b
/-- a slot is given a list just made -/
theorem Rep.setOw {i : Nat} {p : Addr} {xs : List V} {l : List D} (R : Rep K gh σ δ A H) (F : Fre K gh σ δ A H p xs l) : Rep K gh (σ.set i (some (.ref p))) { δ with s := δ.s.set i (.ow l) } A H := by
  refine ⟨R.sub, R.old, R.new, R.keep, R.dm, R.d1, R.d2, R.tabs, ?_, fun j d' e => ?_, fun j l' e => ?_, fun j k q l1 l2 e1 e2 a b => ?_, R.mr⟩
  · rw [List.length_set, R.len]
    show _ = (δ.s.set i _).length
    rw [List.length_set]
  · rcases get_set e with ⟨_, e2⟩ | ⟨hj, e2⟩
    · cases e2
    · obtain ⟨w, a, b⟩ := R.im j d' e2
      exact ⟨w, by rw [List.getElem?_set_ne (Ne.symm hj)]; exact a, b⟩
  · rcases get_set e with ⟨e1, e2⟩ | ⟨hj, e2⟩
    · cases e2
      have hi : j < (δ.s.set i (SD.ow l)).length := (List.getElem?_eq_some_iff.mp e).1
      rw [List.length_set, ← R.len] at hi
      exact ⟨p, xs, by rw [e1] at hi ⊢; exact List.getElem?_set_self hi, F.at', F.a, .inl F.h0, F.m, F.dr⟩
    · obtain ⟨q, ys, a, b⟩ := R.ow j l' e2
      exact ⟨q, ys, by rw [List.getElem?_set_ne (Ne.symm hj)]; exact a, b⟩
  · have side : ∀ {n : Nat} {l' : List D}, (δ.s.set i (SD.ow l))[n]? = some (.ow l') → (σ.set i (some (V.ref p)))[n]? = some (some (.ref q)) → (n = i ∧ q = p) ∨ (n ≠ i ∧ δ.s[n]? = some (.ow l') ∧ σ[n]? = some (some (.ref q)) ∧ q ≠ p) := fun {n l'} e1 a' => by
      rcases get_set e1 with ⟨hn, _⟩ | ⟨hn, e2⟩
      · rcases get_set a' with ⟨_, a2⟩ | ⟨hn2, _⟩
        · cases a2
          exact .inl ⟨hn, rfl⟩
        · exact absurd hn hn2
      · rw [List.getElem?_set_ne (Ne.symm hn)] at a'
        exact .inr ⟨hn, e2, a', fun z => F.ne n l' e2 (by rw [← z]; exact a')⟩
    rcases side e1 a with ⟨h1, h2⟩ | ⟨h1, h2, h3, h4⟩
    · rcases side e2 b with ⟨k1, k2⟩ | ⟨k1, k2, k3, k4⟩
      · rw [h1, k1]
      · exact absurd h2 k4
    · rcases side e2 b with ⟨k1, k2⟩ | ⟨k1, k2, k3, k4⟩
      · exact absurd k2 h4
      · exact R.dis j k q l1 l2 h2 k2 h3 k3
theorem wipe_set {σ : L2.St} {i : Nat} {x : Option V} : ∀ {vs : List Nat}, i ∈ vs → wipe (σ.set i x) vs = wipe σ vs
  | v :: vs, h => by
    unfold wipe
    rcases List.mem_cons.mp h with rfl | h
    · have com : ∀ vs : List Nat, (wipe (σ.set i x) vs).set i none = (wipe σ vs).set i none := fun vs => by
        induction vs with
        | nil => show (σ.set i x).set i none = σ.set i none; rw [List.set_set]
        | cons w ws ih =>
          unfold wipe
          by_cases hw : w = i
          · rw [hw, List.set_set, List.set_set, ih]
          · rw [List.set_comm _ _ hw, ih, List.set_comm _ _ hw]
      exact com vs
    · rw [wipe_set h]
end
section
variable {X : Cx} {W : WX} {K : PySem.W.Frag}
variable {e a b c o tg iter elt : Expr} {es ifs : List Expr} {ta tb tc to te : TE} {t : TA} {φ φa φb φc φe : DM} {φs : DA} {pos p apos p2 : Pos}
def gN (i : Nat) : DG := fun d δ P => P { δ with s := δ.s.set i (.im d) }
theorem dg_name (i : Nat) {x : Str} (hN : X.N.Nodup) (hi : X.N[i]? = some x := by rfl) (hx : Loc X.env.scope x := by first | exact Or.inl rfl | exact Or.inr rfl) (hf : X.fn x = true ∨ X.env.scope.names.lookup x = some .local := by first | exact .inl rfl | exact .inr rfl) :
    DGt X (.Name x pos) (gName i) [i] (gN i) := ⟨pg_name hN hi hx hf, fun gh σ δ A H v d P Q R dv h hQ => hQ _ _ (R.set dv) (fun vs hv => wipe_set (hv i (by simp))) h⟩
def gsNil : DGs := fun ds δ P => ds = [] ∧ P δ
def gsCons (g : DG) (gs : DGs) : DGs := fun ds δ P => match ds with
  | d :: r => g d δ (fun δ' => gs r δ' P)
  | [] => False
theorem dgs_nil : DGst X [] gNil [] gsNil := ⟨pgs_nil, fun gh σ δ A H vs ds P Q R dv h hQ => by
  obtain ⟨rfl, h⟩ := h
  cases dv
  exact ⟨rfl, hQ σ δ R (fun _ _ => rfl) h⟩⟩
theorem dgs_cons {g : TG} {gs : TGs} {t1 t2 : List Nat} {γ : DG} {γs : DGs} (h1 : DGt X e g t1 γ) (h2 : DGst X es gs t2 γs) (hs : (assignEach (e :: es) X.env).map (·.2) = assign e X.env :: (assignEach es X.env).map (·.2) := by rfl) :
    DGst X (e :: es) (gCons g gs) (t1 ++ t2) (gsCons γ γs) := ⟨pgs_cons h1.pg h2.pg hs, fun gh σ δ A H vs ds P Q R dv h hQ => by
  cases dv with
  | nil => exact h.elim
  | cons d1 d2 =>
    refine ⟨_, _, rfl, h1.lk gh σ δ A H _ _ _ _ R d1 h fun σ1 δ1 R1 w1 q1 => ?_⟩
    exact h2.lk gh σ1 δ1 A H _ _ P Q R1 d2 q1 fun σ2 δ2 R2 w2 q2 => hQ σ2 δ2 R2 (fun vs hv => (w2 vs fun i hi => hv i (List.mem_append_right _ hi)).trans (w1 vs fun i hi => hv i (List.mem_append_left _ hi))) q2⟩
/-- a, b = a tuple or a list of so many -/
def gSeq (n : Nat) (gs : DGs) : DG := fun d δ P => asO d.items fun l => l.length = n ∧ gs l δ P
def gSq (K : PySem.W.Frag) (n : Nat) (t : TGs) : TG := fun v σ H Q => gTup K n t v σ H Q ∨ gLst K n t v σ H Q
theorem dg_tup {gs : TGs} {ts : List Nat} {γs : DGs} {k n : Nat} (h : DGst X es gs ts γs) (hc : X.calm = true := by rfl) (hn : (assignEach es X.env).length = n := by rfl) (hst : (assignEach es X.env).findIdx? (·.1) = none := by rfl) :
    DGt X (.Tuple es k pos) (gSq X.K n gs) ts (gSeq n γs) := by
  refine ⟨⟨fun pins s σ H v u Q I r hw => hw.elim (fun q => (pg_tup hc h.pg hn hst).run pins s σ H v u Q I r q) fun q => (pg_lst hc h.pg hn hst).run pins s σ H v u Q I r q⟩, fun gh σ δ A H v d P Q R dv hp hQ => ?_⟩
  obtain ⟨l, hi, hl, hp⟩ := asO_of hp
  obtain ⟨p, xs, rfl, hs, hd⟩ := dv.items R.sub hi
  have key := h.lk gh σ δ A H xs l P Q R hd hp hQ
  rcases hs with hs | hs
  · exact .inr ⟨p, xs, rfl, hs, by rw [hd.length]; exact hl, key⟩
  · exact .inl ⟨p, xs, rfl, hs, by rw [hd.length]; exact hl, key⟩

/-! ### what is walked -/
/-- the iterator yields these, whatever grows meanwhile -/
def ItOk (K : PySem.W.Frag) (J : It) (A0 : Hp) (ds : List D) : Prop := ∀ gh σ δ A H, Rep K gh σ δ A H → Same A0 A → J.stop ds.length H ∧ ∀ i d, ds[i]? = some d → J.go i H ∧ ∀ x H', J.yld i H x H' →
  ∃ A', Rep K gh σ δ A' H' ∧ Same A A' ∧ Dr K A' x d ∧ ∀ b, H b ≠ none → H' b = H b ∧ A' b = A b
abbrev DIt := Dl → (List D → Dl → Prop) → EXk → Prop
def LkI (K : PySem.W.Frag) (W : WX) (wi : TI) (ψ : DIt) : Prop := ∀ g σ δ A H P EX R, Rep K g σ δ A H → ψ δ P EX →
  (∀ J ds δ' A' H', Rep K g σ δ' A' H' → Same A A' → ItOk K J A' ds → P ds δ' → R J H') → LkX K W g σ EX → wi σ H R
structure DI (X : Cx) (W : WX) (tg iter : Expr) (wi : TI) (ψ : DIt) : Prop where
  pi : PI X tg iter wi
  lk : LkI X.K W wi ψ
theorem DrAll.at' {A : Hp} {xs : List V} {ds : List D} {i : Nat} {d : D} (h : DrAll K A xs ds) (e : ds[i]? = some d) : ∃ v, xs[i]? = some v ∧ Dr K A v d := h.get' e
theorem itOk_list {a : Addr} {A0 : Hp} {xs : List V} {ds : List D} (hs : SqL K A0 a xs) (hd : DrAll K A0 xs ds) : ItOk K (Itl K a) A0 ds := fun gh σ δ A H R s0 => by
  have hq : SqL K H a xs := R.sub.seq (s0.seq hs)
  refine ⟨⟨xs, hq, by rw [hd.length]; exact Nat.le_refl _⟩, fun i d e => ?_⟩
  obtain ⟨v, hv, dv⟩ := hd.get' e
  refine ⟨⟨xs, v, hq, hv⟩, fun x H' y => ?_⟩
  obtain ⟨rfl, y⟩ := y
  have hx := y xs hq
  rw [hv] at hx
  cases hx
  exact ⟨A, R, Same.refl _, dv.same s0, fun _ _ => ⟨rfl, rfl⟩⟩
theorem itOk_tup {a : Addr} {A0 : Hp} {xs : List V} {ds : List D} (hs : SqT K A0 a xs) (hd : DrAll K A0 xs ds) : ItOk K (Itt K a) A0 ds := fun gh σ δ A H R s0 => by
  have hq : SqT K H a xs := sqT_same R.sub (sqT_same s0 hs)
  refine ⟨⟨xs, hq, by rw [hd.length]; exact Nat.le_refl _⟩, fun i d e => ?_⟩
  obtain ⟨v, hv, dv⟩ := hd.get' e
  refine ⟨⟨xs, v, hq, hv⟩, fun x H' y => ?_⟩
  obtain ⟨rfl, y⟩ := y
  have hx := y xs hq
  rw [hv] at hx
  cases hx
  exact ⟨A, R, Same.refl _, dv.same s0, fun _ _ => ⟨rfl, rfl⟩⟩
/-- the signs of a text -/
def signs (z : Str) : List D := z.cps.toList.map fun c => .str ⟨#[c]⟩
theorem itOk_str {z : Str} {A0 : Hp} : ItOk K (Its z) A0 (signs z) := fun gh σ δ A H R s0 => by
  have hl : (signs z).length = z.cps.size := by simp [signs]
  refine ⟨by show z.cps.size ≤ _; rw [hl]; exact Nat.le_refl _, fun i d e => ?_⟩
  have hi : i < z.cps.size := by rw [← hl]; exact (List.getElem?_eq_some_iff.mp e).1
  refine ⟨hi, fun x H' y => ?_⟩
  obtain ⟨rfl, c, hc, rfl⟩ := y
  have e2 : d = .str ⟨#[c]⟩ := by
    unfold signs at e
    rw [List.getElem?_map, Array.getElem?_toList, hc] at e
    exact (Option.some.inj e).symm
  subst e2
  exact ⟨A, R, Same.refl _, .str _, fun _ _ => ⟨rfl, rfl⟩⟩
def D.seq : D → Option (List D)
  | .lst l => some l
  | .rol l => some l
  | .tup l => some l
  | .str z => some (signs z)
  | _ => none
def iSeq (K : PySem.W.Frag) (tl : TE) : TI := fun σ H R => tl σ H fun x H1 => (∃ a, x = .ref a ∧ (∃ xs, SqL K H1 a xs) ∧ R (Itl K a) H1) ∨ (∃ a, x = .ref a ∧ (∃ xs, SqT K H1 a xs) ∧ R (Itt K a) H1) ∨ ∃ z, x = .str z ∧ R (Its z) H1
theorem pi_seq (h : PE X e te) : PI X tg e (iSeq X.K te) := by
  have cst : ∀ {v : Value} {x : V} {H1 : Hp}, RelV x v → ∀ (T : Value → Shared → Prop), True := fun _ _ => trivial
  refine ⟨fun pins s σ H R I hw => ?_⟩
  refine thn (h.run pins s σ H _ I hw) fun v s1 ⟨x, H1, I1, r1, q1⟩ => ?_
  have sub : ∀ {wi : TI}, (PI X tg e wi) → True := fun _ => trivial
  rcases q1 with ⟨a, rfl, ⟨xs, hq⟩, q⟩ | ⟨a, rfl, ⟨xs, hq⟩, q⟩ | ⟨z, rfl, q⟩
  · cases r1
    obtain ⟨its, rv, p, hz⟩ := I1.list hq
    refine wpAny_pyIter_list p.isList ?_
    refine ⟨s1.heap.objs.size, [s1.heap.objs.size], _, _, H1, rfl, I1.kept (t' := s1.toks) fun b o e => Heap.get?_push_of_some _ e, turn_list a _, ⟨_, Heap.get?_push_size _ rfl, rfl, rfl⟩, fun b hb => ?_, q⟩
    have e : b = s1.heap.objs.size := by simpa using hb
    subst e
    exact I1.fpOk (Nat.le_refl _) (I1.hok.fresh (Nat.le_refl _))
  · cases r1
    obtain ⟨its, rv, p, hz⟩ := I1.tuple hq
    refine wpAny_pyIter_tuple (show s1.heap.IsTuple a its.toArray from p) ?_
    refine ⟨s1.heap.objs.size, [s1.heap.objs.size], _, _, H1, rfl, I1.kept (t' := s1.toks) fun b o e => Heap.get?_push_of_some _ e, turn_tuple a _, ⟨_, Heap.get?_push_size _ rfl, rfl, rfl⟩, fun b hb => ?_, q⟩
    have e : b = s1.heap.objs.size := by simpa using hb
    subst e
    exact I1.fpOk (Nat.le_refl _) (I1.hok.fresh (Nat.le_refl _))
  · obtain ⟨t, rfl⟩ := r1
    cases ha : z.cps.all (· < 128)
    · exact wpAny_pyIter_wide ha (pi_one (tk := s1.toks) I1 _ (turn_str _ z t "str_iterator" (.inr rfl)) ⟨_, Heap.get?_push_size _ rfl, rfl, rfl⟩ q)
    · exact wpAny_pyIter_ascii ha (pi_one (tk := s1.toks) I1 _ (turn_str _ z t "str_ascii_iterator" (.inl rfl)) ⟨_, Heap.get?_push_size _ rfl, rfl, rfl⟩ q)
def sSeq (a : DM) : DIt := fun δ P EX => a δ (fun x δ1 => asO x.seq fun l => P l δ1) EX
theorem di_seq (h : DE X W e te φ) : DI X W tg e (iSeq X.K te) (sSeq φ) := by
  refine ⟨pi_seq h.pe, fun g σ δ A H P EX R R0 hp hR hX => h.lk g σ δ A H _ EX _ R0 hp (fun v d δ1 A1 H1 R1 s1 d1 h1 => ?_) hX⟩
  obtain ⟨l, hl, h1⟩ := asO_of h1
  cases d1 <;> cases hl
  · exact .inr (.inr ⟨_, rfl, hR _ _ δ1 A1 H1 R1 s1 itOk_str h1⟩)
  · rename_i a xs k1 k2
    exact .inl ⟨a, rfl, ⟨xs, SqL.of (R1.sub _ _ k1)⟩, hR _ _ δ1 A1 H1 R1 s1 (itOk_list (SqL.of k1) k2) h1⟩
  · rename_i a xs k1 k2
    exact .inl ⟨a, rfl, ⟨xs, R1.sub.seq k1⟩, hR _ _ δ1 A1 H1 R1 s1 (itOk_list k1 k2) h1⟩
  · rename_i a xs k1 k2
    exact .inr (.inl ⟨a, rfl, ⟨xs, sqT_same R1.sub k1⟩, hR _ _ δ1 A1 H1 R1 s1 (itOk_tup k1 k2) h1⟩)
def rangeD (lo : Int) (n : Nat) : List D := (List.range n).map fun i => .int (lo + (i : Nat))
theorem itOk_range {lo : Int} {n : Nat} {A0 : Hp} : ItOk K (Itr lo n) A0 (rangeD lo n) := fun gh σ δ A H R s0 => by
  have hl : (rangeD lo n).length = n := by simp [rangeD]
  refine ⟨by show n ≤ _; rw [hl]; exact Nat.le_refl _, fun i d e => ?_⟩
  have hi : i < n := by rw [← hl]; exact (List.getElem?_eq_some_iff.mp e).1
  refine ⟨hi, fun x H' y => ?_⟩
  obtain ⟨rfl, rfl⟩ := y
  have e2 : d = .int (lo + (i : Nat)) := by
    unfold rangeD at e
    rw [List.getElem?_map, List.getElem?_range hi] at e
    exact (Option.some.inj e).symm
  subst e2
  exact ⟨A, R, Same.refl _, .int _, fun _ _ => ⟨rfl, rfl⟩⟩
def sRange (s : DA) : DIt := fun δ P EX => s δ (fun ds δ1 => match ds with
  | [.int j] => -(2 ^ 62) ≤ j ∧ j < 2 ^ 62 ∧ P (rangeD 0 j.toNat) δ1
  | _ => False) EX
theorem di_range1 (hm : X.mg "range" = none) (ha : DAr X W [a] t φs) (hg : Gl X "range" := by rfl) (hs : starEach [a] X.env = [(false, eval a X.env)] := by rfl) : DI X W tg (.Call (.Name "range" p) [a] [] pos) (iRng1 t) (sRange φs) := by
  refine ⟨pi_range1 hg hm ha.pa hs, fun g σ δ A H P EX R R0 hp hR hX => ha.lk g σ δ A H _ EX _ R0 hp (fun vs ds δ1 A1 H1 R1 s1 d1 h1 => ?_) hX⟩
  split at h1
  · rename_i j
    cases d1 with
    | cons k1 k2 =>
      cases k1
      cases k2
      exact ⟨j, rfl, h1.1, h1.2.1, hR _ _ δ1 A1 H1 R1 s1 itOk_range h1.2.2⟩
  · exact h1.elim
def sRange2 (s : DA) : DIt := fun δ P EX => s δ (fun ds δ1 => match ds with
  | [.int i, .int j] => (-(2 ^ 62) ≤ i ∧ i < 2 ^ 62 ∧ -(2 ^ 62) ≤ j ∧ j < 2 ^ 62) ∧ P (rangeD i (j - i).toNat) δ1
  | _ => False) EX
theorem di_range2 (hm : X.mg "range" = none) (ha : DAr X W [a, b] t φs) (hg : Gl X "range" := by rfl) (hs : starEach [a, b] X.env = [(false, eval a X.env), (false, eval b X.env)] := by rfl) (hs2 : starEach [b] X.env = [(false, eval b X.env)] := by rfl) :
    DI X W tg (.Call (.Name "range" p) [a, b] [] pos) (iRng2 t) (sRange2 φs) := by
  refine ⟨pi_range2 hg hm ha.pa hs hs2, fun g σ δ A H P EX R R0 hp hR hX => ha.lk g σ δ A H _ EX _ R0 hp (fun vs ds δ1 A1 H1 R1 s1 d1 h1 => ?_) hX⟩
  split at h1
  · rename_i i j
    cases d1 with
    | cons k1 k2 =>
      cases k1
      cases k2 with
      | cons k3 k4 =>
        cases k3
        cases k4
        exact ⟨i, j, rfl, h1.1, hR _ _ δ1 A1 H1 R1 s1 itOk_range h1.2⟩
  · exact h1.elim
/-- zip of two lists, of two tuples -/
def zipD : List D → List D → List D
  | x :: xs, y :: ys => .tup [x, y] :: zipD xs ys
  | _, _ => []
theorem zipD_length : ∀ (xs ys : List D), (zipD xs ys).length = min xs.length ys.length
  | x :: xs, y :: ys => by rw [zipD, List.length_cons, zipD_length xs ys, List.length_cons, List.length_cons]; omega
  | [], ys => by simp [zipD]
  | x :: xs, [] => by simp [zipD]
theorem zipD_get : ∀ {xs ys : List D} {i : Nat} {d : D}, (zipD xs ys)[i]? = some d → ∃ x y, xs[i]? = some x ∧ ys[i]? = some y ∧ d = .tup [x, y]
  | x :: xs, y :: ys, 0, d, h => ⟨x, y, rfl, rfl, by cases h; rfl⟩
  | x :: xs, y :: ys, i + 1, d, h => by simpa using zipD_get (xs := xs) (ys := ys) (i := i) (by simpa [zipD] using h)
  | [], ys, i, d, h => by simp [zipD] at h
  | x :: xs, [], i, d, h => by simp [zipD] at h
theorem pair_put {gh : Gh} {σ : L2.St} {δ : Dl} {A H : Hp} {T : Addr} {x y : V} {d e : D} (R : Rep K gh σ δ A H) (hT : H T = none) (dx : Dr K A x d) (dy : Dr K A y e) :
    ∃ A', Rep K gh σ δ A' (upd H T (.tup [x, y])) ∧ Same A A' ∧ Dr K A' (.ref T) (.tup [d, e]) ∧ ∀ b, H b ≠ none → upd H T (.tup [x, y]) b = H b ∧ A' b = A b := by
  have ha := (R.free hT).1
  refine ⟨upd A T (.tup [x, y]), R.put hT, upd_put ha, sqT_put ha (.cons dx (.cons dy .nil)), fun b n => ?_⟩
  have hb : b ≠ T := fun z => by subst z; exact n hT
  exact ⟨upd_ne hb, upd_ne hb⟩
theorem itOk_zip {a b : Addr} {A0 : Hp} {xs ys : List V} {ds es : List D} (hs : SqL K A0 a xs) (hd : DrAll K A0 xs ds) (ks : SqL K A0 b ys) (kd : DrAll K A0 ys es) : ItOk K (Itz K a b) A0 (zipD ds es) := fun gh σ δ A H R s0 => by
  have hq : SqL K H a xs := R.sub.seq (s0.seq hs)
  have kq : SqL K H b ys := R.sub.seq (s0.seq ks)
  refine ⟨⟨xs, ys, hq, kq, by rw [zipD_length, hd.length, kd.length]; omega⟩, fun i d e => ?_⟩
  obtain ⟨x', y', e1, e2, rfl⟩ := zipD_get e
  obtain ⟨v, hv, dv⟩ := hd.get' e1
  obtain ⟨w, kv, dw⟩ := kd.get' e2
  refine ⟨⟨xs, ys, v, w, hq, kq, hv, kv⟩, fun x H' y => ?_⟩
  obtain ⟨T, x1, y1, rfl, hT, rfl, h1, h2⟩ := y
  have g1 := h1 xs hq
  have g2 := h2 ys kq
  rw [hv] at g1
  rw [kv] at g2
  cases g1
  cases g2
  exact pair_put R hT (dv.same s0) (dw.same s0)
theorem itOk_zipT {a b : Addr} {A0 : Hp} {xs ys : List V} {ds es : List D} (hs : SqT K A0 a xs) (hd : DrAll K A0 xs ds) (ks : SqT K A0 b ys) (kd : DrAll K A0 ys es) : ItOk K (ItzT K a b) A0 (zipD ds es) := fun gh σ δ A H R s0 => by
  have hq : SqT K H a xs := sqT_same R.sub (sqT_same s0 hs)
  have kq : SqT K H b ys := sqT_same R.sub (sqT_same s0 ks)
  refine ⟨⟨xs, ys, hq, kq, by rw [zipD_length, hd.length, kd.length]; omega⟩, fun i d e => ?_⟩
  obtain ⟨x', y', e1, e2, rfl⟩ := zipD_get e
  obtain ⟨v, hv, dv⟩ := hd.get' e1
  obtain ⟨w, kv, dw⟩ := kd.get' e2
  refine ⟨⟨xs, ys, v, w, hq, kq, hv, kv⟩, fun x H' y => ?_⟩
  obtain ⟨T, x1, y1, rfl, hT, rfl, h1, h2⟩ := y
  have g1 := h1 xs hq
  have g2 := h2 ys kq
  rw [hv] at g1
  rw [kv] at g2
  cases g1
  cases g2
  exact pair_put R hT (dv.same s0) (dw.same s0)
def sZip (s : DA) : DIt := fun δ P EX => s δ (fun ds δ1 => match ds with
  | [.lst xs, .lst ys] => P (zipD xs ys) δ1
  | [.tup xs, .tup ys] => P (zipD xs ys) δ1
  | _ => False) EX
theorem di_zip {elts : List Expr} {kk : Nat} {tpos : Pos} (hm : X.mg "zip" = none) (ha : DAr X W [a, b] t φs) (hg : Gl X "zip" := by rfl) (hs : starEach [a, b] X.env = (false, eval a X.env) :: starEach [b] X.env := by rfl) (hpl : (backTo pos (starEach [b] X.env)).any (·.1) = false := by rfl) :
    DI X W (.Tuple elts kk tpos) (.Call (.Name "zip" p) [a, b] [] pos) (iZipA X.K t) (sZip φs) := by
  refine ⟨pi_zipA hg hm ha.pa hs hpl, fun g σ δ A H P EX R R0 hp hR hX => ha.lk g σ δ A H _ EX _ R0 hp (fun vs ds δ1 A1 H1 R1 s1 d1 h1 => ?_) hX⟩
  split at h1
  · cases d1 with
    | cons k1 k2 =>
      cases k2 with
      | cons k3 k4 =>
        cases k4
        cases k1
        cases k3
        rename_i q' xs e2 f2 q ys e1 f1
        exact ⟨q', q, _, _, rfl, .inl ⟨SqL.of (R1.sub _ _ e2), SqL.of (R1.sub _ _ e1), hR _ _ δ1 A1 H1 R1 s1 (itOk_zip (SqL.of e2) f2 (SqL.of e1) f1) h1⟩⟩
  · cases d1 with
    | cons k1 k2 =>
      cases k2 with
      | cons k3 k4 =>
        cases k4
        cases k1
        cases k3
        rename_i q' xs e2 f2 q ys e1 f1
        exact ⟨q', q, _, _, rfl, .inr ⟨sqT_same R1.sub e2, sqT_same R1.sub e1, hR _ _ δ1 A1 H1 R1 s1 (itOk_zipT e2 f2 e1 f1) h1⟩⟩
  · exact h1.elim
end
end RL
set_option Elab.async false
set_option linter.all false
set_option maxRecDepth 100000
set_option maxHeartbeats 4000000
/-! R7: comprehensions. -/
namespace RL
open PySem PySem.Spec PyProof.Rows L2 RZ

/-- nothing may be raised -/
abbrev W0 : WX := fun _ _ _ _ => False
def wipeD (s : List SD) : List Nat → List SD
  | [] => s
  | v :: vs => (wipeD s vs).set v .un
def origD (s0 : List SD) (v : Nat) : SD := match s0[v]? with
  | some (.im d) => .im d
  | _ => .un
/-- the slots vs as they stood in s0 -/
def restD (s0 s : List SD) : List Nat → List SD
  | [] => s
  | v :: vs => (restD s0 s vs).set v (origD s0 v)
theorem wipeD_length (s : List SD) : ∀ vs : List Nat, (wipeD s vs).length = s.length
  | [] => rfl
  | v :: vs => by unfold wipeD; rw [List.length_set, wipeD_length s vs]
theorem restD_length (s0 s : List SD) : ∀ vs : List Nat, (restD s0 s vs).length = s.length
  | [] => rfl
  | v :: vs => by unfold restD; rw [List.length_set, restD_length s0 s vs]
theorem wipe_out {σ : L2.St} {j : Nat} : ∀ {vs : List Nat}, j ∉ vs → (wipe σ vs)[j]? = σ[j]?
  | [], _ => rfl
  | v :: vs, h => by
    have h1 : v ≠ j := fun e => h (by rw [e]; exact List.mem_cons_self)
    unfold wipe
    rw [List.getElem?_set_ne h1]
    exact wipe_out fun e => h (List.mem_cons_of_mem _ e)
theorem wipeD_out {s : List SD} {j : Nat} : ∀ {vs : List Nat}, j ∉ vs → (wipeD s vs)[j]? = s[j]?
  | [], _ => rfl
  | v :: vs, h => by
    have h1 : v ≠ j := fun e => h (by rw [e]; exact List.mem_cons_self)
    unfold wipeD
    rw [List.getElem?_set_ne h1]
    exact wipeD_out fun e => h (List.mem_cons_of_mem _ e)
theorem restD_out {s0 s : List SD} {j : Nat} : ∀ {vs : List Nat}, j ∉ vs → (restD s0 s vs)[j]? = s[j]?
  | [], _ => rfl
  | v :: vs, h => by
    have h1 : v ≠ j := fun e => h (by rw [e]; exact List.mem_cons_self)
    unfold restD
    rw [List.getElem?_set_ne h1]
    exact restD_out fun e => h (List.mem_cons_of_mem _ e)
theorem wipeD_in {s : List SD} {j : Nat} {x : SD} : ∀ {vs : List Nat}, j ∈ vs → (wipeD s vs)[j]? = some x → x = .un
  | v :: vs, h, e => by
    unfold wipeD at e
    rcases get_set e with ⟨_, e2⟩ | ⟨hj, e2⟩
    · exact e2
    · exact wipeD_in ((List.mem_cons.mp h).resolve_left hj) e2
theorem restD_in {s0 s : List SD} {j : Nat} {x : SD} : ∀ {vs : List Nat}, j ∈ vs → (restD s0 s vs)[j]? = some x → x = origD s0 j
  | v :: vs, h, e => by
    unfold restD at e
    rcases get_set e with ⟨e1, e2⟩ | ⟨hj, e2⟩
    · rw [e1]; exact e2
    · exact restD_in ((List.mem_cons.mp h).resolve_left hj) e2
section
variable {K : PySem.W.Frag} {g : Gh} {σ σ' : L2.St} {δ δ' : Dl} {A H A' H' : Hp} {vs : List Nat}
theorem Rep.wiped (R : Rep K g σ δ A H) (vs : List Nat) : Rep K g (L2.wipe σ vs) { δ with s := wipeD δ.s vs } A H := by
  have un : ∀ {j : Nat} {x : SD}, (wipeD δ.s vs)[j]? = some x → x ≠ .un → j ∉ vs ∧ δ.s[j]? = some x := fun {j x} e n => by
    have hj : j ∉ vs := fun h => n (wipeD_in h e)
    exact ⟨hj, by rw [wipeD_out hj] at e; exact e⟩
  refine ⟨R.sub, R.old, R.new, R.keep, R.dm, R.d1, R.d2, R.tabs, by rw [wipe_length]; show _ = (wipeD δ.s vs).length; rw [wipeD_length]; exact R.len, fun i d e => ?_, fun i l e => ?_, fun i j p l l' e1 e2 a b => ?_, R.mr⟩
  · obtain ⟨hj, e⟩ := un e (by simp)
    obtain ⟨v, a, b⟩ := R.im i d e
    exact ⟨v, by rw [wipe_out hj]; exact a, b⟩
  · obtain ⟨hj, e⟩ := un e (by simp)
    obtain ⟨p, xs, a, b⟩ := R.ow i l e
    exact ⟨p, xs, by rw [wipe_out hj]; exact a, b⟩
  · obtain ⟨h1, e1⟩ := un e1 (by simp)
    obtain ⟨h2, e2⟩ := un e2 (by simp)
    rw [wipe_out h1] at a
    rw [wipe_out h2] at b
    exact R.dis i j p l l' e1 e2 a b
theorem Rep.rest {s0 : List SD} (R : Rep K g (wipe σ vs) { δ with s := wipeD δ.s vs } A H) (h0 : ∀ (i : Nat) (d : D), s0[i]? = some (.im d) → ∃ v, σ[i]? = some (some v) ∧ Dr K A v d) : Rep K g σ { δ with s := restD s0 δ.s vs } A H := by
  have out : ∀ {j : Nat} {x : SD}, j ∉ vs → (restD s0 δ.s vs)[j]? = some x → (wipeD δ.s vs)[j]? = some x := fun {j x} hj e => by rw [restD_out hj] at e; rw [wipeD_out hj]; exact e
  have inn : ∀ {j : Nat} {x : SD}, j ∈ vs → (restD s0 δ.s vs)[j]? = some x → x = .un ∨ ∃ d, x = .im d ∧ s0[j]? = some (.im d) := fun {j x} hj e => by
    have e2 := restD_in hj e
    unfold origD at e2
    split at e2
    · rename_i d hd
      exact .inr ⟨d, e2, hd⟩
    · exact .inl e2
  refine ⟨R.sub, R.old, R.new, R.keep, R.dm, R.d1, R.d2, R.tabs, ?_, fun i d e => ?_, fun i l e => ?_, fun i j p l l' e1 e2 a b => ?_, R.mr⟩
  · have := R.len
    rw [wipe_length] at this
    rw [this]
    show (wipeD δ.s vs).length = (restD s0 δ.s vs).length
    rw [wipeD_length, restD_length]
  · by_cases hj : i ∈ vs
    · rcases inn hj e with e2 | ⟨d', e2, e3⟩
      · cases e2
      · cases e2
        exact h0 i d e3
    · obtain ⟨v, a, b⟩ := R.im i d (out hj e)
      exact ⟨v, by rw [wipe_out hj] at a; exact a, b⟩
  · by_cases hj : i ∈ vs
    · rcases inn hj e with e2 | ⟨d', e2, e3⟩ <;> cases e2
    · obtain ⟨p, xs, a, b⟩ := R.ow i l (out hj e)
      exact ⟨p, xs, by rw [wipe_out hj] at a; exact a, b⟩
  · by_cases h1 : i ∈ vs
    · rcases inn h1 e1 with e2 | ⟨d', e2, e3⟩ <;> cases e2
    · by_cases h2 : j ∈ vs
      · rcases inn h2 e2 with e3 | ⟨d', e3, e4⟩ <;> cases e3
      · exact R.dis i j p l l' (out h1 e1) (out h2 e2) (by rw [wipe_out h1]; exact a) (by rw [wipe_out h2]; exact b)
/-- a list just made is written -/
theorem Rep.poke {p : Addr} {xs ys : List V} {l : List D} (R : Rep K g σ δ A H) (F : Fre K g σ δ A H p xs l) : Rep K g σ δ A (upd H p (.lst ys)) := by
  have ne : ∀ b, b ≠ p → upd H p (.lst ys) b = H b := fun b hb => upd_ne hb
  refine ⟨fun b o e => ?_, R.old, R.new, fun b o f n t e => ?_, fun b n => ?_, R.d1, R.d2, fun q hq => ?_, R.len, R.im, fun i l' e => ?_, R.dis, ⟨fun q l' e => ?_, fun q C fs e => ?_⟩⟩
  · have hb : b ≠ p := fun z => by subst z; rw [F.a] at e; cases e
    rw [ne b hb]; exact R.sub b o e
  · have hb : b ≠ p := fun z => by subst z; rw [F.h0] at e; cases e
    rw [ne b hb]; exact R.keep b o f n t e
  · by_cases hb : b = p
    · subst hb; rw [upd_same]; simp
    · rw [ne b hb]; exact R.dm b n
  · obtain ⟨⟨ps, h1, h2, h3⟩, hA⟩ := R.tabs q hq
    have ht : ∀ {b : Addr} {o : HO}, H b = some o → (∀ zs, o ≠ .lst zs) → upd H p (.lst ys) b = some o := fun {b o} e n => by
      have hb : b ≠ p := fun z => by subst z; rw [F.at'] at e; cases e; exact n _ rfl
      rw [ne b hb]; exact e
    refine ⟨⟨ps, ht h1 (fun _ z => nomatch z), h2, fun pos cv hc => ?_⟩, hA⟩
    obtain ⟨c, e1, e2⟩ := h3 pos cv hc
    refine ⟨c, e1, ht e2 fun zs z => ?_⟩
    have z' : HO.ext _ = HO.lst zs := z
    cases z'
  · obtain ⟨q, zs, a1, a2, a3⟩ := R.ow i l' e
    have hq : q ≠ p := fun z => by subst z; exact F.ne i l' e a1
    exact ⟨q, zs, a1, by rw [ne q hq]; exact a2, a3⟩
  · have hq : q ≠ p := fun z => by subst z; rw [F.m] at e; cases e
    obtain ⟨zs, a1, a2⟩ := R.mr.ls q l' e
    exact ⟨zs, by rw [ne q hq]; exact a1, a2⟩
  · have hq : q ≠ p := fun z => by subst z; rw [F.m] at e; cases e
    obtain ⟨dx, fv, a1, a2⟩ := R.mr.ob q C fs e
    exact ⟨dx, fv, by rw [ne q hq]; exact a1, a2⟩
theorem Fre.poke {p : Addr} {xs ys : List V} {l l' : List D} (F : Fre K g σ δ A H p xs l) (d : DrAll K A ys l') : Fre K g σ δ A (upd H p (.lst ys)) p ys l' := ⟨upd_same, F.a, F.h0, F.m, F.ne, d⟩
/-- a list just made outlives what does not know of it -/
theorem Fre.stay {p : Addr} {xs : List V} {l : List D} (R : Rep K g σ δ A H) (F : Fre K g σ δ A H p xs l) (R' : Rep K (g.re σ δ A H) σ' δ' A' H') : Fre K g σ' δ' A' H' p xs l := by
  have no : ¬ owned σ δ p := fun ⟨i, l', e, z⟩ => F.ne i l' e z
  have np : H p ≠ none := by rw [F.at']; simp
  refine ⟨R'.keep p _ no F.m trivial F.at', (R'.new p no np).trans F.a, F.h0, R'.d1 p np F.m, fun j l' e z => ?_, F.dr.same R'.old⟩
  obtain ⟨q, ys, h1, h2, h3, h4, _⟩ := R'.ow j l' e
  rw [h1] at z
  cases z
  rcases h4 with h4 | h4
  · exact np h4
  · exact no h4
end

/-- the turns of a comprehension: acc is what stands in the new list -/
def dComp (g : DG) (tt : DT) (te : DM) (vs : List Nat) (s0 : List SD) : List D → List D → Dl → (List D → Dl → Prop) → Prop
  | [], acc, δ, P => P acc { δ with s := restD s0 δ.s vs }
  | d :: ds, acc, δ, P => g d { δ with s := wipeD δ.s vs } fun δ1 => tt δ1 (fun b δ2 => if b = true then te δ2 (fun y δ3 => acc.length < sizeLine ∧ dComp g tt te vs s0 ds (acc ++ [y]) δ3 P) (fun _ _ => False) else dComp g tt te vs s0 ds acc δ2 P) fun _ _ => False
def fComp (ψ : DIt) (g : DG) (tt : DT) (te : DM) (vs : List Nat) : DA := fun δ P EX => ψ δ (fun ds δ1 => dComp g tt te vs δ1.s ds [] δ1 P) EX
theorem lkx0 {K : PySem.W.Frag} {g : Gh} {σ : L2.St} {EX : EXk} (h : ∀ er δ, ¬ EX er δ) : LkX K W0 g σ EX := fun er δ' _ _ _ _ _ _ x => (h er δ' x).elim
theorem lk_comp {K : PySem.W.Frag} {W : WX} {wi : TI} {g : TG} {tt : TT} {te : TE} {ψ : DIt} {dg : DG} {τ : DT} {φ : DM} {tgs vs : List Nat} (hi : LkI K W wi ψ) (hg : LkG K g tgs dg) (ht : LkT K W0 tt τ) (he : LkE K W0 te φ) (hs : ∀ i ∈ tgs, i ∈ vs) :
    LkF K W (tLc wi g tt te vs) (fComp ψ dg τ φ vs) := fun gh σ δ A H P EX Q R h hQ hX => by
  refine hi gh σ δ A H _ EX _ R h (fun J ds δ1 A1 H1 R1 s1 it h1 => ?_) hX
  intro L hL
  refine ⟨fun i m Hc => m = ds.length - i ∧ i ≤ ds.length ∧ ∃ Ac δc acc xs, Rep K gh (wipe σ vs) { δc with s := wipeD δc.s vs } Ac Hc ∧ Same A1 Ac ∧ Fre K gh (wipe σ vs) { δc with s := wipeD δc.s vs } Ac Hc L xs acc ∧
      dComp dg τ φ vs δ1.s (ds.drop i) acc δc P, ⟨ds.length, by simp, Nat.zero_le _, A1, δ1, [], [], ?_, Same.refl _, ?_, h1⟩, ?_⟩
  · exact (R1.lay hL).wiped vs
  · exact (R1.wiped vs).fresh hL .nil
  · rintro i m Hc ⟨rfl, hi', Ac, δc, acc, xs, Rc, sc, Fc, hc⟩
    obtain ⟨stp, go⟩ := it _ _ _ _ _ Rc sc
    by_cases hlt : i < ds.length
    · obtain ⟨d, hd⟩ : ∃ d, ds[i]? = some d := ⟨ds[i], List.getElem?_eq_getElem hlt⟩
      have hdrop : ds.drop i = d :: ds.drop (i + 1) := by
        rw [List.drop_eq_getElem_cons hlt]
        rw [List.getElem?_eq_getElem hlt] at hd
        rw [Option.some.inj hd]
      rw [hdrop] at hc
      obtain ⟨go1, go2⟩ := go i d hd
      refine .inr ⟨go1, fun H' => ∃ Ac δc acc xs, Rep K gh (wipe σ vs) { δc with s := wipeD δc.s vs } Ac H' ∧ Same A1 Ac ∧ Fre K gh (wipe σ vs) { δc with s := wipeD δc.s vs } Ac H' L xs acc ∧ dComp dg τ φ vs δ1.s (ds.drop (i + 1)) acc δc P,
        fun H' p' => ⟨ds.length - (i + 1), by omega, rfl, hlt, p'⟩, fun x Hy y => ?_⟩
      -- the item has come
      obtain ⟨Ay, Ry, sy, dy, ky⟩ := go2 x Hy y
      have Fy : Fre K gh (wipe σ vs) { δc with s := wipeD δc.s vs } Ay Hy L xs acc := by
        obtain ⟨k1, k2⟩ := ky L (by rw [Fc.at']; simp)
        exact ⟨k1.trans Fc.at', k2.trans Fc.a, Fc.h0, Fc.m, Fc.ne, Fc.dr.same sy⟩
      -- from here on by the new ground
      refine hg (gh.re (wipe σ vs) { δc with s := wipeD δc.s vs } Ay Hy) _ _ Ay Hy x d _ _ Ry.base dy hc fun σ2 δ2 R2 w2 q2 => ?_
      have w2' : wipe σ2 vs = wipe σ vs := by
        rw [w2 vs hs]
        have ww : ∀ (us : List Nat), wipe (wipe σ vs) us = wipe σ vs ∨ True := fun _ => .inr trivial
        -- wiping twice is wiping
        apply List.ext_getElem?
        intro j
        by_cases hj : j ∈ vs
        · have a1 : ∀ (ρ : L2.St), j < ρ.length → (wipe ρ vs)[j]? = some none := fun ρ hl => by
            cases e : (wipe ρ vs)[j]? with
            | none => rw [List.getElem?_eq_none_iff, wipe_length] at e; omega
            | some z =>
              cases z with
              | none => rfl
              | some v => exact absurd hj (wipe_some e).2
          by_cases hl : j < σ.length
          · rw [a1 σ hl, a1 (wipe σ vs) (by rw [wipe_length]; exact hl)]
          · rw [List.getElem?_eq_none (by rw [wipe_length, wipe_length]; omega), List.getElem?_eq_none (by rw [wipe_length]; omega)]
        · rw [wipe_out hj]
      refine ⟨w2', ?_⟩
      refine ht _ σ2 δ2 Ay Hy _ _ _ R2 q2 (fun b δ3 A3 H3 R3 s3 q3 => ?_) (lkx0 fun _ _ z => z)
      cases b with
      | false =>
        have R3' := Ry.unbase R3
        have F3 := Fre.stay Ry Fy R3
        refine ⟨A3, δ3, acc, xs, ?_, (sc.trans sy).trans s3, ?_, q3⟩
        · rw [← w2']; exact R3'.wiped vs
        · refine ⟨F3.at', F3.a, F3.h0, F3.m, fun j l' e z => ?_, F3.dr⟩
          have hj : j ∉ vs := fun h => by have := wipeD_in h e; cases this
          rw [wipeD_out hj] at e
          rw [← w2', wipe_out hj] at z
          exact F3.ne j l' e z
      | true =>
        refine he _ σ2 δ3 A3 H3 _ _ _ R3 q3 (fun v yv δ4 A4 H4 R4 s4 d4 q4 => ?_) (lkx0 fun _ _ z => z)
        have R4' := Ry.unbase R4
        have F4 := Fre.stay Ry Fy R4
        refine ⟨xs, F4.at', by rw [F4.dr.length]; exact q4.1, A4, δ4, acc ++ [yv], xs ++ [v], ?_, ((sc.trans sy).trans s3).trans s4, ?_, q4.2⟩
        · rw [← w2']
          exact (R4'.poke F4).wiped vs
        · have F5 := F4.poke (ys := xs ++ [v]) (F4.dr.snoc d4)
          refine ⟨F5.at', F5.a, F5.h0, F5.m, fun j l' e z => ?_, F5.dr⟩
          have hj : j ∉ vs := fun h => by have := wipeD_in h e; cases this
          rw [wipeD_out hj] at e
          rw [← w2', wipe_out hj] at z
          exact F5.ne j l' e z
    · have e : i = ds.length := by omega
      subst e
      rw [List.drop_length] at hc
      refine .inl ⟨stp, ?_⟩
      have hc' : P acc { δc with s := restD δ1.s δc.s vs } := hc
      have Rr : Rep K gh σ { δc with s := restD δ1.s δc.s vs } Ac Hc := Rc.rest fun i d e => by
        obtain ⟨v, a, b⟩ := R1.im i d e
        exact ⟨v, a, b.same sc⟩
      refine hQ L xs acc _ Ac Hc Rr (s1.trans sc) ⟨Fc.at', Fc.a, Fc.h0, Fc.m, fun j l' e z => ?_, Fc.dr⟩ hc'
      by_cases hj : j ∈ vs
      · have e2 := restD_in hj e
        unfold origD at e2
        split at e2 <;> cases e2
      · rw [restD_out hj] at e
        refine Fc.ne j l' ?_ ?_
        · show (wipeD δc.s vs)[j]? = _
          rw [wipeD_out hj]; exact e
        · rw [wipe_out hj]; exact z
section
variable {X : Cx} {W : WX} {K : PySem.W.Frag}
variable {e a b c o tg iter elt : Expr} {es ifs : List Expr} {ta tb tc to te : TE} {t : TA} {φ φa φb φc φe : DM} {φs : DA} {pos p apos p2 : Pos} {scope : Scope} {own : List (Str × Nat)} {wi : TI} {g : TG} {tt : TT} {ψ : DIt} {dg : DG} {τ : DT} {tgs : List Nat}
structure DPt (X : Cx) (W : WX) (es : List Expr) (t : TT) (φ : DT) : Prop where
  pt : PTs X es t
  lk : LkT X.K W t φ
def dYes : DT := fun δ P _ => P true δ
theorem dp_nil : DPt X W [] tYes dYes := ⟨pts_nil, fun g σ δ A H P EX Q R h hQ _ => hQ true δ A H R (Same.refl _) h⟩
theorem dp_one (h : DTe X W c tt τ) : DPt X W [c] tt τ := ⟨pts_one h.pt, h.lk⟩
theorem df_comp (hi : DI X W tg iter wi ψ) (ok : BlkOk X.N X.env.scope scope own)
    (hg : ∀ (s : Shared) (H : Hp) (C : Addr) (cl : List (Str × Addr)) (fp : List Addr), DGt (X.blk s H scope (compEnvC scope cl C X.env) fp) tg g tgs dg)
    (ht : ∀ (s : Shared) (H : Hp) (C : Addr) (cl : List (Str × Addr)) (fp : List Addr), DPt (X.blk s H scope (compEnvC scope cl C X.env) fp) W0 ifs tt τ)
    (he : ∀ (s : Shared) (H : Hp) (C : Addr) (cl : List (Str × Addr)) (fp : List Addr), DE (X.blk s H scope (compEnvC scope cl C X.env) fp) W0 elt te φe)
    (hN : X.N.Nodup) (hs : ∀ i ∈ tgs, i ∈ own.map (·.2) := by decide) (hc : X.calm = true := by rfl) (hf : ∀ x, foldedSetIterable iter X.env x = pure x := by intro _; rfl) :
    DF X W (.ListComp elt [⟨tg, iter, ifs, 0⟩] scope pos) (tLc wi g tt te (own.map (·.2))) (fComp ψ dg τ φe (own.map (·.2))) :=
  ⟨pe_lc hc hN hi.pi ok (fun s H C cl fp => (hg s H C cl fp).pg) (fun s H C cl fp => (ht s H C cl fp).pt) (fun s H C cl fp => (he s H C cl fp).pe) hf,
    lk_comp hi.lk (hg {} (fun _ => none) 0 [] []).lk (ht {} (fun _ => none) 0 [] []).lk (he {} (fun _ => none) 0 [] []).lk hs⟩
end
end RL
set_option Elab.async false
set_option linter.all false
set_option maxRecDepth 100000
set_option maxHeartbeats 4000000
/-! R8: statements; bodies of defs. -/
namespace RL
open PySem PySem.Spec PyProof.Rows L2 RZ

structure LkD (K : PySem.W.Frag) (W : WX) (g : Gh) (A : Hp) (D : Ends) (Dd : Dn) : Prop where
  nx : ∀ σ' δ' A' H', Rep K g σ' δ' A' H' → Same A A' → Dd.nx δ' → D.nx σ' H'
  rt : ∀ v d σ' δ' A' H', Rep K g σ' δ' A' H' → Same A A' → Dr K A' v d → Dd.rt d δ' → D.rt v H'
  bk : ∀ σ' δ' A' H', Rep K g σ' δ' A' H' → Same A A' → Dd.bk δ' → D.bk σ' H'
  ct : ∀ σ' δ' A' H', Rep K g σ' δ' A' H' → Same A A' → Dd.ct δ' → D.ct σ' H'
  ex : ∀ σ', LkX K W g σ' Dd.ex
def LkS (K : PySem.W.Frag) (W : WX) (t : TS) (φ : DS) : Prop := ∀ g σ δ A H D Dd, Rep K g σ δ A H → φ δ Dd → LkD K W g A D Dd → t D σ H
structure DSt (X : Cx) (W : WX) (st : Stmt) (t : TS) (φ : DS) : Prop where
  ps : PS X st t
  lk : LkS X.K W t φ
structure DSs (X : Cx) (W : WX) (sts : List Stmt) (t : TS) (φ : DS) : Prop where
  ps : PSs X sts t
  lk : LkS X.K W t φ
theorem LkD.same {K : PySem.W.Frag} {W : WX} {g : Gh} {A A1 : Hp} {D : Ends} {Dd : Dn} (L : LkD K W g A D Dd) (s : Same A A1) : LkD K W g A1 D Dd :=
  ⟨fun σ' δ' A' H' R z => L.nx σ' δ' A' H' R (s.trans z), fun v d σ' δ' A' H' R z => L.rt v d σ' δ' A' H' R (s.trans z), fun σ' δ' A' H' R z => L.bk σ' δ' A' H' R (s.trans z), fun σ' δ' A' H' R z => L.ct σ' δ' A' H' R (s.trans z), L.ex⟩

section
variable {X : Cx} {W : WX} {K : PySem.W.Frag}
variable {e a b c o tg iter elt : Expr} {es ifs : List Expr} {st : Stmt} {sts body els : List Stmt} {ta tb tc to te : TE} {t : TA} {φ φa φb φc φe : DM} {φs : DA} {pos p apos p2 pos' : Pos} {wi : TI} {g : TG} {tt : TT} {ψ : DIt} {dg : DG} {τ : DT} {tgs : List Nat} {t1 t2 : TS} {f1 f2 : DS}
def sNil : DS := fun δ Dd => Dd.nx δ
def sSeq2 (f1 f2 : DS) : DS := fun δ Dd => f1 δ { Dd with nx := fun δ' => f2 δ' Dd }
theorem dss_nil : DSs X W [] tNext sNil := ⟨pss_nil, fun g σ δ A H D Dd R h L => L.nx σ δ A H R (Same.refl _) h⟩
theorem lk_seq (h1 : LkS K W t1 f1) (h2 : LkS K W t2 f2) : LkS K W (tSeq t1 t2) (sSeq2 f1 f2) := fun g σ δ A H D Dd R h L =>
  h1 g σ δ A H _ _ R h ⟨fun σ' δ' A' H' R' z q => h2 g σ' δ' A' H' D Dd R' q (L.same z), L.rt, L.bk, L.ct, L.ex⟩
theorem dss_cons (h1 : DSt X W st t1 f1) (h2 : DSs X W sts t2 f2) : DSs X W (st :: sts) (tSeq t1 t2) (sSeq2 f1 f2) := ⟨pss_cons h1.ps h2.ps, lk_seq h1.lk h2.lk⟩
theorem dss_one (h1 : DSt X W st t1 f1) : DSs X W [st] t1 f1 := ⟨pss_one h1.ps, h1.lk⟩
theorem ds_pass : DSt X W (.Pass pos) tNext sNil := ⟨ps_pass, fun g σ δ A H D Dd R h L => L.nx σ δ A H R (Same.refl _) h⟩
def sBreak : DS := fun δ Dd => Dd.bk δ
def sCont : DS := fun δ Dd => Dd.ct δ
theorem ds_break : DSt X W (.Break pos) tBreak sBreak := ⟨ps_break, fun g σ δ A H D Dd R h L => L.bk σ δ A H R (Same.refl _) h⟩
theorem ds_continue : DSt X W (.Continue pos) tCont sCont := ⟨ps_continue, fun g σ δ A H D Dd R h L => L.ct σ δ A H R (Same.refl _) h⟩
def sNever : DS := fun _ _ => False
theorem ds_never : DSt X W st tNever sNever := ⟨ps_never, fun _ _ _ _ _ _ _ _ h _ => h.elim⟩
theorem dss_never : DSs X W sts tNever sNever := ⟨pss_never, fun _ _ _ _ _ _ _ _ h _ => h.elim⟩
def sRet (a : DM) : DS := fun δ Dd => a δ Dd.rt Dd.ex
theorem ds_ret (h : DE X W e te φ) : DSt X W (.Return (some e) pos) (tRet te) (sRet φ) :=
  ⟨ps_ret h.pe, fun g σ δ A H D Dd R q L => h.lk g σ δ A H _ _ _ R q (fun v d δ' A' H' R' s d' q' => L.rt v d σ δ' A' H' R' s d' q') (L.ex σ)⟩
def sRetN : DS := fun δ Dd => Dd.rt .non δ
theorem ds_retN : DSt X W (.Return none pos) tRetN sRetN := ⟨ps_retN, fun g σ δ A H D Dd R h L => L.rt .non .non σ δ A H R (Same.refl _) .non h⟩
def sExpr (a : DM) : DS := fun δ Dd => a δ (fun _ δ' => Dd.nx δ') Dd.ex
theorem ds_expr (h : DE X W e te φ) (hs : swapsWith e none pos.line X.env = pure false := by rfl) : DSt X W (.Expr e pos) (tDrop te) (sExpr φ) :=
  ⟨ps_expr h.pe hs, fun g σ δ A H D Dd R q L => h.lk g σ δ A H _ _ _ R q (fun v d δ' A' H' R' s d' q' => L.nx σ δ' A' H' R' s q') (L.ex σ)⟩
def sIf (t : DT) (a b : DS) : DS := fun δ Dd => t δ (fun k δ' => if k = true then a δ' Dd else b δ' Dd) Dd.ex
theorem ds_if (hc : DTe X W c tt τ) (ha : DSs X W body t1 f1) (hb : DSs X W els t2 f2) : DSt X W (.If c body els pos) (tIfS tt t1 t2) (sIf τ f1 f2) := by
  refine ⟨ps_if hc.pt ha.ps hb.ps, fun g σ δ A H D Dd R q L => hc.lk g σ δ A H _ _ _ R q (fun k δ' A' H' R' s q' => ?_) (L.ex σ)⟩
  cases k with
  | true => exact ha.lk g σ δ' A' H' D Dd R' q' (L.same s)
  | false => exact hb.lk g σ δ' A' H' D Dd R' q' (L.same s)
def sSet (i : Nat) (a : DM) : DS := fun δ Dd => a δ (fun d δ' => Dd.nx { δ' with s := δ'.s.set i (.im d) }) Dd.ex
theorem ds_set (i : Nat) {x : Str} (hN : X.N.Nodup) (h : DE X W e te φ) (hi : X.N[i]? = some x := by rfl) (hx : Loc X.env.scope x := by first | exact Or.inl rfl | exact Or.inr rfl) (hs : swapsWith e (some (.Name x pos')) pos.line X.env = pure false := by rfl) (hf : X.fn x = true ∨ X.env.scope.names.lookup x = some .local := by first | exact .inl rfl | exact .inr rfl) :
    DSt X W (.Assign [.Name x pos'] e pos) (tAsg te (gName i)) (sSet i φ) :=
  ⟨ps_set hN hi hx h.pe hs hf, fun g σ δ A H D Dd R q L => h.lk g σ δ A H _ _ _ R q (fun v d δ' A' H' R' s d' q' => L.nx _ _ A' H' (R'.set d') s q') (L.ex σ)⟩
def sSetF (i : Nat) (a : DA) : DS := fun δ Dd => a δ (fun l δ' => Dd.nx { δ' with s := δ'.s.set i (.ow l) }) Dd.ex
theorem lk_setF {i : Nat} (h : LkF K W te φs) : LkS K W (tAsg te (gName i)) (sSetF i φs) := fun g σ δ A H D Dd R q L => h g σ δ A H _ _ _ R q (fun p xs l δ' A' H' R' s F' q' => L.nx _ _ A' H' (R'.setOw F') s q') (L.ex σ)
theorem ds_setF (i : Nat) {x : Str} (hN : X.N.Nodup) (h : DF X W e te φs) (hi : X.N[i]? = some x := by rfl) (hx : Loc X.env.scope x := by first | exact Or.inl rfl | exact Or.inr rfl) (hs : swapsWith e (some (.Name x pos')) pos.line X.env = pure false := by rfl) (hf : X.fn x = true ∨ X.env.scope.names.lookup x = some .local := by first | exact .inl rfl | exact .inr rfl) :
    DSt X W (.Assign [.Name x pos'] e pos) (tAsg te (gName i)) (sSetF i φs) := ⟨ps_set hN hi hx h.pe hs hf, lk_setF h.lk⟩
/-- name = [..] by a comprehension, the name a local -/
theorem ds_setLc (i : Nat) {y : Str} {py : Pos} {scope : Scope} {own : List (Str × Nat)} (hN : X.N.Nodup) (hi : DI X W tg iter wi ψ) (ok : BlkOk X.N X.env.scope scope own)
    (hg : ∀ (s : Shared) (H : Hp) (C : Addr) (cl : List (Str × Addr)) (fp : List Addr), DGt (X.blk s H scope (compEnvC scope cl C X.env) fp) tg g tgs dg)
    (ht : ∀ (s : Shared) (H : Hp) (C : Addr) (cl : List (Str × Addr)) (fp : List Addr), DPt (X.blk s H scope (compEnvC scope cl C X.env) fp) W0 ifs tt τ)
    (he : ∀ (s : Shared) (H : Hp) (C : Addr) (cl : List (Str × Addr)) (fp : List Addr), DE (X.blk s H scope (compEnvC scope cl C X.env) fp) W0 elt te φe)
    (hsw : swapsWith (.ListComp elt [⟨tg, iter, ifs, 0⟩] scope pos) (some (.Name y py)) pos'.line X.env = pure true)
    (hs : ∀ i ∈ tgs, i ∈ own.map (·.2) := by decide) (hy : X.N[i]? = some y := by rfl) (hyl : X.env.scope.names.lookup y = some .local := by rfl) (hc : X.calm = true := by rfl) (hf : ∀ x, foldedSetIterable iter X.env x = pure x := by intro _; rfl) :
    DSt X W (.Assign [.Name y py] (.ListComp elt [⟨tg, iter, ifs, 0⟩] scope pos) pos') (tAsg (tLc wi g tt te (own.map (·.2))) (gName i)) (sSetF i (fComp ψ dg τ φe (own.map (·.2)))) :=
  ⟨ps_setLc hc hN hy hyl hsw hi.pi ok (fun s H C cl fp => (hg s H C cl fp).pg) (fun s H C cl fp => (ht s H C cl fp).pt) (fun s H C cl fp => (he s H C cl fp).pe) hf,
    lk_setF (lk_comp hi.lk (hg {} (fun _ => none) 0 [] []).lk (ht {} (fun _ => none) 0 [] []).lk (he {} (fun _ => none) 0 [] []).lk hs)⟩
/-- a target of any form -/
def sAsg (a : DM) (g : DG) : DS := fun δ Dd => a δ (fun d δ' => g d δ' Dd.nx) Dd.ex
theorem ds_asg {γ : DG} (h : DE X W e te φ) (hg : DGt X tg g tgs γ) (hs : swapsWithSole [tg] e pos.line X.env = pure false := by rfl) (hw : swappedStores [tg] e X.env = pure none := by rfl) (h1 : (assignEach [tg] X.env).map (·.2) = [assign tg X.env] := by rfl) : DSt X W (.Assign [tg] e pos) (tAsg te g) (sAsg φ γ) :=
  ⟨ps_asg h.pe hg.pg hs hw h1, fun g' σ δ A H D Dd R q L => h.lk g' σ δ A H _ _ _ R q (fun v d δ' A' H' R' s d' q' =>
    hg.lk g' σ δ' A' H' v d _ _ R' d' q' fun σ2 δ2 R2 _ q2 => L.nx σ2 δ2 A' H' R2 s q2) (L.ex σ)⟩
/-- a, b = x, y, two local names: values; or a list just made -/
def sPar (i j : Nat) (a b : DM) : DS := fun δ Dd => a δ (fun x δ1 => b δ1 (fun y δ2 => Dd.nx { δ2 with s := (δ2.s.set i (.im x)).set j (.im y) }) Dd.ex) Dd.ex
theorem ds_par (i j : Nat) {x y : Str} {px py pt : Pos} {kt k2 pt2} (hN : X.N.Nodup) (ha : DE X W a ta φa) (hb : DE X W b tb φb) (hw : swappedStores [.Tuple [.Name x px, .Name y py] kt pt] (.Tuple [a, b] k2 pt2) X.env = pure (some [x, y]))
    (hi : X.N[i]? = some x := by rfl) (hj : X.N[j]? = some y := by rfl) (hij : i ≠ j := by decide) (hx : X.env.scope.names.lookup x = some .local := by rfl) (hy : X.env.scope.names.lookup y = some .local := by rfl) (hc : X.calm = true := by rfl)
    (h1 : starEach [a, b] X.env = (false, eval a X.env) :: starEach [b] X.env := by rfl) (h2 : starEach [b] X.env = (false, eval b X.env) :: starEach [] X.env := by rfl)
    (hs : swapsWithSole [.Tuple [.Name x px, .Name y py] kt pt] (.Tuple [a, b] k2 pt2) pos.line X.env = pure false := by rfl) :
    DSt X W (.Assign [.Tuple [.Name x px, .Name y py] kt pt] (.Tuple [a, b] k2 pt2) pos) (tPar i j (tCons ta (tCons tb tNil))) (sPar i j φa φb) := by
  refine ⟨ps_par hc hN hi hj hij hx hy (pa_cons ha.pe (pa_cons hb.pe pa_nil h2) h1) hw hs, fun g σ δ A H D Dd R q L => ha.lk g σ δ A H _ _ _ R q (fun v d δ1 A1 H1 R1 s1 d1 q1 => ?_) (L.ex σ)⟩
  refine hb.lk g σ δ1 A1 H1 _ _ _ R1 q1 (fun w e δ2 A2 H2 R2 s2 d2 q2 => ?_) (L.ex σ)
  exact ⟨v, w, rfl, L.nx _ _ A2 H2 ((R2.set (d1.same s2)).set d2) (s1.trans s2) q2⟩
def sParF (i j : Nat) (a : DA) (b : DM) : DS := fun δ Dd => a δ (fun x δ1 => b { δ1 with s := δ1.s.set i (.ow x) } (fun y δ2 => match δ2.s[i]? with | some (.ow x') => Dd.nx { δ2 with s := δ2.s.set j (.im y) } | _ => False) Dd.ex) Dd.ex
theorem lkx_any {g : Gh} {σ : L2.St} {EX : EXk} : LkX K W g σ EX → LkX K W g σ EX := id
/-- three local names -/
def sPar3 (i j l : Nat) (a b c : DM) : DS := fun δ Dd => a δ (fun x δ1 => b δ1 (fun y δ2 => c δ2 (fun z δ3 => Dd.nx { δ3 with s := ((δ3.s.set i (.im x)).set j (.im y)).set l (.im z) }) Dd.ex) Dd.ex) Dd.ex
theorem ds_par3 (i j l : Nat) {x y z : Str} {px py pz pt : Pos} {kt k2 pt2} (hN : X.N.Nodup) (ha : DE X W a ta φa) (hb : DE X W b tb φb) (hc' : DE X W c tc φc) (hw : swappedStores [.Tuple [.Name x px, .Name y py, .Name z pz] kt pt] (.Tuple [a, b, c] k2 pt2) X.env = pure (some [x, y, z]))
    (hi : X.N[i]? = some x := by rfl) (hj : X.N[j]? = some y := by rfl) (hl : X.N[l]? = some z := by rfl) (hij : i ≠ j := by decide) (hil : i ≠ l := by decide) (hjl : j ≠ l := by decide)
    (hx : X.env.scope.names.lookup x = some .local := by rfl) (hy : X.env.scope.names.lookup y = some .local := by rfl) (hz : X.env.scope.names.lookup z = some .local := by rfl) (hc : X.calm = true := by rfl)
    (h1 : starEach [a, b, c] X.env = (false, eval a X.env) :: starEach [b, c] X.env := by rfl) (h2 : starEach [b, c] X.env = (false, eval b X.env) :: starEach [c] X.env := by rfl) (h3 : starEach [c] X.env = (false, eval c X.env) :: starEach [] X.env := by rfl)
    (hs : swapsWithSole [.Tuple [.Name x px, .Name y py, .Name z pz] kt pt] (.Tuple [a, b, c] k2 pt2) pos.line X.env = pure false := by rfl) :
    DSt X W (.Assign [.Tuple [.Name x px, .Name y py, .Name z pz] kt pt] (.Tuple [a, b, c] k2 pt2) pos) (tPar3 i j l (tCons ta (tCons tb (tCons tc tNil)))) (sPar3 i j l φa φb φc) := by
  refine ⟨ps_par3 hc hN hi hj hl hij hil hjl hx hy hz (pa_cons ha.pe (pa_cons hb.pe (pa_cons hc'.pe pa_nil h3) h2) h1) hw hs, fun g σ δ A H D Dd R q L => ha.lk g σ δ A H _ _ _ R q (fun v d δ1 A1 H1 R1 s1 d1 q1 => ?_) (L.ex σ)⟩
  refine hb.lk g σ δ1 A1 H1 _ _ _ R1 q1 (fun w e δ2 A2 H2 R2 s2 d2 q2 => ?_) (L.ex σ)
  refine hc'.lk g σ δ2 A2 H2 _ _ _ R2 q2 (fun u f δ3 A3 H3 R3 s3 d3 q3 => ?_) (L.ex σ)
  exact ⟨v, w, u, rfl, L.nx _ _ A3 H3 (((R3.set (d1.same (s2.trans s3))).set (d2.same s3)).set d3) ((s1.trans s2).trans s3) q3⟩
/-- a, b = [], x: the list first, then what does not know of it -/
def sParL (i j : Nat) (b : DM) : DS := fun δ Dd => b δ (fun y δ2 => Dd.nx { δ2 with s := (δ2.s.set i (.ow [])).set j (.im y) }) Dd.ex
theorem ds_parL (i j : Nat) {x y : Str} {px py pt pl : Pos} {kt k2 pt2} (hN : X.N.Nodup) (hb : DE X W b tb φb) (hw : swappedStores [.Tuple [.Name x px, .Name y py] kt pt] (.Tuple [.List [] pl, b] k2 pt2) X.env = pure (some [x, y]))
    (hi : X.N[i]? = some x := by rfl) (hj : X.N[j]? = some y := by rfl) (hij : i ≠ j := by decide) (hx : X.env.scope.names.lookup x = some .local := by rfl) (hy : X.env.scope.names.lookup y = some .local := by rfl) (hc : X.calm = true := by rfl)
    (h1 : starEach [.List [] pl, b] X.env = (false, eval (.List [] pl) X.env) :: starEach [b] X.env := by rfl) (h2 : starEach [b] X.env = (false, eval b X.env) :: starEach [] X.env := by rfl)
    (hs : swapsWithSole [.Tuple [.Name x px, .Name y py] kt pt] (.Tuple [.List [] pl, b] k2 pt2) pos.line X.env = pure false := by rfl) :
    DSt X W (.Assign [.Tuple [.Name x px, .Name y py] kt pt] (.Tuple [.List [] pl, b] k2 pt2) pos) (tPar i j (tCons (tLst tNil) (tCons tb tNil))) (sParL i j φb) := by
  refine ⟨ps_par hc hN hi hj hij hx hy (pa_cons (pe_lst pa_nil) (pa_cons hb.pe pa_nil h2) h1) hw hs, fun g σ δ A H D Dd R q L => ⟨Nat.zero_le _, fun r hr => ?_⟩⟩
  have R1 := R.lay (o := .lst []) hr
  have F1 : Fre X.K g σ δ A (upd H r (.lst [])) r [] [] := R.fresh hr .nil
  refine hb.lk (g.re σ δ A (upd H r (.lst []))) σ δ A _ _ Dd.ex _ R1.base q (fun w e δ2 A2 H2 R2 s2 d2 q2 => ?_) (fun er δ' cls dd A' H' R' x q' => L.ex σ er δ' cls dd A' H' (R1.unbase R') x q')
  have F2 := Fre.stay R1 F1 R2
  have R3 := R1.unbase R2
  exact ⟨_, w, rfl, L.nx _ _ A2 H2 ((R3.setOw F2).set d2) s2 q2⟩

/-- a comparison as a test -/
theorem lk_test (h : LkE K W te φ) : LkT K W (L2.tTest te) (dB φ) := fun g σ δ A H P EX Q R q hQ hX => h g σ δ A H _ EX _ R q (fun x d δ1 A1 H1 R1 s1 d1 h1 => by
  obtain ⟨c, rfl, h1⟩ := asB_of h1
  cases d1
  exact ⟨c, rfl, hQ c δ1 A1 H1 R1 s1 h1⟩) hX
theorem dt_cmp {op : CmpOp} {r : R2} {o : O2} (ho : OpR X (compareOp op) r) (ol : OLk X.K r o) (ha : DE X W a ta φa) (hb : DE X W b tb φb) (hm : behindInMarks op b = false := by first | exact nobehind _ (by decide) (by decide) | rfl) :
    DTe X W (.Compare a [op] [b] pos) (L2.tTest (tOp r ta tb)) (dB (mOp o φa φb)) := ⟨pt_cmpR ho ha.pe hb.pe hm, lk_test (lk_op ol ha.lk hb.lk)⟩
theorem dt_chain {op op' : CmpOp} {r r' : R2} {o o' : O2} (ho : OpR X (compareOp op) r) (ol : OLk X.K r o) (ho' : OpR X (compareOp op') r') (ol' : OLk X.K r' o') (ha : DE X W a ta φa) (hb : DE X W b tb φb) (hc : DE X W c tc φc)
    (hm : lastMarks [op, op'] [b, c] = false := by with_unfolding_all rfl) : DTe X W (.Compare a [op, op'] [b, c] pos) (L2.tTest (tChain r r' ta tb tc)) (dB (mChain o o' φa φb φc)) :=
  ⟨pt_chain ho ho' ha.pe hb.pe hc.pe hm, lk_test (de_chain (pos := pos) ho ol ho' ol' ha hb hc hm).lk⟩

/-! ### loops -/
def dFor (g : DG) (f : DS) : List D → Dl → Dn → Prop
  | [], δ, Dd => Dd.nx δ
  | d :: ds, δ, Dd => g d δ fun δ1 => f δ1 { Dd with nx := fun δ2 => dFor g f ds δ2 Dd, ct := fun δ2 => dFor g f ds δ2 Dd, bk := Dd.nx }
def sFor (ψ : DIt) (g : DG) (f : DS) : DS := fun δ Dd => ψ δ (fun ds δ1 => dFor g f ds δ1 Dd) Dd.ex
theorem ds_for (hi : DI X W tg iter wi ψ) (hg : DGt X tg g tgs dg) (hb : DSs X W body t1 f1) (hp : PassesOwn (model X.prog X.w) X.A X.env X.xe) (hc : X.calm = true := by rfl) (hf : ∀ x, foldedSetIterable iter X.env x = pure x := by intro _; rfl) :
    DSt X W (.For tg iter body [] pos) (tFor wi g t1) (sFor ψ dg f1) := by
  refine ⟨ps_for hp hc hi.pi hg.pg hb.ps hf, fun gh σ δ A H D Dd R q L => hi.lk gh σ δ A H _ _ _ R q (fun J ds δ1 A1 H1 R1 s1 it q1 => ?_) (L.ex σ)⟩
  refine ⟨fun i m σc Hc => m = ds.length - i ∧ i ≤ ds.length ∧ ∃ Ac δc, Rep X.K gh σc δc Ac Hc ∧ Same A1 Ac ∧ dFor dg f1 (ds.drop i) δc Dd, ⟨ds.length, by simp, Nat.zero_le _, A1, δ1, R1, Same.refl _, q1⟩, ?_⟩
  rintro i m σc Hc ⟨rfl, hi', Ac, δc, Rc, sc, hc'⟩
  obtain ⟨stp, go⟩ := it _ _ _ _ _ Rc sc
  by_cases hlt : i < ds.length
  · obtain ⟨d, hd⟩ : ∃ d, ds[i]? = some d := ⟨ds[i], List.getElem?_eq_getElem hlt⟩
    have hdrop : ds.drop i = d :: ds.drop (i + 1) := by
      rw [List.drop_eq_getElem_cons hlt]
      rw [List.getElem?_eq_getElem hlt] at hd
      rw [Option.some.inj hd]
    rw [hdrop] at hc'
    obtain ⟨go1, go2⟩ := go i d hd
    refine .inr ⟨go1, fun σ' H' => ∃ Ac δc, Rep X.K gh σ' δc Ac H' ∧ Same A1 Ac ∧ dFor dg f1 (ds.drop (i + 1)) δc Dd, fun σ' H' p' => ⟨ds.length - (i + 1), by omega, rfl, hlt, p'⟩, fun x Hy y => ?_⟩
    obtain ⟨Ay, Ry, sy, dy, _⟩ := go2 x Hy y
    refine hg.lk gh σc δc Ay Hy x d _ _ Ry dy hc' fun σ2 δ2 R2 _ q2 => ?_
    have sA : Same A1 Ay := sc.trans sy
    refine hb.lk gh σ2 δ2 Ay Hy _ _ R2 q2 ⟨fun σ' δ' A' H' R' z q' => ⟨A', δ', R', sA.trans z, q'⟩, fun v d' σ' δ' A' H' R' z => L.rt v d' σ' δ' A' H' R' ((s1.trans sA).trans z), fun σ' δ' A' H' R' z => L.nx σ' δ' A' H' R' ((s1.trans sA).trans z),
      fun σ' δ' A' H' R' z q' => ⟨A', δ', R', sA.trans z, q'⟩, L.ex⟩
  · have e : i = ds.length := by omega
    subst e
    rw [List.drop_length] at hc'
    exact .inl ⟨stp, L.nx σc δc Ac Hc Rc (s1.trans sc) hc'⟩
def dWhile (t : DT) (f : DS) : Nat → Dl → Dn → Prop
  | 0, _, _ => False
  | n + 1, δ, Dd => t δ (fun k δ1 => if k = true then f δ1 { Dd with nx := fun δ2 => dWhile t f n δ2 Dd, ct := fun δ2 => dWhile t f n δ2 Dd, bk := Dd.nx } else Dd.nx δ1) Dd.ex
def sWhile (t : DT) (f : DS) : DS := fun δ Dd => ∃ n, dWhile t f n δ Dd
theorem ds_while (ht : DTe X W c tt τ) (hb : DSs X W body t1 f1) (hp : PassesOwn (model X.prog X.w) X.A X.env X.xe) : DSt X W (.While c body [] pos) (tWhile tt t1) (sWhile τ f1) := by
  refine ⟨ps_while hp ht.pt hb.ps, fun gh σ δ A H D Dd R q L => ?_⟩
  obtain ⟨n, q⟩ := q
  refine ⟨fun m σc Hc => ∃ Ac δc, Rep X.K gh σc δc Ac Hc ∧ Same A Ac ∧ dWhile τ f1 m δc Dd, ⟨n, A, δ, R, Same.refl _, q⟩, ?_⟩
  rintro m σc Hc ⟨Ac, δc, Rc, sc, hc'⟩
  cases m with
  | zero => exact hc'.elim
  | succ m =>
    refine ht.lk gh σc δc Ac Hc _ _ _ Rc hc' (fun k δ1 A1 H1 R1 s1 q1 => ?_) (L.ex σc)
    cases k with
    | false => exact L.nx σc δ1 A1 H1 R1 (sc.trans s1) q1
    | true =>
      refine ⟨fun σ' H' => ∃ Ac δc, Rep X.K gh σ' δc Ac H' ∧ Same A Ac ∧ dWhile τ f1 m δc Dd, fun σ' H' p' => ⟨m, Nat.lt_succ_self _, p'⟩, ?_⟩
      have sA := sc.trans s1
      exact hb.lk gh σc δ1 A1 H1 _ _ R1 q1 ⟨fun σ' δ' A' H' R' z q' => ⟨A', δ', R', sA.trans z, q'⟩, fun v d' σ' δ' A' H' R' z => L.rt v d' σ' δ' A' H' R' (sA.trans z), fun σ' δ' A' H' R' z => L.nx σ' δ' A' H' R' (sA.trans z),
        fun σ' δ' A' H' R' z q' => ⟨A', δ', R', sA.trans z, q'⟩, L.ex⟩

/-! ### bodies -/
/-- what a def's body is, in a word: its slots' names, its promise -/
def bodyEnds (P : D → Mh → Prop) (E : Er → Mh → Prop) : Dn := ⟨fun δ => P .non δ.m, fun d δ => P d δ.m, fun _ => False, fun _ => False, fun er δ => E er δ.m⟩
end

section
variable {P : Program} {w : World} {K : PySem.W.Frag} {mg : Str → Option Value} {base : Heap}
theorem body_run {f : Fsp} {N : List Str} {vs : List V} {H : Hp} {Q : VK} {E : XK} {t : TS} {φ : DS} (hs : spD K f vs H Q E) (lk : LkS K (fun cls d _ H' => E cls d H') t φ)
    (hf : ∀ ds m P EX, f ds m P EX → φ ⟨startD N ds, m⟩ (bodyEnds P EX)) : t { nx := fun _ H' => Q .non H', rt := Q } (L2.start N vs) H := by
  obtain ⟨A, m, ds, Pd, EX, h1, h2, h3, h4, h5, h6, h7⟩ := hs
  refine lk (Gh.of A H m) _ ⟨startD N ds, m⟩ A H _ (bodyEnds Pd EX) (rep_start h1 h2 h3 h4) (hf ds m Pd EX h5) ?_
  exact ⟨fun σ' δ' A' H' R' _ q => h6 .non .non A' H' δ'.m R'.out .non q, fun v d σ' δ' A' H' R' _ dv q => h6 v d A' H' δ'.m R'.out dv q, fun _ _ _ _ _ _ q => q.elim, fun _ _ _ _ _ _ q => q.elim,
    fun σ' er δ' cls dd A' H' R' x q => h7 er cls dd A' H' δ'.m R'.out x q⟩
theorem spD_len {f : Fsp} {n : Nat} (h : ∀ ds m P EX, f ds m P EX → ds.length = n) : ∀ vs H Q E, spD K f vs H Q E → vs.length = n := fun vs H Q E ⟨_, _, ds, _, _, _, _, _, h4, h5, _⟩ => by
  rw [h4.length]
  exact h ds _ _ _ h5
/-- THE RULE for a def -/
theorem okD {x qual : Str} {st : Stmt} {fa : Addr} {fd : FuncData} {N ps : List Str} {k : Nat} {f : Fsp} (F : L2.Fun K x qual st fa fd) (S : FnScope N ps (defScope st)) (len : ∀ ds m P EX, f ds m P EX → ds.length = ps.length)
    (hb : ∀ (cdv : Value) (A : Around) (outer : List Env) (s : Shared) (H : Hp) (E : XK),
      Room k (cxOf (L2.CX P w) P w K mg base N qual (defScope st) fa cdv A outer s H E).A → (cxOf (L2.CX P w) P w K mg base N qual (defScope st) fa cdv A outer s H E).A.guards = some [] →
      Takes (cxOf (L2.CX P w) P w K mg base N qual (defScope st) fa cdv A outer s H E) (fun cls d _ H' => E cls d H') →
      PassesOwn (model P w) (cxOf (L2.CX P w) P w K mg base N qual (defScope st) fa cdv A outer s H E).A (cxOf (L2.CX P w) P w K mg base N qual (defScope st) fa cdv A outer s H E).env (cxOf (L2.CX P w) P w K mg base N qual (defScope st) fa cdv A outer s H E).xe →
      ∃ t φ, DSs (cxOf (L2.CX P w) P w K mg base N qual (defScope st) fa cdv A outer s H E) (fun cls d _ H' => E cls d H') (defBody st) t φ ∧ ∀ ds m Pd EX, f ds m Pd EX → φ ⟨startD N ds, m⟩ (bodyEnds Pd EX)) :
    FnQ P w K mg base (L2.CX P w) (k + 1) fa fd ps (spD K f) := by
  obtain ⟨oc, od, kV, doc, pm, an, cdv, ct, osl, rfl, lk, hcd⟩ := F.ex
  refine fnq_of lk hcd S (spD_len len) fun A outer s H vs Q E hr hg hsp => ?_
  obtain ⟨t, φ, hd, hf⟩ := hb cdv A outer s H E hr hg (takes_of rfl rfl rfl rfl) (passes_of rfl)
  exact ⟨t, hd.ps, body_run hsp hd.lk hf⟩
theorem okD0 {x qual : Str} {st : Stmt} {fa : Addr} {fd : FuncData} {N ps : List Str} {k : Nat} {f : Fsp} (F : L2.Fun K x qual st fa fd) (S : FnScope N ps (defScope st)) (len : ∀ ds m P EX, f ds m P EX → ds.length = ps.length)
    (hb : ∀ (cdv : Value) (A : Around) (outer : List Env) (s : Shared) (H : Hp) (E : XK),
      Room k (cxOf (L2.CX P w) P w K mg base N qual (defScope st) fa cdv A outer s H E).A →
      Takes (cxOf (L2.CX P w) P w K mg base N qual (defScope st) fa cdv A outer s H E) (fun cls d _ H' => E cls d H') →
      PassesOwn (model P w) (cxOf (L2.CX P w) P w K mg base N qual (defScope st) fa cdv A outer s H E).A (cxOf (L2.CX P w) P w K mg base N qual (defScope st) fa cdv A outer s H E).env (cxOf (L2.CX P w) P w K mg base N qual (defScope st) fa cdv A outer s H E).xe →
      ∃ t φ, DSs (cxOf (L2.CX P w) P w K mg base N qual (defScope st) fa cdv A outer s H E) (fun cls d _ H' => E cls d H') (defBody st) t φ ∧ ∀ ds m Pd EX, f ds m Pd EX → φ ⟨startD N ds, m⟩ (bodyEnds Pd EX)) :
    FnOk P w K mg base (L2.CX P w) (k + 1) fa fd ps (spD K f) := by
  obtain ⟨oc, od, kV, doc, pm, an, cdv, ct, osl, rfl, lk, hcd⟩ := F.ex
  refine fn_of lk hcd S (spD_len len) fun A outer s H vs Q E hr hsp => ?_
  obtain ⟨t, φ, hd, hf⟩ := hb cdv A outer s H E hr (takes_of rfl rfl rfl rfl) (passes_of rfl)
  exact ⟨t, hd.ps, body_run hsp hd.lk hf⟩
/-- the module's def x, all its parameters given -/
theorem Ok.mk' {x qual : Str} {st : Stmt} {fa : Addr} {fd : FuncData} {ps : List Str} {k : Nat} {f : Fsp} (F : L2.Fun K x qual st fa fd) (hm : mg x = some (.ref fa)) (hb : L2.Binds K fd ps []) (h : FnQ P w K mg base (L2.CX P w) k fa fd ps (spD K f)) : Ok P w K mg base k x [] f :=
  ⟨fa, fd, ps, [], h, hm, F.kp, hb, .nil⟩
end
end RL
set_option Elab.async false
set_option linter.all false
set_option maxRecDepth 100000
set_option maxHeartbeats 4000000
/-! R9: isinstance; fields; what changes: lists by place, append, fields stored; new objects; stars. -/
namespace RL
open PySem PySem.Spec PyProof.Rows L2 RZ

section
variable {K : PySem.W.Frag} {A H : Hp}
/-! ### isinstance -/
def D.bty : D → Option String
  | .non => some "NoneType"
  | .bl _ => some "bool"
  | .int _ => some "int"
  | .str _ => some "str"
  | .lst _ => some "list"
  | .rol _ => some "list"
  | .tup _ => some "tuple"
  | _ => none
theorem tyX_of {v : V} {d : D} {T : String} (e : Same A H) (h : Dr K A v d) (k : d.bty = some T) : TyX K H v (.type T) := by
  cases h <;> cases k
  · exact .base .non
  · exact .base (.bl _)
  · exact .base (.int _)
  · exact .base (.str _)
  · rename_i h1 h2; exact .base (.lst (e _ _ h1))
  · rename_i h1 h2
    rcases h1 with (h1 | ⟨o, h1⟩) | ⟨o, its, n, h1, h2, _⟩
    · exact .base (.lst (e _ _ h1))
    · exact .base (.frz (e _ _ h1))
    · exact .kList h1 h2
  · rename_i h1 h2
    rcases h1 with (h1 | ⟨o, h1⟩) | ⟨o, its, n, h1, h2, _⟩
    · exact .base (.tup (e _ _ h1))
    · exact .fTuple (e _ _ h1)
    · exact .kTuple h1 h2
/-- what the class C must say, so that isinstance asks its instances rightly -/
structure ClsI (K : PySem.W.Frag) (C : Addr) : Prop where
  cl : Cls K C
  ha : PySem.W.findIn K (.ref C) "__class__" = some (some (.builtin "object.__class__"))
  hn : PySem.W.specialIn K (.builtin "object.__class__") "__get__" = some (some (.builtin "getset_descriptor.__get__"))
  ht : PySem.W.takesIn K (.builtin "object.__class__") = some true
  hm : PySem.W.mroIn K C (.type "object") = some true
/-- isinstance(d, u) is b -/
def IsiF (K : PySem.W.Frag) (u : Value) (d : D) (b : Bool) : Prop := (∃ T, d.bty = some T ∧ PySem.W.kitOne K (.type T) u = some b) ∨ ∃ C fs, d = .obj C fs ∧ ClsI K C ∧ PySem.W.kitOne K (.ref C) u = some b
theorem isiF_ty {v : V} {d : D} {u : Value} {b : Bool} (e : Same A H) (h : Dr K A v d) (k : IsiF K u d b) : ∃ t, TyX K H v t ∧ PySem.W.kitOne K t u = some b := by
  rcases k with ⟨T, k1, k2⟩ | ⟨C, fs, rfl, k1, k2⟩
  · exact ⟨_, tyX_of e h k1, k2⟩
  · cases h with
    | obj h1 h2 => exact ⟨_, .base (.ins (e _ _ h1) k1.cl k1.ha k1.hn k1.ht k1.hm), k2⟩
end
def isInt : D → Option Bool
  | .int _ => some true
  | .bl _ => some true
  | .non => some false
  | .str _ => some false
  | .lst _ => some false
  | .rol _ => some false
  | .tup _ => some false
  | _ => none
def isBool : D → Option Bool
  | .int _ => some false
  | .bl _ => some true
  | .non => some false
  | .str _ => some false
  | .lst _ => some false
  | .rol _ => some false
  | .tup _ => some false
  | _ => none
def isStr : D → Option Bool
  | .int _ => some false
  | .bl _ => some false
  | .non => some false
  | .str _ => some true
  | .lst _ => some false
  | .rol _ => some false
  | .tup _ => some false
  | _ => none
def isSeq : D → Option Bool
  | .int _ => some false
  | .bl _ => some false
  | .non => some false
  | .str _ => some false
  | .lst _ => some true
  | .rol _ => some true
  | .tup _ => some true
  | _ => none
theorem isInt_ok {K : PySem.W.Frag} {d : D} {b : Bool} (h : isInt d = some b) : IsiF K (.type "int") d b := by
  cases d <;> cases h <;> exact .inl ⟨_, rfl, kit_ty (by decide +kernel)⟩
theorem isBool_ok {K : PySem.W.Frag} {d : D} {b : Bool} (h : isBool d = some b) : IsiF K (.type "bool") d b := by
  cases d <;> cases h <;> exact .inl ⟨_, rfl, kit_ty (by decide +kernel)⟩
theorem isStr_ok {K : PySem.W.Frag} {d : D} {b : Bool} (h : isStr d = some b) : IsiF K (.type "str") d b := by
  cases d <;> cases h <;> exact .inl ⟨_, rfl, kit_ty (by decide +kernel)⟩
theorem isSeq_ok {K : PySem.W.Frag} {d : D} {b : Bool} (h : isSeq d = some b) : ∃ T, d.bty = some T ∧ PySem.W.kitAny K (.type T) [.type "list", .type "tuple"] = some b := by
  have go : ∀ {T : String} {b1 b2 : Bool}, kitB T "list" = some b1 → kitB T "tuple" = some b2 → (b1 || b2) = b → PySem.W.kitAny K (.type T) [.type "list", .type "tuple"] = some b := fun {T b1 b2} h1 h2 h3 => by
    unfold PySem.W.kitAny
    rw [kit_ty h1]
    cases b1 with
    | true => simp only [Bool.true_or] at h3; rw [← h3]
    | false =>
      simp only [Bool.false_or] at h3
      subst h3
      unfold PySem.W.kitAny
      rw [kit_ty h2]
      cases b2 <;> rfl
  cases d <;> cases h
  · exact ⟨_, rfl, go (b1 := false) (b2 := false) (by decide +kernel) (by decide +kernel) rfl⟩
  · exact ⟨_, rfl, go (b1 := false) (b2 := false) (by decide +kernel) (by decide +kernel) rfl⟩
  · exact ⟨_, rfl, go (b1 := false) (b2 := false) (by decide +kernel) (by decide +kernel) rfl⟩
  · exact ⟨_, rfl, go (b1 := false) (b2 := false) (by decide +kernel) (by decide +kernel) rfl⟩
  · exact ⟨_, rfl, go (b1 := true) (b2 := false) (by decide +kernel) (by decide +kernel) rfl⟩
  · exact ⟨_, rfl, go (b1 := false) (b2 := true) (by decide +kernel) (by decide +kernel) rfl⟩
  · exact ⟨_, rfl, go (b1 := true) (b2 := false) (by decide +kernel) (by decide +kernel) rfl⟩
/-- an own class, asked of anything -/
structure OwnC (K : PySem.W.Frag) (C : Addr) : Prop where
  ci : ClsI K C
  no : ∀ T ∈ (["NoneType", "bool", "int", "str", "list", "tuple"] : List String), PySem.W.kitOne K (.type T) (.ref C) = some false
def isOwn (C : Addr) : D → Option Bool
  | .int _ => some false
  | .bl _ => some false
  | .non => some false
  | .str _ => some false
  | .lst _ => some false
  | .rol _ => some false
  | .tup _ => some false
  | .obj C' _ => if C' = C then some true else none
  | _ => none
theorem isOwn_ok {K : PySem.W.Frag} {C : Addr} (o : OwnC K C) {d : D} {b : Bool} (h : isOwn C d = some b) : IsiF K (.ref C) d b := by
  have no : ∀ {T : String}, T ∈ (["NoneType", "bool", "int", "str", "list", "tuple"] : List String) → some false = some b → d.bty = some T → IsiF K (.ref C) d b := fun {T} m e k => by
    cases e
    exact .inl ⟨T, k, o.no T m⟩
  cases d with
  | obj C' fs =>
    have h' : (if C' = C then some true else none) = some b := h
    by_cases e : C' = C
    · rw [if_pos e] at h'
      cases h'
      subst e
      refine .inr ⟨_, fs, rfl, o.ci, ?_⟩
      unfold PySem.W.kitOne
      rw [if_pos (by simp)]
    · rw [if_neg e] at h'
      cases h'
  | non => exact no (by simp) h rfl
  | bl _ => exact no (by simp) h rfl
  | int _ => exact no (by simp) h rfl
  | str _ => exact no (by simp) h rfl
  | lst _ => exact no (by simp) h rfl
  | rol _ => exact no (by simp) h rfl
  | tup _ => exact no (by simp) h rfl
  | exc _ _ => cases h
  | ptr _ => cases h

section
variable {X : Cx} {W : WX} {K : PySem.W.Frag}
variable {e a b c o tg iter elt : Expr} {es ifs : List Expr} {st : Stmt} {sts body els : List Stmt} {ta tb tc to te : TE} {t : TA} {φ φa φb φc φe : DM} {φs : DA} {pos p apos p2 pos' : Pos}
def mIsi (f : D → Option Bool) (a : DM) : DM := fun δ P EX => a δ (fun x δ1 => asO (f x) fun b => P (.bl b) δ1) EX
theorem lk_isi {f : D → Option Bool} {v : V} {u : Value} (hf : ∀ d b, f d = some b → IsiF K u d b) (hc : ClsV v u) (ha : LkE K W ta φa) : LkE K W (tCB (rIsi K) (tCons ta (tCons (tC v) tNil))) (mIsi f φa) := fun g σ δ A H P EX Q R h hQ hX =>
  ha g σ δ A H _ EX _ R h (fun x d δ1 A1 H1 R1 s1 d1 h1 => by
    obtain ⟨b, hb, h1⟩ := asO_of h1
    obtain ⟨t, ty, k⟩ := isiF_ty R1.sub d1 (hf d b hb)
    exact ⟨x, v, t, u, b, rfl, hc, ty, k, hQ _ _ δ1 A1 H1 R1 s1 (.bl b) h1⟩) hX
/-- isinstance(e, T), T a built-in class -/
theorem de_isiT {T : Str} {n : String} {f : D → Option Bool} (hf : ∀ d b, f d = some b → IsiF X.K (.type n) d b) (hm : X.mg "isinstance" = none) (hmT : X.mg T = none) (ha : DE X W a ta φa) (hvT : bootBuiltins T = some (.type n)) (hg : Gl X "isinstance" := by rfl) (hgT : Gl X T := by rfl)
    (hnT : T ≠ "__name__" := by decide) (hdT : (T == ("__debug__" : Str)) = false := by decide)
    (h1 : starEach [a, .Name T p2] X.env = (false, eval a X.env) :: starEach [.Name T p2] X.env := by rfl) (h2 : starEach [.Name T p2] X.env = (false, eval (.Name T p2) X.env) :: starEach [] X.env := by rfl) (hpl : (backTo pos (starEach [.Name T p2] X.env)).any (·.1) = false := by rfl) :
    DE X W (.Call (.Name "isinstance" p) [a, .Name T p2] [] pos) (tCB (rIsi X.K) (tCons ta (tCons (tC (.ty n)) tNil))) (mIsi f φa) :=
  ⟨pe_callB call_isi hg hm (by decide +kernel) (pa_cons ha.pe (pa_cons (pe_bltn hgT hmT hvT rfl hnT hdT) pa_nil h2) h1) (by decide) (by decide) h1 hpl, lk_isi hf (.ty n) ha.lk⟩
/-- isinstance(e, C), C an own class -/
theorem de_isiC {T : Str} {C : Addr} {f : D → Option Bool} (hf : ∀ d b, f d = some b → IsiF X.K (.ref C) d b) (hm : X.mg "isinstance" = none) (hmT : X.mg T = some (.ref C)) (ha : DE X W a ta φa) (hg : Gl X "isinstance" := by rfl) (hgT : Gl X T := by rfl) (hdT : (T == ("__debug__" : Str)) = false := by decide)
    (h1 : starEach [a, .Name T p2] X.env = (false, eval a X.env) :: starEach [.Name T p2] X.env := by rfl) (h2 : starEach [.Name T p2] X.env = (false, eval (.Name T p2) X.env) :: starEach [] X.env := by rfl) (hpl : (backTo pos (starEach [.Name T p2] X.env)).any (·.1) = false := by rfl) :
    DE X W (.Call (.Name "isinstance" p) [a, .Name T p2] [] pos) (tCB (rIsi X.K) (tCons ta (tCons (tC (.ref C)) tNil))) (mIsi f φa) :=
  ⟨pe_callB call_isi hg hm (by decide +kernel) (pa_cons ha.pe (pa_cons (pe_glob hgT hmT rfl hdT) pa_nil h2) h1) (by decide) (by decide) h1 hpl, lk_isi hf (.own C) ha.lk⟩
/-- isinstance(e, (list, tuple)) -/
theorem de_isiSeq {k : Nat} {q1 q2 q3 : Pos} (hm : X.mg "isinstance" = none) (hm1 : X.mg "list" = none) (hm2 : X.mg "tuple" = none) (ha : DE X W a ta φa) (hg : Gl X "isinstance" := by rfl) (hg1 : Gl X "list" := by rfl) (hg2 : Gl X "tuple" := by rfl)
    (h1 : starEach [a, .Tuple [.Name "list" q1, .Name "tuple" q2] k q3] X.env = (false, eval a X.env) :: starEach [.Tuple [.Name "list" q1, .Name "tuple" q2] k q3] X.env := by rfl)
    (h2 : starEach [.Tuple [.Name "list" q1, .Name "tuple" q2] k q3] X.env = (false, eval (.Tuple [.Name "list" q1, .Name "tuple" q2] k q3) X.env) :: starEach [] X.env := by rfl)
    (h3 : starEach [.Name "list" q1, .Name "tuple" q2] X.env = (false, eval (.Name "list" q1) X.env) :: starEach [.Name "tuple" q2] X.env := by rfl) (h4 : starEach [.Name "tuple" q2] X.env = (false, eval (.Name "tuple" q2) X.env) :: starEach [] X.env := by rfl)
    (hpl : (backTo pos (starEach [.Tuple [.Name "list" q1, .Name "tuple" q2] k q3] X.env)).any (·.1) = false := by rfl) :
    DE X W (.Call (.Name "isinstance" p) [a, .Tuple [.Name "list" q1, .Name "tuple" q2] k q3] [] pos) (tCB (rIsiT X.K) (tCons ta (tCons (tTup (tCons (tC (.ty "list")) (tCons (tC (.ty "tuple")) tNil))) tNil))) (mIsi RL.isSeq φa) := by
  refine ⟨pe_callB call_isiT hg hm (by decide +kernel) (pa_cons ha.pe (pa_cons (pe_tup (pa_cons (pe_bltn hg1 hm1 (by decide +kernel) rfl (by decide) (by decide)) (pa_cons (pe_bltn hg2 hm2 (by decide +kernel) rfl (by decide) (by decide)) pa_nil h4) h3)) pa_nil h2) h1) (by decide) (by decide) h1 hpl,
    fun g σ δ A H P EX Q R h hQ hX => ha.lk g σ δ A H _ EX _ R h (fun x d δ1 A1 H1 R1 s1 d1 h1 => ⟨by show 2 ≤ sizeLine; decide, fun q hq => ?_⟩) hX⟩
  obtain ⟨b, hb, h1⟩ := asO_of h1
  obtain ⟨T, k1, k2⟩ := isSeq_ok (K := X.K) hb
  have sq := upd_put (o := .tup [.ty "list", .ty "tuple"]) (R1.free hq).1
  refine ⟨x, q, [.ty "list", .ty "tuple"], .type T, [.type "list", .type "tuple"], b, rfl, upd_same, .cons (.ty _) (.cons (.ty _) .nil), ?_, k2, hQ _ _ δ1 _ _ (R1.put hq) (s1.trans sq) (.bl b) h1⟩
  exact tyX_of (R1.put hq).sub (d1.same sq) k1

/-! ### fields -/
def FldOk (K : PySem.W.Frag) (f : Str) (C : Addr) : Prop := Cls K C ∧ NoAttr K C f
def mFld (ok : Addr → Prop) (f : Str) (a : DM) : DM := fun δ P EX => a δ (fun x δ1 => match x with
  | .obj C fs => ok C ∧ asO (fs.lookup f) fun d => P d δ1
  | .ptr q => (match δ1.m q with
    | some (.ob C fs) => ok C ∧ asO (fs.lookup f) fun d => P d δ1
    | _ => False)
  | _ => False) EX
theorem de_fld {f : Str} (ha : DE X W a ta φa) (hb : attributeBase a f X.env (eval a X.env) = eval a X.env := by rfl) : DE X W (.Attribute a f pos) (tFld X.K ta f) (mFld (FldOk X.K f) f φa) := by
  refine ⟨pe_fld ha.pe hb, fun g σ δ A H P EX Q R h hQ hX => ha.lk g σ δ A H _ EX _ R h (fun x d δ1 A1 H1 R1 s1 d1 h1 => ?_) hX⟩
  cases d1 <;> try exact h1.elim
  · rename_i q C dx fs es k1 k2
    obtain ⟨⟨o1, o2⟩, h1⟩ := h1
    obtain ⟨d, hd, h1⟩ := asO_of h1
    obtain ⟨v, l, dv⟩ := k2.lookup hd
    exact ⟨q, C, dx, fs, v, rfl, R1.sub _ _ k1, o1, o2, l, hQ _ _ δ1 A1 H1 R1 s1 dv h1⟩
  · rename_i q
    simp only at h1
    split at h1
    · rename_i C fs e
      obtain ⟨⟨o1, o2⟩, h1⟩ := h1
      obtain ⟨d, hd, h1⟩ := asO_of h1
      obtain ⟨dx, fv, k1, k2, k3⟩ := R1.mr.ob q C fs e
      obtain ⟨v, l, dv⟩ := k3.lookup hd
      exact ⟨q, C, dx, fv, v, rfl, k1, o1, o2, l, hQ _ _ δ1 A1 H1 R1 s1 dv h1⟩
    · exact h1.elim
def putD (f : Str) (d : D) : List (Str × D) → List (Str × D)
  | [] => [(f, d)]
  | (g, x) :: r => if g = f then (g, d) :: r else (g, x) :: putD f d r
theorem DrFs.put {A : Hp} {f : Str} {v : V} {d : D} (h : Dr K A v d) : ∀ {fs : List (Str × V)} {es : List (Str × D)}, DrFs K A fs es → DrFs K A (putF f v fs) (putD f d es)
  | _, _, .nil => .cons h .nil
  | _, _, .cons (f := g) a b => by
    unfold putF putD
    by_cases e : g = f
    · rw [if_pos e, if_pos e]; exact .cons h b
    · rw [if_neg e, if_neg e]; exact .cons a (DrFs.put h b)
theorem DrFs.length {A : Hp} : ∀ {fs : List (Str × V)} {es : List (Str × D)}, DrFs K A fs es → fs.length = es.length
  | _, _, .nil => rfl
  | _, _, .cons _ b => by rw [List.length_cons, List.length_cons, DrFs.length b]
/-- a thing that may change is changed -/
theorem Rep.chg {g : Gh} {σ : L2.St} {δ : Dl} {A H : Hp} {q : Addr} {u : HO} {o : MO} (R : Rep K g σ δ A H) (hm : δ.m q ≠ none) (ho : ∀ zs, u ≠ .tbl zs) (hu : MR K A (upd H q u) (mup δ.m q o)) : Rep K g σ { δ with m := mup δ.m q o } A (upd H q u) := by
  have hq : H q ≠ none := fun z => hm (R.free z).2.2
  have aq : A q = none := by
    cases e : δ.m q with
    | none => exact absurd e hm
    | some z =>
      cases z with
      | ls l => obtain ⟨_, _, h, _⟩ := R.mr.ls q l e; exact h
      | ob C fs => obtain ⟨_, _, _, h, _⟩ := R.mr.ob q C fs e; exact h
  have nq : ∀ {b : Addr}, δ.m b = none → b ≠ q := fun {b} h z => hm (by rw [← z]; exact h)
  have isT : ∀ {b : Addr} {w : HO}, H b = some w → (∀ xs, w ≠ .lst xs) → (∀ C dx fs, w ≠ .ins C dx fs) → b ≠ q := fun {b w} e n1 n2 z => by
    subst z
    cases e' : δ.m b with
    | none => exact hm e'
    | some z =>
      cases z with
      | ls l => obtain ⟨xs, h, _⟩ := R.mr.ls b l e'; rw [e] at h; exact n1 xs (Option.some.inj h)
      | ob C fs => obtain ⟨dx, fv, h, _⟩ := R.mr.ob b C fs e'; rw [e] at h; exact n2 C dx fv (Option.some.inj h)
  refine ⟨fun b w e => ?_, R.old, R.new, fun b w f n tt e => ?_, fun b n => ?_, fun b n z => ?_, fun b n => ?_, fun r hr => ?_, R.len, R.im, fun i l e => ?_, R.dis, hu⟩
  · have hb : b ≠ q := fun z => by rw [z, aq] at e; cases e
    rw [upd_ne hb]; exact R.sub b w e
  · rw [upd_ne (nq (R.d1 b (by rw [e]; simp) n))]
    exact R.keep b w f n tt e
  · by_cases hb : b = q
    · subst hb; rw [upd_same]; simp
    · rw [upd_ne hb]; exact R.dm b n
  · show mup δ.m q o b = none
    rw [mup_ne (nq (R.d1 b n z))]
    exact R.d1 b n z
  · by_cases hb : b = q
    · subst hb
      show mup δ.m b o b ≠ none
      rw [mup_same]; simp
    · show mup δ.m q o b ≠ none
      rw [mup_ne hb]; exact R.d2 b n
  · obtain ⟨⟨ps, h1, h2, h3⟩, hA⟩ := R.tabs r hr
    refine ⟨⟨ps, by rw [upd_ne (isT h1 (fun _ z => nomatch z) (fun _ _ _ z => nomatch z))]; exact h1, h2, fun pos cv hc => ?_⟩, hA⟩
    obtain ⟨c, e1, e2⟩ := h3 pos cv hc
    refine ⟨c, e1, ?_⟩
    rw [upd_ne (isT e2 (fun zs z => ?_) fun C dx fs z => ?_)]
    · exact e2
    · have z' : HO.ext _ = HO.lst zs := z
      cases z'
    · have z' : HO.ext _ = HO.ins C dx fs := z
      cases z'
  · obtain ⟨r, xs, a1, a2, a3, a4, a5, a6⟩ := R.ow i l e
    have hr : r ≠ q := nq a5
    exact ⟨r, xs, a1, by rw [upd_ne hr]; exact a2, a3, a4, by show mup δ.m q o r = none; rw [mup_ne hr]; exact a5, a6⟩
theorem MR.setOb {A H : Hp} {m : Mh} {q C dx : Addr} {fs : List (Str × D)} {fv : List (Str × V)} (M : MR K A H m) (hA : A q = none) (d : DrFs K A fv fs) : MR K A (upd H q (.ins C dx fv)) (mup m q (.ob C fs)) := by
  refine ⟨fun r l e => ?_, fun r C' fs' e => ?_⟩
  · by_cases hr : r = q
    · subst hr; rw [mup_same] at e; cases e
    · rw [mup_ne hr] at e; rw [upd_ne hr]; exact M.ls r l e
  · by_cases hr : r = q
    · subst hr; rw [mup_same] at e; cases e; exact ⟨dx, fv, upd_same, hA, d⟩
    · rw [mup_ne hr] at e; rw [upd_ne hr]; exact M.ob r C' fs' e
theorem MR.setLs {A H : Hp} {m : Mh} {q : Addr} {l : List D} {xs : List V} (M : MR K A H m) (hA : A q = none) (d : DrAll K A xs l) : MR K A (upd H q (.lst xs)) (mup m q (.ls l)) := by
  refine ⟨fun r l e => ?_, fun r C' fs' e => ?_⟩
  · by_cases hr : r = q
    · subst hr; rw [mup_same] at e; cases e; exact ⟨xs, upd_same, hA, d⟩
    · rw [mup_ne hr] at e; rw [upd_ne hr]; exact M.ls r l e
  · by_cases hr : r = q
    · subst hr; rw [mup_same] at e; cases e
    · rw [mup_ne hr] at e; rw [upd_ne hr]; exact M.ob r C' fs' e
/-- self.f = e, self a thing that may change -/
def sFldD (ok : Addr → Prop) (f : Str) (a v : DM) : DS := fun δ Dd => v δ (fun y δ1 => a δ1 (fun x δ2 => match x with
  | .ptr q => (match δ2.m q with
    | some (.ob C fs) => ok C ∧ fs.length < 1000 ∧ Dd.nx { δ2 with m := mup δ2.m q (.ob C (putD f y fs)) }
    | _ => False)
  | _ => False) Dd.ex) Dd.ex
theorem ds_fld {f : Str} (ha : DE X W a ta φa) (hv : DE X W b tb φb) (hs : swapsWith b (some (.Attribute a f pos')) pos.line X.env = pure false := by rfl) : DSt X W (.Assign [.Attribute a f pos'] b pos) (sFld X.K ta tb f) (sFldD (FldOk X.K f) f φa φb) := by
  refine ⟨ps_fld ha.pe hv.pe hs, fun g σ δ A H D Dd R q L => hv.lk g σ δ A H _ _ _ R q (fun y e δ1 A1 H1 R1 s1 d1 q1 => ?_) (L.ex σ)⟩
  refine ha.lk g σ δ1 A1 H1 _ _ _ R1 q1 (fun x d δ2 A2 H2 R2 s2 d2 q2 => ?_) (L.ex σ)
  cases d2 <;> try exact q2.elim
  rename_i r
  simp only at q2
  split at q2
  · rename_i C fs er
    obtain ⟨⟨o1, o2⟩, hl, q2⟩ := q2
    obtain ⟨dx, fv, k1, k2, k3⟩ := R2.mr.ob r C fs er
    refine ⟨r, C, dx, fv, rfl, k1, o1, o2, by rw [k3.length]; exact hl, L.nx σ _ A2 _ (R2.chg (by rw [er]; simp) (fun _ z => nomatch z) (R2.mr.setOb k2 (k3.put (d1.same s2)))) (s1.trans s2) q2⟩
  · exact q2.elim

/-! ### lists that change -/
theorem Rep.owSet {g : Gh} {σ : L2.St} {δ : Dl} {A H : Hp} {i : Nat} {l l' : List D} {q : Addr} {xs ys : List V} (R : Rep K g σ δ A H) (e : δ.s[i]? = some (.ow l)) (hi : σ[i]? = some (some (.ref q))) (hq : H q = some (.lst xs)) (d : DrAll K A ys l') :
    Rep K g σ { δ with s := δ.s.set i (.ow l') } A (upd H q (.lst ys)) := by
  obtain ⟨r, zs, a1, a2, a3, a4, a5, a6⟩ := R.ow i l e
  rw [hi] at a1
  cases a1
  have ne : ∀ b, b ≠ q → upd H q (.lst ys) b = H b := fun b hb => upd_ne hb
  refine ⟨fun b w e' => ?_, R.old, R.new, fun b w f n tt e' => ?_, fun b n => ?_, R.d1, R.d2, fun r hr => ?_, ?_, fun j d' e' => ?_, fun j l2 e' => ?_, fun j k r l1 l2 e1 e2 b1 b2 => ?_, ⟨fun r l2 e' => ?_, fun r C fs e' => ?_⟩⟩
  · have hb : b ≠ q := fun z => by rw [z, a3] at e'; cases e'
    rw [ne b hb]; exact R.sub b w e'
  · have hb : b ≠ q := fun z => by
      subst z
      rcases a4 with a4 | a4
      · rw [a4] at e'; cases e'
      · exact f a4
    rw [ne b hb]; exact R.keep b w f n tt e'
  · by_cases hb : b = q
    · subst hb; rw [upd_same]; simp
    · rw [ne b hb]; exact R.dm b n
  · obtain ⟨⟨ps, h1, h2, h3⟩, hA⟩ := R.tabs r hr
    have ht : ∀ {b : Addr} {o : HO}, H b = some o → (∀ zs, o ≠ .lst zs) → upd H q (.lst ys) b = some o := fun {b o} e' n => by
      have hb : b ≠ q := fun z => by subst z; rw [hq] at e'; cases e'; exact n _ rfl
      rw [ne b hb]; exact e'
    refine ⟨⟨ps, ht h1 (fun _ z => nomatch z), h2, fun pos cv hc => ?_⟩, hA⟩
    obtain ⟨c, e1, e2⟩ := h3 pos cv hc
    refine ⟨c, e1, ht e2 fun zs z => ?_⟩
    have z' : HO.ext _ = HO.lst zs := z
    cases z'
  · rw [R.len]
    show δ.s.length = (δ.s.set i _).length
    rw [List.length_set]
  · rcases get_set e' with ⟨_, e2⟩ | ⟨hj, e2⟩
    · cases e2
    · exact R.im j d' e2
  · rcases get_set e' with ⟨e1, e2⟩ | ⟨hj, e2⟩
    · cases e2
      exact ⟨q, ys, by rw [e1]; exact hi, upd_same, a3, a4, a5, d⟩
    · obtain ⟨r, ws, b1, b2, b3⟩ := R.ow j l2 e2
      have hr : r ≠ q := fun z => by subst z; exact hj (R.dis j i r l2 l e2 e b1 hi)
      exact ⟨r, ws, b1, by rw [ne r hr]; exact b2, b3⟩
  · have down : ∀ {n : Nat} {l3 : List D}, (δ.s.set i (SD.ow l'))[n]? = some (.ow l3) → ∃ l4, δ.s[n]? = some (.ow l4) := fun {n l3} e' => by
      rcases get_set e' with ⟨e1, _⟩ | ⟨_, e2⟩
      · exact ⟨l, by rw [e1]; exact e⟩
      · exact ⟨l3, e2⟩
    obtain ⟨_, f1⟩ := down e1
    obtain ⟨_, f2⟩ := down e2
    exact R.dis j k r _ _ f1 f2 b1 b2
  · have hr : r ≠ q := fun z => by
      have e3 : δ.m r = some (.ls l2) := e'
      rw [z, a5] at e3; cases e3
    obtain ⟨ws, b1, b2⟩ := R.mr.ls r l2 e'
    exact ⟨ws, by rw [ne r hr]; exact b1, b2⟩
  · have hr : r ≠ q := fun z => by
      have e3 : δ.m r = some (.ob C fs) := e'
      rw [z, a5] at e3; cases e3
    obtain ⟨dx, fv, b1, b2⟩ := R.mr.ob r C fs e'
    exact ⟨dx, fv, by rw [ne r hr]; exact b1, b2⟩
/-- name.append(e), the name's slot holds a list of this frame's own -/
def sAppend (i : Nat) (a : DM) : DS := fun δ Dd => match δ.s[i]? with
  | some (.ow _) => a δ (fun d δ1 => match δ1.s[i]? with
    | some (.ow l) => l.length < sizeLine ∧ Dd.nx { δ1 with s := δ1.s.set i (.ow (l ++ [d])) }
    | _ => False) Dd.ex
  | _ => False
theorem ds_append (i : Nat) {x : Str} {px pa : Pos} (ha : DE X W e te φe) (hN : X.N[i]? = some x := by rfl) (hv : Vis X.env.scope x := by first | exact Or.inl rfl | exact Or.inr (Or.inl rfl) | exact Or.inr (Or.inr rfl))
    (hd : (x == ("__debug__" : Str)) = false := by decide) (hcd : (x == ("__classdict__" : Str)) = false := by decide)
    (hbase : attributeBase (.Name x px) "append" X.env (eval (.Name x px) X.env) = eval (.Name x px) X.env := by rfl)
    (hfew : ((backTo p (starEach [e] X.env)).all (fun x => !x.1) && (backToKw p (keywordEach [] X.env)).all (fun x => x.1.isSome) && decide ([e].length + ([] : List Keyword).length + (if ([] : List Keyword).isEmpty then 0 else 1) < 30)) = true := by rfl)
    (hline : (pa.endLine == p.line) = true := by rfl) (hst : starEach [e] X.env = (false, eval e X.env) :: starEach [] X.env := by rfl) (hplain : (backTo p (starEach [] X.env)).any (·.1) = false := by rfl)
    (hs : swapsWith (.Call (.Attribute (.Name x px) "append" pa) [e] [] p) none pos.line X.env = pure false := by rfl) :
    DSt X W (.Expr (.Call (.Attribute (.Name x px) "append" pa) [e] [] p) pos) (tDrop (tBM X.K "list" rAppend (tVar i) (tCons te tNil))) (sAppend i φe) := by
  refine ⟨ps_expr (pe_bm PySem.F.plainAttrs_list PySem.F.slot_list_append PySem.F.type_list_append mt_append (pe_var hN hv hd hcd) (pa_cons ha.pe pa_nil hst) hbase hfew hline hst hplain) hs, fun g σ δ A H D Dd R q L => ?_⟩
  unfold sAppend at q
  split at q
  · rename_i l0 e0
    obtain ⟨r, xs, a1, a2, _⟩ := R.ow i l0 e0
    refine ⟨.ref r, a1, .inl ⟨rfl, xs, SqL.of a2⟩, ha.lk g σ δ A H _ _ _ R q (fun v d δ1 A1 H1 R1 s1 d1 q1 => ?_) (L.ex σ)⟩
    split at q1
    · rename_i l e1
      obtain ⟨r', ys, b1, b2, b3, b4, b5, b6⟩ := R1.ow i l e1
      rw [a1] at b1
      cases b1
      exact ⟨r, ys, v, rfl, rfl, b2, by rw [b6.length]; exact q1.1, L.nx σ _ A1 _ (R1.owSet e1 a1 b2 (b6.snoc d1)) s1 q1.2⟩
    · exact q1.elim
  · exact q.elim
/-- name[k] = e -/
def known : Option SD → Prop
  | some (.im _) => True
  | some (.ow _) => True
  | _ => False
theorem Rep.known {g : Gh} {σ : L2.St} {δ : Dl} {A H : Hp} {i : Nat} (R : Rep K g σ δ A H) (h : RL.known δ.s[i]?) : ∃ w, σ[i]? = some (some w) := by
  cases e : δ.s[i]? with
  | none => rw [e] at h; exact h.elim
  | some x =>
    cases x with
    | un => rw [e] at h; exact h.elim
    | im d => obtain ⟨v, a, _⟩ := R.im i d e; exact ⟨v, a⟩
    | ow l => obtain ⟨q, _, a, _⟩ := R.ow i l e; exact ⟨_, a⟩
def sItem (i : Nat) (v k : DM) : DS := fun δ Dd => v δ (fun d δ1 => RL.known δ1.s[i]? ∧ k δ1 (fun z δ2 => asI z fun n => match δ2.s[i]? with
  | some (.ow l) => asO (ixN l.length n) fun j => Dd.nx { δ2 with s := δ2.s.set i (.ow (l.set j d)) }
  | some (.im (.ptr q)) => (match δ2.m q with
    | some (.ls l) => asO (ixN l.length n) fun j => Dd.nx { δ2 with m := mup δ2.m q (.ls (l.set j d)) }
    | _ => False)
  | _ => False) Dd.ex) Dd.ex
theorem ds_item (i : Nat) {x : Str} {px : Pos} (hv' : DE X W e te φe) (hk : DE X W b tb φb) (hN : X.N[i]? = some x := by rfl) (hv : Vis X.env.scope x := by first | exact Or.inl rfl | exact Or.inr (Or.inl rfl) | exact Or.inr (Or.inr rfl))
    (hd : (x == ("__debug__" : Str)) = false := by decide) (hcd : (x == ("__classdict__" : Str)) = false := by decide)
    (h0 : swapsWithSole [.Subscript (.Name x px) b pos'] e pos.line X.env = pure false := by rfl) (hw : swappedStores [.Subscript (.Name x px) b pos'] e X.env = pure none := by rfl) (h1 : (assignEach [.Subscript (.Name x px) b pos'] X.env).map (·.2) = [assign (.Subscript (.Name x px) b pos') X.env] := by rfl)
    (h2 : ∀ v, assign (.Subscript (.Name x px) b pos') X.env v = (do
      let ov ← holding [v] (eval (.Name x px) X.env)
      let iv ← holding [v, ov] (eval b X.env)
      standAt pos'
      holding [v, ov, iv] (setItem ov iv v)
      release [v, ov, iv] []) := by intro _; rfl) :
    DSt X W (.Assign [.Subscript (.Name x px) b pos'] e pos) (tAsg te (gSub (tVar i) tb rSetL)) (sItem i φe φb) := by
  refine ⟨ps_asg hv'.pe (pg_sub (pe_var hN hv hd hcd) hk.pe set_list h2) h0 hw h1, fun g σ δ A H D Dd R q L => hv'.lk g σ δ A H _ _ _ R q (fun v d δ1 A1 H1 R1 s1 d1 q1 => ?_) (L.ex σ)⟩
  -- what the name holds is told by the end
  have main : ∀ w, σ[i]? = some (some w) → tb σ H1 (fun k H3 => rSetL w k v H3 fun H4 => D.nx σ H4) := fun w hw => by
    refine hk.lk g σ δ1 A1 H1 _ _ _ R1 q1.2 (fun k z δ2 A2 H2 R2 s2 d2 q2 => ?_) (L.ex σ)
    obtain ⟨n, rfl, q2⟩ := asI_of q2
    cases d2
    split at q2
    · rename_i l e1
      obtain ⟨j, hj, q2⟩ := asO_of q2
      obtain ⟨r, ys, b1, b2, b3, b4, b5, b6⟩ := R2.ow i l e1
      rw [hw] at b1
      cases b1
      exact ⟨r, ys, n, j, rfl, rfl, b2, by rw [b6.length]; exact hj, L.nx σ _ A2 _ (R2.owSet e1 hw b2 (b6.set j (d1.same s2))) (s1.trans s2) q2⟩
    · rename_i q e1
      obtain ⟨w', b1, b2⟩ := R2.im i _ e1
      rw [hw] at b1
      cases b1
      cases b2
      split at q2
      · rename_i l em
        obtain ⟨j, hj, q2⟩ := asO_of q2
        obtain ⟨ys, c1, c2, c3⟩ := R2.mr.ls q l em
        exact ⟨q, ys, n, j, rfl, rfl, c1, by rw [c3.length]; exact hj, L.nx σ _ A2 _ (R2.chg (by rw [em]; simp) (fun _ z => nomatch z) (R2.mr.setLs c2 (c3.set j (d1.same s2)))) (s1.trans s2) q2⟩
      · exact q2.elim
    · exact q2.elim
  obtain ⟨w, e0⟩ := R1.known q1.1
  exact ⟨w, e0, main w e0⟩
end
end RL
set_option Elab.async false
set_option linter.all false
set_option maxRecDepth 100000
set_option maxHeartbeats 4000000
/-! R10: items and lengths by a name; stars; new objects. -/
namespace RL
open PySem PySem.Spec PyProof.Rows L2 RZ

section
variable {X : Cx} {W : WX} {K : PySem.W.Frag}
variable {e a b c o tg iter elt : Expr} {es ifs : List Expr} {st : Stmt} {sts body els : List Stmt} {ta tb tc to te : TE} {t : TA} {φ φa φb φc φe : DM} {φs : DA} {pos p apos p2 pos' : Pos}

/-! ### name[k], len(name): what the name holds is not changed by it -/
def mIxN (i : Nat) (b : DM) : DM := fun δ P EX => RL.known δ.s[i]? ∧ b δ (fun y δ1 => match δ1.s[i]? with
  | some (.ow l) => asI y fun k => asO (atI l k) fun d => P d δ1
  | some (.im (.ptr q)) => (match δ1.m q with
    | some (.ls l) => asI y fun k => asO (atI l k) fun d => P d δ1
    | _ => False)
  | some (.im x) => oIx x y fun z => P z δ1
  | _ => False) EX
theorem de_ixN (i : Nat) {x : Str} {px : Pos} (hb : DE X W b tb φb) (hs : PlainIx b := by exact fun _ _ => rfl) (hN : X.N[i]? = some x := by rfl) (hv : Vis X.env.scope x := by first | exact Or.inl rfl | exact Or.inr (Or.inl rfl) | exact Or.inr (Or.inr rfl))
    (hd : (x == ("__debug__" : Str)) = false := by decide) (hcd : (x == ("__classdict__" : Str)) = false := by decide) : DE X W (.Subscript (.Name x px) b pos) (tOp (rIx X.K) (tVar i) tb) (mIxN i φb) := by
  refine ⟨pe_ix ix_seq (pe_var hN hv hd hcd) hb.pe hs, fun g σ δ A H P EX Q R h hQ hX => ?_⟩
  obtain ⟨w, hw⟩ := R.known h.1
  refine ⟨w, hw, hb.lk g σ δ A H _ _ _ R h.2 (fun y d δ1 A1 H1 R1 s1 d1 q1 => ?_) hX⟩
  split at q1
  · rename_i l e1
    obtain ⟨k, rfl, q1⟩ := asI_of q1
    cases d1
    obtain ⟨z, hz, q1⟩ := asO_of q1
    obtain ⟨r, ys, b1, b2, b3, b4, b5, b6⟩ := R1.ow i l e1
    rw [hw] at b1
    cases b1
    obtain ⟨v, hv1, dv⟩ := b6.atI hz
    exact .inl ⟨r, ys, k, v, rfl, rfl, SqL.of b2, hv1, hQ _ _ δ1 A1 H1 R1 s1 dv q1⟩
  · rename_i q e1
    split at q1
    · rename_i l em
      obtain ⟨k, rfl, q1⟩ := asI_of q1
      cases d1
      obtain ⟨z, hz, q1⟩ := asO_of q1
      obtain ⟨w', b1, b2⟩ := R1.im i _ e1
      rw [hw] at b1
      cases b1
      cases b2
      obtain ⟨ys, c1, c2, c3⟩ := R1.mr.ls q l em
      obtain ⟨v, hv1, dv⟩ := c3.atI hz
      exact .inl ⟨q, ys, k, v, rfl, rfl, SqL.of c1, hv1, hQ _ _ δ1 A1 H1 R1 s1 dv q1⟩
    · exact q1.elim
  · rename_i x' n1 e1
    obtain ⟨w', b1, b2⟩ := R1.im i _ e1
    rw [hw] at b1
    cases b1
    exact ol_ix g σ δ1 A1 H1 w y _ _ _ Q R1 b2 d1 q1 fun v z A2 H2 R2 s2 dv q2 => hQ v z δ1 A2 H2 R2 (s1.trans s2) dv q2
  · exact q1.elim
def mLenN (i : Nat) : DM := fun δ P _ => match δ.s[i]? with
  | some (.ow l) => P (.int l.length) δ
  | some (.im x) => oLen [x] fun z => P z δ
  | _ => False
theorem de_lenN (i : Nat) {x : Str} {px : Pos} (hm : X.mg "len" = none) (hg : Gl X "len" := by rfl) (hN : X.N[i]? = some x := by rfl) (hv : Vis X.env.scope x := by first | exact Or.inl rfl | exact Or.inr (Or.inl rfl) | exact Or.inr (Or.inr rfl))
    (hd : (x == ("__debug__" : Str)) = false := by decide) (hcd : (x == ("__classdict__" : Str)) = false := by decide)
    (he : starEach [.Name x px] X.env = (false, eval (.Name x px) X.env) :: starEach [] X.env := by rfl) (hpl : (backTo pos (starEach [] X.env)).any (·.1) = false := by rfl) :
    DE X W (.Call (.Name "len" p) [.Name x px] [] pos) (tCB (rLen X.K) (tCons (tVar i) tNil)) (mLenN i) := by
  refine ⟨pe_callB call_len hg hm PySem.boot_len (pa_cons (pe_var hN hv hd hcd) pa_nil he) (by decide) (by decide) he hpl, fun g σ δ A H P EX Q R h hQ hX => ?_⟩
  unfold mLenN at h
  split at h
  · rename_i l e1
    obtain ⟨r, ys, b1, b2, b3, b4, b5, b6⟩ := R.ow i l e1
    exact ⟨_, b1, _, _, rfl, .inl ⟨ys, SqL.of b2, b6.length.symm⟩, hQ _ _ δ A H R (Same.refl _) (.int _) h⟩
  · rename_i x' e1
    obtain ⟨w', b1, b2⟩ := R.im i _ e1
    exact ⟨_, b1, bl_len g σ δ A H _ _ _ Q R (.cons b2 .nil) h fun v z A2 H2 R2 s2 dv q2 => hQ v z δ A2 H2 R2 s2 dv q2⟩
  · exact h.elim

/-! ### stars in displays and calls -/
def aStar (a : DM) (s : DA) : DA := fun δ P EX => a δ (fun x δ1 => asO x.items fun l => s δ1 (fun ds δ2 => P (l ++ ds) δ2) EX) EX
theorem da_star (ha : DE X W a ta φa) (hs : DAr X W es t φs) (hst : starEach (.Starred a p :: es) X.env = (true, eval a X.env) :: starEach es X.env := by rfl) : DAr X W (.Starred a p :: es) (StX.tStar X.K ta t) (aStar φa φs) := by
  refine ⟨StX.pa_star ha.pe hs.pa hst, fun g σ δ A H P EX Q R h hQ hX => ha.lk g σ δ A H _ EX _ R h (fun x d δ1 A1 H1 R1 s1 d1 h1 => ?_) hX⟩
  obtain ⟨l, hl, h1⟩ := asO_of h1
  obtain ⟨q, xs, rfl, hs', hd⟩ := d1.items R1.sub hl
  exact ⟨q, xs, rfl, hs'.symm, hs.lk g σ δ1 A1 H1 _ EX _ R1 h1 (fun vs ds δ2 A2 H2 R2 s2 d2 h2 => hQ _ _ δ2 A2 H2 R2 (s1.trans s2) ((hd.same s2).append d2) h2) hX⟩

/-! ### new objects -/
def mdel (m : Mh) (a : Addr) : Mh := fun b => if b = a then none else m b
theorem mdel_same {m : Mh} {a : Addr} : mdel m a a = none := if_pos rfl
theorem mdel_ne {m : Mh} {a b : Addr} (h : b ≠ a) : mdel m a b = m b := if_neg h
theorem mdel_mup {m : Mh} {a : Addr} {o : MO} (h : m a = none) : mdel (mup m a o) a = m := by
  funext b
  by_cases e : b = a
  · rw [e, mdel_same, h]
  · rw [mdel_ne e, mup_ne e]
/-- C(..): its __init__ is shown self with no fields; then it never changes any more -/
def mMake (C : Addr) (f : Fsp) (dds : List D) (s : DA) : DM := fun δ P EX => s δ (fun ds δ1 => ∀ x, δ1.m x = none → f (.ptr x :: (ds ++ dds)) (mup δ1.m x (.ob C [])) (fun d m' => d = .non ∧ match m' x with
  | some (.ob C' fs) => C' = C ∧ P (.obj C fs) { δ1 with m := mdel m' x }
  | _ => False) fun er m' => EX er { δ1 with m := mdel m' x }) EX
/-- .. or it may change (a thing at x) -/
def mMakeM (C : Addr) (f : Fsp) (dds : List D) (s : DA) : DM := fun δ P EX => s δ (fun ds δ1 => ∀ x, δ1.m x = none → f (.ptr x :: (ds ++ dds)) (mup δ1.m x (.ob C [])) (fun d m' => d = .non ∧ P (.ptr x) { δ1 with m := m' }) fun er m' => EX er { δ1 with m := m' }) EX
/-- the class x of the module: where it stands, its __init__'s level, the values of the lacking parameters, its promise -/
structure OkC (P : Program) (w : World) (K : PySem.W.Frag) (mg : Str → Option Value) (base : Heap) (k : Nat) (x : Str) (C : Addr) (dvs : List V) (f : Fsp) : Prop where
  ex : ∃ (a : Addr) (fd : FuncData) (ps : List Str) (ds : List Value), FnQ P w K mg base (L2.CX P w) k a fd ps (spD K f) ∧ mg x = some (.ref C) ∧ Mk K C a ∧ L2.Binds K fd ps ds ∧ Vals dvs ds
theorem guards_make {A : Around} {C : Addr} {us : List Value} {kw : List (Str × Value)} (h : A.guards = some []) : (A.under (.builtin "type.__call__" ⟨.ref C :: us, kw⟩)).guards = some [] := by
  obtain ⟨a, b, c, d, e⟩ := A
  first | exact h | (simp only [Around.under]; simpa [Code.guards, Code.isGuard, pushGuards, guardIds] using h)
def tMakeS (C : Addr) (sp : Sp) (dvs : List V) (E : L2.St → XK) (t : TA) : TE := fun σ H Q => t σ H fun vs H1 => ∀ x dx, H1 x = none → H1 dx = none → dx ≠ x →
  sp (.ref x :: (vs ++ dvs)) (upd (upd H1 dx (.own x)) x (.ins C dx [])) (fun v H2 => v = .non ∧ Q (.ref x) H2) (E σ)
theorem pe_makeS {k : Nat} {x : Str} {C : Addr} {f : Fsp} {dvs : List V} (G : OkC X.prog X.w X.K X.mg X.base k x C dvs f) (hr : Room (k + 1) X.A) (gd : X.A.guards = some []) (tk : Takes X W) (ha : PA X (e :: es) t) (hg : Gl X x) (hdb : (x == ("__debug__" : Str)) = false)
    (he : starEach (e :: es) X.env = (false, eval e X.env) :: starEach es X.env) (hpl : (backTo pos (starEach es X.env)).any (·.1) = false) : PE X (.Call (.Name x p) (e :: es) [] pos) (tMakeS C (spD X.K f) dvs (WE W) t) := by
  obtain ⟨fa, fd, ps, ds, F, hm, M, hb, hd⟩ := G.ex
  refine ⟨fun pins s σ H Q I h => ?_⟩
  refine wpAny_Call_Name_kw (ld_glob I hg hm ?_ hdb)
  refine PySem.W.callWith_K (h₀ := X.base) I.ok.mod.kin M.kp (thn (ha.run pos pins s σ H _ I h) fun us s1 ⟨vs, H1, I1, r, q⟩ => ⟨I1.kIn, ?_⟩) he hpl
  have hq := q (s1.heap.objs.size + 1) s1.heap.objs.size (I1.hok.fresh (Nat.le_succ _)) (I1.hok.fresh (Nat.le_refl _)) (Nat.ne_of_lt (Nat.lt_succ_self _))
  have I2 := Inv.made (C := C) I1
  have r2 : Vals (V.ref (s1.heap.objs.size + 1) :: (vs ++ dvs)) (Value.ref (s1.heap.objs.size + 1) :: (us ++ ds)) := .cons rfl (r.append hd)
  have hl : (Value.ref (s1.heap.objs.size + 1) :: us ++ ds).length = ps.length := by
    have e := r2.length
    rw [F.len _ _ _ _ hq] at e
    exact e.symm
  refine wpAny_call (make_map (f := fa) I1.kIn M.makes M.init (beq_iff_eq.mp M.fn) (codeAny_mono (F.run _ X.stack _ _ ⟨Value.ref (s1.heap.objs.size + 1) :: us, []⟩ (Value.ref (s1.heap.objs.size + 1) :: (us ++ ds)) _ _ (WE W σ) (hr.make C us []) (guards_make gd)
    (I2.env0.make C us []) (hb _ (Value.ref (s1.heap.objs.size + 1) :: us) I2.kIn hl) r2 hq) fun r s' hq' => ?_))
  cases r with
  | error e => exact passAt tk σ pins _ _ e s' I2 hq'
  | ok fl =>
    cases fl with
    | ret u =>
      obtain ⟨v, H', I3, rv, ev, q3⟩ := I2.after hq'
      subst ev
      exact ⟨rv, ⟨V.ref (s1.heap.objs.size + 1), H', I3, rfl, q3⟩⟩
    | next => exact False.elim hq'
    | brk => exact False.elim hq'
    | cont => exact False.elim hq'
theorem Rep.lay2 {g : Gh} {σ : L2.St} {δ : Dl} {A H : Hp} {x dx : Addr} {u v : HO} (R : Rep K g σ δ A H) (hx : H x = none) (hd : H dx = none) (ne : dx ≠ x) : Rep K g σ δ A (upd (upd H dx u) x v) :=
  (R.lay hd).lay (by rw [upd_ne (Ne.symm ne)]; exact hx)
theorem lk_make {C : Addr} {f : Fsp} {dvs : List V} {dds : List D} (hd : ∀ A, DrAll K A dvs dds) (hs : LkA K W t φs) : LkE K W (tMakeS C (spD K f) dvs (WE W) t) (mMake C f dds φs) := fun g σ δ A H P EX Q R h hQ hX =>
  hs g σ δ A H _ EX _ R h (fun vs ds δ1 A1 H1 R1 s1 d1 h1 x dx hx hdx ne => by
    obtain ⟨ax, h0x, mx⟩ := R1.free hx
    have R2 : Rep K g σ δ1 A1 (upd (upd H1 dx (.own x)) x (.ins C dx [])) := R1.lay2 hx hdx ne
    have hm := h1 x mx
    have M2 : MR K A1 (upd (upd H1 dx (.own x)) x (.ins C dx [])) (mup δ1.m x (.ob C [])) := by
      have M3 : MR K A1 (upd H1 dx (.own x)) δ1.m := (R1.lay hdx).mr
      exact M3.setOb ax .nil
    refine ⟨A1, mup δ1.m x (.ob C []), .ptr x :: (ds ++ dds), _, _, R2.sub, R2.tabs, M2, .cons (.ptr x) (d1.append (hd A1)), hm, fun v d A' H' m' F dv q => ?_, fun er cls dd A' H' m' F xr q => ?_⟩
    · obtain ⟨rfl, q⟩ := q
      cases dv
      refine ⟨rfl, ?_⟩
      split at q
      · rename_i C' fs em
        obtain ⟨rfl, q⟩ := q
        -- behind the making: m' without x; the object is put
        obtain ⟨dx', fv, k1, k2, k3⟩ := F.mr.ob x _ fs em
        have key : ∀ {m'' : Mh}, (∀ b, b ≠ x → m'' b = m' b) → m'' x = none → Rep K g σ { δ1 with m := m'' } A' H' := fun {m''} e1 e2 => by
          have F2 : Fin' K A1 H1 δ1.m A' H' m'' := by
            have nx : ∀ {b : Addr}, H1 b ≠ none → b ≠ x ∧ b ≠ dx := fun {b} n => ⟨fun z => n (by rw [z]; exact hx), fun z => n (by rw [z]; exact hdx)⟩
            have up : ∀ {b : Addr}, H1 b ≠ none → (upd (upd H1 dx (.own x)) x (.ins C' dx [])) b = H1 b := fun {b} n => by rw [upd_ne (nx n).1, upd_ne (nx n).2]
            refine ⟨F.old, F.sub, fun b n => F.new b (by rw [up n]; exact n), fun b o z t e => ?_, fun b n => F.dm b (by rw [up n]; exact n), fun b n z => ?_, fun b n => ?_, F.tabs, ⟨fun q l e => ?_, fun q D fs' e => ?_⟩⟩
            · have n : H1 b ≠ none := by rw [e]; simp
              exact F.keep b o (by rw [mup_ne (nx n).1]; exact z) t (by rw [up n]; exact e)
            · rw [e1 b (nx n).1]
              exact F.d1 b (by rw [up n]; exact n) (by rw [mup_ne (nx n).1]; exact z)
            · have hb : b ≠ x := fun z => n (by rw [z]; exact mx)
              rw [e1 b hb]
              exact F.d2 b (by rw [mup_ne hb]; exact n)
            · have hq : q ≠ x := fun z => by rw [z, e2] at e; cases e
              rw [e1 q hq] at e
              exact F.mr.ls q l e
            · have hq : q ≠ x := fun z => by rw [z, e2] at e; cases e
              rw [e1 q hq] at e
              exact F.mr.ob q D fs' e
          exact R1.fin F2
        have R3 := key (m'' := mdel m' x) (fun b hb => mdel_ne hb) mdel_same
        -- x is put into what never changes
        have sx : Same A' (upd A' x (.ins C' dx' fv)) := upd_put k2
        have R4 : Rep K g σ { δ1 with m := mdel m' x } (upd A' x (.ins C' dx' fv)) H' := by
          have ne' : ∀ b, b ≠ x → upd A' x (.ins C' dx' fv) b = A' b := fun b hb => upd_ne hb
          refine ⟨fun b o e => ?_, R3.old.trans sx, fun b f' n => ?_, R3.keep, R3.dm, R3.d1, R3.d2, R3.tabs.put (fun ps z => by rw [k1] at z; cases z), R3.len, fun i d e => ?_, fun i l e => ?_, R3.dis, R3.mr.same sx (fun _ _ _ z => z) fun b n => ne' b fun z => n (by rw [z]; exact mdel_same)⟩
          · by_cases hb : b = x
            · subst hb; rw [upd_same] at e; rw [k1]; exact e
            · rw [ne' b hb] at e; exact R3.sub b o e
          · rw [ne' b fun z => n (by rw [z]; exact h0x)]
            exact R3.new b f' n
          · obtain ⟨v, a1, a2⟩ := R3.im i d e
            exact ⟨v, a1, a2.same sx⟩
          · obtain ⟨r, ys, a1, a2, a3, a4, a5, a6⟩ := R3.ow i l e
            have hr : r ≠ x := fun z => by subst z; rw [k1] at a2; cases a2
            exact ⟨r, ys, a1, a2, by rw [ne' r hr]; exact a3, a4, a5, a6.same sx⟩
        exact hQ _ _ _ _ H' R4 ((s1.trans F.old).trans sx) (.obj upd_same (k3.same sx)) q
      · exact q.elim
    · have F2 : Fin' K A1 H1 δ1.m A' H' (mdel m' x) := by
        have nx : ∀ {b : Addr}, H1 b ≠ none → b ≠ x ∧ b ≠ dx := fun {b} n => ⟨fun z => n (by rw [z]; exact hx), fun z => n (by rw [z]; exact hdx)⟩
        have up : ∀ {b : Addr}, H1 b ≠ none → (upd (upd H1 dx (.own x)) x (.ins C dx [])) b = H1 b := fun {b} n => by rw [upd_ne (nx n).1, upd_ne (nx n).2]
        refine ⟨F.old, F.sub, fun b n => F.new b (by rw [up n]; exact n), fun b o z t e => ?_, fun b n => F.dm b (by rw [up n]; exact n), fun b n z => ?_, fun b n => ?_, F.tabs, ⟨fun q l e => ?_, fun q D fs' e => ?_⟩⟩
        · have n : H1 b ≠ none := by rw [e]; simp
          exact F.keep b o (by rw [mup_ne (nx n).1]; exact z) t (by rw [up n]; exact e)
        · rw [mdel_ne (nx n).1]
          exact F.d1 b (by rw [up n]; exact n) (by rw [mup_ne (nx n).1]; exact z)
        · have hb : b ≠ x := fun z => n (by rw [z]; exact mx)
          rw [mdel_ne hb]
          exact F.d2 b (by rw [mup_ne hb]; exact n)
        · have hq : q ≠ x := fun z => by rw [z, mdel_same] at e; cases e
          rw [mdel_ne hq] at e
          exact F.mr.ls q l e
        · have hq : q ≠ x := fun z => by rw [z, mdel_same] at e; cases e
          rw [mdel_ne hq] at e
          exact F.mr.ob q D fs' e
      exact hX er _ cls dd A' H' (R1.fin F2) xr q) hX
theorem de_make {k : Nat} {x : Str} {C : Addr} {f : Fsp} {dvs : List V} {dds : List D} (G : OkC X.prog X.w X.K X.mg X.base k x C dvs f) (hr : Room (k + 1) X.A) (gd : X.A.guards = some []) (tk : Takes X W) (hd : ∀ A, DrAll X.K A dvs dds) (ha : DAr X W (e :: es) t φs) (hg : Gl X x := by rfl)
    (hdb : (x == ("__debug__" : Str)) = false := by decide) (he : starEach (e :: es) X.env = (false, eval e X.env) :: starEach es X.env := by rfl) (hpl : (backTo pos (starEach es X.env)).any (·.1) = false := by rfl) :
    DE X W (.Call (.Name x p) (e :: es) [] pos) (tMakeS C (spD X.K f) dvs (WE W) t) (mMake C f dds φs) := ⟨pe_makeS G hr gd tk ha.pa hg hdb he hpl, lk_make hd ha.lk⟩
end
end RL
set_option Elab.async false
set_option linter.all false
set_option maxRecDepth 100000
set_option maxHeartbeats 4000000
/-! R11: own exceptions: super().__init__(..) in their __init__, made and raised, caught and kept, their fields. -/
namespace RL
open PySem PySem.Spec PyProof.Rows L2 RZ NdefX

section
open PySem.W PySem.Calls Builtin Builtin.ObjectAttr Builtin.Getset_descriptor
variable {prog : Program} {w : World} {A : Around} {E : Value → Shared → Prop} {s : Shared} {K : Frag} {x C : Addr} {ox : Obj} {od : Option Obj}
/-- x.__class__ of an own exception -/
theorem exc_class {expr : Bool} {Q : Value → Shared → Prop} (hga : findIn K (.ref C) "__getattribute__" = some (some (.builtin "BaseException.__getattribute__"))) (hgt : findIn K (.ref C) "__getattr__" = some none) (hsub : subIn K (.ref C) (.type "BaseException") = some true)
    (hf : findObj K C od "__class__" = some (.bind (.builtin "getset_descriptor.__get__") (.builtin "object.__class__"))) (hm : mroIn K C (.type "object") = some true)
    (X : K.In s.heap) (I : InstAt s.heap x ox C od) (h : Q (.ref C) { s with toks := s.toks + 1 }) : wpAny (model prog w) A (getAttr (.ref x) "__class__" expr) Q E s := by
  obtain ⟨hp, g, d, t, os⟩ := s
  have L0 := I.type (M := model prog w)
  have L1 := looks_findIn (M := model prog w) X hga
  have L2 := looks_findIn (M := model prog w) X hgt
  have L3 := looks_find (M := model prog w) X I hf
  have sub : Looks (model prog w) hp (isInstance (.ref x) (.type "BaseException")) true := L0.andThen (looks_subIn X hsub)
  have hx0 : (expr && onTheHeap (Value.builtin "BaseException.__getattribute__")) = false := by cases expr <;> rfl
  have hx2 : (Value.builtin "BaseException.__getattribute__" == Value.builtin "object.__getattribute__") = false := by decide +kernel
  have hx1 : (onTheHeap (Value.ref C) && Value.builtin "BaseException.__getattribute__" == Value.builtin "object.__getattribute__") = false := by rw [hx2]; rfl
  unfold getAttr getAttrBy
  refine wpAny_bind (wpAny_mkText (wpAny_holding (wpAny_bind (L0.at (wpAny_bind (L1.at ?_))))))
  show wpAny _ _ (if (onTheHeap (Value.ref C) && Value.builtin "BaseException.__getattribute__" == Value.builtin "object.__getattribute__") = true then _ else _) _ _ _
  rw [hx1, if_neg Bool.false_ne_true]
  unfold getAttrByItsOwn hookBefore
  refine wpAny_bind ?_
  rw [if_pos (show onTheHeap (Value.ref C) = true from rfl)]
  refine L2.at ?_
  refine wpAny_bind (wpAny_attempt (wpAny_holding ?_))
  unfold callGetattribute
  rw [hx0, if_neg Bool.false_ne_true]
  unfold boundAndCalled
  rw [PySem.F.excAttr_ValueError.ga.bind (.ref x)]
  refine wpAny_bind (wpAny_pure ?_)
  show wpAny _ _ (call (.builtin "BaseException.__getattribute__") [.ref x, .str "__class__" t]) _ _ _
  refine wpAny_call (codeAny_call_builtin PySem.F.excAttr_ValueError.ga.plain PySem.F.entry_bexc_ga ?_)
  refine @check_slot (model prog w) _ _ ⟨hp, g, d, t + 1, os⟩ "BaseException.__getattribute__" "BaseException" "__getattribute__" (.ref x) [.str "__class__" t] [] _ (by decide +kernel) (by decide +kernel) sub (PySem.F.args_bexc_ga (.ref x) (.str "__class__" t)) ?_
  unfold Builtin.«object.__getattribute__»
  refine wpAny_bind (wpAny_of_eq (a := ((Value.ref x : Value), [Value.str "__class__" t])) (by first | rfl | (simp only [slotArgs]; rfl)) ?_)
  refine wpAny_bind (wpAny_pure (wpAny_bind (L0.at (wpAny_bind (L3.at ?_)))))
  show wpAny _ _ (holding [Value.builtin "object.__class__"] (call (.builtin "getset_descriptor.__get__") [.builtin "object.__class__", .ref x, .ref C]) >>= ret) _ _ _
  refine wpAny_bind (wpAny_holding (wpAny_call (class_get (s := ⟨hp, g, d, t + 1, os⟩) (ox := ox) (od := od) X I hm ?_)))
  refine wpAny_pure ?_
  show wpAny _ _ (handedOut (.ref C)) _ _ _
  rw [handedOut_of (v := .ref C) rfl]
  exact wpAny_pure h

theorem dga_ref (d tp : Value) (C : Addr) : descrGetArgs ⟨[d, .ref C, tp], []⟩ = pure (d, some (.ref C), given tp) := by kernel_rfl
theorem own_name_get {R : Result → Shared → Prop} {oC : Obj} {nm : Str} {tk : Tok} {tp : Value} (hC : s.heap.get? C = some oC) (hty : oC.cls = .type "type") (hs : oC.slots[2]? = some (some (.str nm tk))) (h : R (.ok (.ret (.str nm tk))) s) :
    codeAny (model prog w) A (.call (.builtin "getset_descriptor.__get__") ⟨[.builtin "type.__name__", .ref C, tp], []⟩) R s := by
  obtain ⟨hh, g, dr, t, os⟩ := s
  have L0 : Looks (model prog w) hh (typeOf (.ref C)) (.type "type") := fun A Q E s k q => wpAny_typeOf_ref (k _ _ hC) (by rw [hty]; exact q)
  have L1 : Looks (model prog w) hh (isSubtype (.type "type") (.type "type")) true := Looks.of_pure (by rw [isSubtype_type]; kernel_rfl)
  refine codeAny_call_builtin KF.slot_gs.plain KF.entry_gs (KF.slot_gs.check _ _ _ _ _ _ _ _ ktyn_type (KF.args_gs _ _ _) ?_)
  unfold Builtin.«getset_descriptor.__get__» descrGet
  rw [dga_ref]
  refine wpAny_bind (wpAny_pure ?_)
  unfold descrGetter descrCheckInstance descrNameAndClass isInstance
  simp only [ktyn_owner]
  repeat lk
  refine ⟨Code.quiet_builtin _ (by decide +kernel), codeAny_builtin ktyn_entry ?_⟩
  unfold Builtin.«type.__name__»
  dsimp only
  unfold keptObject
  dsimp only
  unfold PySem.slotAt
  refine wpAny_bind (wpAny_bind (wpAny_loadPart hC (wpAny_pure ?_)))
  rw [hs]
  exact wpAny_pure h
/-- C.__name__ of an own class -/
theorem own_name {expr : Bool} {Q : Value → Shared → Prop} {oC : Obj} {nm : Str} {tk : Tok} (X : K.In s.heap) (hr : readsIn K C (.type "type") = true)
    (e : findCls K (.ref C) (.type "type") "__name__" = some (.get (.builtin "getset_descriptor.__get__") (.builtin "type.__name__") (.ref C) (.type "type")))
    (hC : K.lookup C = some oC) (hty : oC.cls = .type "type") (hs : oC.slots[2]? = some (some (.str nm tk))) (h : ∀ t, Q (.str nm tk) { s with toks := t }) : wpAny (model prog w) A (getAttr (.ref C) "__name__" expr) Q E s := by
  refine cls_bind X hr e ?_
  exact wpAny_call (own_name_get (s := { s with toks := s.toks + 1 }) (X _ _ hC) hty hs (handed_on rfl (h _)))
end

/-- what the class at C must say, so that its instances' class's name is read -/
structure NmC (K : PySem.W.Frag) (C : Addr) (nm : Str) : Prop where
  ga : PySem.W.findIn K (.ref C) "__getattribute__" = some (some (.builtin "BaseException.__getattribute__"))
  gg : PySem.W.findIn K (.ref C) "__getattr__" = some none
  ex : PySem.W.subIn K (.ref C) (.type "BaseException") = some true
  fo : PySem.W.findObj K C none "__class__" = some (.bind (.builtin "getset_descriptor.__get__") (.builtin "object.__class__"))
  mo : PySem.W.mroIn K C (.type "object") = some true
  rd : PySem.W.readsIn K C (.type "type") = true
  fc : PySem.W.findCls K (.ref C) (.type "type") "__name__" = some (.get (.builtin "getset_descriptor.__get__") (.builtin "type.__name__") (.ref C) (.type "type"))
  sl : ∃ oC tk, K.lookup C = some oC ∧ oC.cls = .type "type" ∧ oC.slots[2]? = some (some (.str nm tk))
theorem exo_inst {P : Program} {w : World} {H : Hp} {h : Heap} {e C : Addr} (hok : HOk P w H h) (he : H e = some (exo e C none)) : ∃ ox, PySem.W.InstAt h e ox C none := by
  obtain ⟨t1, z⟩ := exo_at hok he
  exact ⟨_, z, rfl, rfl, trivial⟩
section
variable {X : Cx} {e : Expr} {te : TE} {p1 p2 : Pos}
def tCN (K : PySem.W.Frag) (te : TE) : TE := fun σ H Q => te σ H fun x H1 => ∃ a C nm, x = .ref a ∧ H1 a = some (exo a C none) ∧ NmC K C nm ∧ Q (.str nm) H1
theorem pe_clsName (he : PE X e te) (hb : attributeBase e "__class__" X.env (eval e X.env) = eval e X.env := by rfl) (hb2 : attributeBase (.Attribute e "__class__" p1) "__name__" X.env (eval (.Attribute e "__class__" p1) X.env) = eval (.Attribute e "__class__" p1) X.env := by rfl) :
    PE X (.Attribute (.Attribute e "__class__" p1) "__name__" p2) (tCN X.K te) := by
  refine ⟨fun pins s σ H Q I h => ?_⟩
  refine attr_of hb2 (attr_of hb (thn (he.run pins s σ H _ I h) fun u s1 ⟨x, H1, I1, rx, a, C, nm, ex, ea, T, q⟩ => ?_))
  subst ex
  obtain rfl : u = Value.ref a := rx
  obtain ⟨ox, J⟩ := exo_inst I1.hok ea
  refine exc_class T.ga T.gg T.ex T.fo T.mo I1.kIn J ?_
  obtain ⟨oC, tk, h1, h2, h3⟩ := T.sl
  exact own_name (s := { s1 with toks := s1.toks + 1 }) I1.kIn T.rd T.fc h1 h2 h3 fun t => ⟨.str nm, H1, I1.tok _, ⟨_, rfl⟩, q⟩
end

/-- what the written part says of super().__init__ in an own exception's __init__ -/
structure SupK (P : Program) (K : PySem.W.Frag) (mg : Str → Option Value) (C fI cc cda : Addr) : Prop where
  cell : ∃ cl cld csl, K.lookup cc = some ⟨cl, cld, .cell (some (.ref C)), csl⟩
  code : ∃ ccl cdd vs ccs file tf, K.lookup cda = some ⟨ccl, cdd, .fields vs, ccs⟩ ∧ vs[2]? = some (.str file tf) ∧ ((P.main.file : Str) == file) = true
  top : (P.main.scope.names.lookup ("super" : Str)).isSome = false
  nsup : mg "super" = none
  sub : PySem.W.mroIn K C (.ref C) = some true
  opq : PySem.W.nsIn K cStatics "thirdparty.any" = some none
  hm : PySem.W.ks_superIn K C C "__init__" = some (some (.builtin "ValueError.__init__"))
  hB : PySem.W.subIn K (.ref C) (.type "ValueError") = some true
section
open PySem.W PySem.Calls
variable {X : Cx} {pins : List (Addr × Obj)} {σ : L2.St} {H : Hp} {s : Shared} {a C cc cda fI : Addr} {e : Expr} {te : TE} {p0 p1 p2 pos pos' : Pos} {body : List Stmt}
theorem super_init {od : Option Addr} {oc : Value} {osl : Array (Option Value)} {fd : FuncData} {ar : Arg} (S : SupK X.prog X.K X.mg C fI cc cda) (T : OexC X.K C) (hfI : X.K.lookup fI = some ⟨oc, od, .func fd, osl⟩) (har : (fd.params.posonlyargs ++ fd.params.args).head? = some ar)
    (hks : X.env.kindOf "super" = some .globalImplicit) (hkc : X.env.kindOf "__class__" = some .free) (hcc : X.env.cells.lookup ("__class__" : Str) = some cc) (hfu : X.env.func = some fI) (hco : X.env.code = .ref cda)
    (hN : X.N[0]? = some ar.arg) (hloc : X.env.kindOf ar.arg = some .local) (hσ : σ[0]? = some (some (.ref a))) (I : Inv X pins σ H s) (ea : H a = some (exo a C none))
    (he : PE X e te) (ha : tCons te tNil σ H fun vs H1 => vs.length = 1 ∧ H1 = H) (hst : starEach [e] X.env = (false, eval e X.env) :: starEach [] X.env)
    (hint : interactive X.env = false) (hsw : swapsWith (.Call (.Attribute (.Call (.Name "super" p0) [] [] p1) "__init__" p2) [e] [] pos) none pos'.line X.env = pure false)
    (pl : Sem Bool) (hcall : eval (.Call (.Attribute (.Call (.Name "super" p0) [] [] p1) "__init__" p2) [e] [] pos) X.env = (do
      let ov ← attributeBase (.Call (.Name "super" p0) [] [] p1) "__init__" X.env (eval (.Call (.Name "super" p0) [] [] p1) X.env)
      standAt p2.atName
      let (f, first) ← holding [ov] (getMethod ov "__init__" pl)
      callWith pos f first (backTo pos (starEach [e] X.env)) [])) :
    _root_.PySem.wpAt (model X.prog X.w) X.A (.func body X.env) (exec (.Expr (.Call (.Attribute (.Call (.Name "super" p0) [] [] p1) "__init__" p2) [e] [] pos) pos') X.env) (fun fl s' => fl = .next ∧ Inv X pins σ H s') X.xe s := by
  obtain ⟨cl, cld, csl, hcell⟩ := S.cell
  obtain ⟨ccl, cdd, vs, ccs, file, tf, hcode, hvs, hfile⟩ := S.code
  have hq : _root_.PySem.wpAt (model X.prog X.w) X.A (.func body X.env) (eval (.Call (.Attribute (.Call (.Name "super" p0) [] [] p1) "__init__" p2) [e] [] pos) X.env) (fun _ s' => Inv X pins σ H s') X.xe s := by
    refine ks_wpAt_MethodCall ?_ hcall
    refine ks_wpAt_super_base hks hkc rfl hfu (I.kIn _ _ hfI) rfl har hco (I.kIn _ _ hcode) rfl hvs hfile S.top ?_
    obtain ⟨mb, b1, b2⟩ := I.mod.blt
    refine ks_loadName_global I.ok.kind hks (loadGlobal_builtin (by rw [I.ok.glob]; exact I.mod.glob.keeps I.bk) S.nsup (by rw [I.ok.blt]; exact b1.keeps I.bk) ((b2 "super" (by decide)).trans (show bootBuiltins "super" = some (.type "super") by first | rfl | decide +kernel | kernel_rfl)) ⟨rfl, ?_⟩)
    refine wpAny_loadName_free I.ok.kind hkc hcc ⟨_, I.kIn _ _ hcell, rfl⟩ ?_
    obtain ⟨m, hns, hl⟩ := I.loc
    obtain ⟨u, ru, lk⟩ := hl 0 ar.arg (.ref a) hN hσ (.inl hloc)
    obtain rfl : u = Value.ref a := ru
    have hma : m ar.arg = some (.ref a) := by
      rcases lk with ⟨_, z⟩ | ⟨z, _⟩
      · exact z
      · rw [hloc] at z
        rcases z with z | z <;> cases z
    refine wpAny_loadName_local I.ok.kind hloc hns hma ?_
    obtain ⟨nm, q, N, bs, bm, sn, sub, ab, col, dd, k0, k1, k2, k3, k5, hC, hbm⟩ := T.cls
    obtain ⟨t1, ho⟩ := exo_at I.hok ea
    have hcl : clsIn X.K C = some { name := nm, bases := bs, mro := .ref C :: bm, ns := N, qualname := q, hasDict := true, slotNames := sn, subclasses := sub, abstract := ab, collection := col, hasDel := false } := by unfold clsIn; rw [hC] <;> rfl
    obtain ⟨hh, g, d, t, os⟩ := s
    refine ks_wpAny_isType_cls (I.kIn _ _ hC) rfl ⟨rfl, ?_⟩
    refine ks_wpAny_call_super (I.kIn _ _ hC) rfl ho rfl (fun c z => by cases z) (looks_mroIn I.kIn S.sub) fun h1 e1 k1 => ?_
    have J1 : Inv X pins σ H ⟨h1, g, d, t, os⟩ := I.kept (t' := t) k1
    obtain ⟨t2, ho1⟩ := exo_at J1.hok ea
    have I1 : InstAt h1 a { cls := .ref C, dict := none, data := .fields #[.ref t2, .none, .none, .none, .bool false, .none] } C none := ⟨ho1, rfl, rfl, trivial⟩
    have hI : Looks (model X.prog X.w) h1 (isInstance (.ref a) (.type "ValueError")) true := I1.type.andThen (looks_subIn J1.kIn S.hB)
    have hm := S.hm
    unfold ks_superIn at hm
    rw [hcl] at hm
    refine kxs_getMethod kxs_ValueError e1 (looks_opaque J1.kIn S.opq) (l₀ := .ref C :: bm) (fun A Q E s k q => wpAny_bind ((looks_clsIn J1.kIn hcl) A _ E s k (wpAny_pure q))) rfl J1.kIn hm hI (ks_ne J1.kIn I1 hcl) (by decide) ?_
    have J2 : Inv X pins σ H ⟨h1.push (kxs_mw "ValueError.__init__" a), g, d, t + 1, os⟩ := J1.kept (t' := t + 1) fun b o z => Heap.get?_push_of_some _ z
    have hmw : (h1.push (kxs_mw "ValueError.__init__" a)).get? h1.objs.size = some (kxs_mw "ValueError.__init__" a) := Heap.get?_push_at rfl rfl
    have J3 : Inv X ((h1.objs.size, kxs_mw "ValueError.__init__" a) :: pins) σ H ⟨h1.push (kxs_mw "ValueError.__init__" a), g, d, t + 1, os⟩ := by
      refine J2.pins_of fun p hp => ?_
      rcases List.mem_cons.mp hp with rfl | hp
      · exact ⟨hmw, J1.hok.fresh (Nat.le_refl _), (Nat.ne_of_lt J1.lt).symm, J1.nofs (Nat.le_refl _), fun v z => by cases z⟩
      · exact J2.pin p (List.mem_append_right _ hp)
    have hp : wpAny (model X.prog X.w) X.A (spliced (backTo pos (starEach [e] X.env))) (fun vs s1 => KxsAt "ValueError.__init__" h1.objs.size a s1.heap ∧ wpAny (model X.prog X.w) X.A (call (.ref h1.objs.size) vs) (fun _ s' => Inv X pins σ H s') X.xe s1) X.xe ⟨h1.push (kxs_mw "ValueError.__init__" a), g, d, t + 1, os⟩ := by
      refine thn ((pa_cons he pa_nil hst).run pos _ _ σ H _ J3 ha) fun us s1 ⟨ws, H1, I4, r4, hl4, eH⟩ => ?_
      subst eH
      have hat : s1.heap.get? h1.objs.size = some (kxs_mw "ValueError.__init__" a) := (I4.pin _ (List.mem_append_right _ List.mem_cons_self)).1
      refine ⟨hat, ?_⟩
      have I5 : Inv X pins σ H1 s1 := I4.pins_of fun p hp => I4.pin p (List.mem_append_right _ (List.mem_cons_of_mem _ hp))
      have hus : us.length ≤ sizeLine := by
        rw [← Paired.length r4, hl4, sizeLine_eq]
        omega
      obtain ⟨t5, ho5⟩ := exo_at I5.hok ea
      obtain ⟨hh5, g5, d5, tk5, os5⟩ := s1
      refine wpAny_call (codeAny_of_tree ?_)
      show wpAny _ X.A.in1 (callAny (.ref h1.objs.size) ⟨us, []⟩) _ _ _
      simp only [callAny]
      refine wpAny_bind (wpAny_load hat ?_)
      simp only [kxs_mw, show (Value.type "method-wrapper" == Value.type "method" || Value.type "method-wrapper" == Value.type "builtin_function_or_method" || Value.type "method-wrapper" == Value.type "method-wrapper") = true by decide, if_true]
      refine KFB.if_so (by decide) ?_
      refine wpAny_bind (check_bound_init F.excBase_ValueError.toExcCallFacts (I5.kIn _ _ hC) ho5 rfl ?_)
      refine wpAny_bind (wpAny_pure (wpAny_pure ?_))
      refine ⟨plainId_quiet F.excBase_ValueError.init.plain _, codeAny_builtin F.excBase_ValueError.initEntry ?_⟩
      refine exc_init_tree (cls := .ref C) (t0 := t5) (dv := none) (c2 := .none) (c3 := .none) (b4 := .bool false) ho5 hus fun h' k hx _ => ?_
      have J := I5.write (t' := tk5) (x := a) (e := a) (o := exo a C none) (by rw [ea]; exact True.intro) (.inl rfl) k ⟨_, hx⟩ (exo_ok hx)
      have eu : upd H1 a (exo a C none) = H1 := by
        funext b
        by_cases hb : b = a
        · rw [hb, upd_same, ea]
        · rw [upd_ne hb]
      rw [eu] at J
      exact J
    rw [hst] at hp ⊢
    exact kxs_callWith (i := "ValueError.__init__") (x := a) (by rfl) (evalArgs_plain hp)
  exact ks_wpAt_Expr_any (ks_wpAt_mono hq (fun v s' z => ⟨rfl, z⟩) fun _ _ z => z) hint hsw
end

/-- the written __init__ at fI, closing over __class__ -/
structure InK (K : PySem.W.Frag) (st : Stmt) (F : NF) (fI : Addr) (fd : FuncData) : Prop where
  ex : ∃ (oc : Value) (od : Option Addr) (dV kV doc pm : Value) (an : Option Addr) (ct : Value) (osl : Array (Option Value)), fd = PySem.W.fnX F.name F.qual F.params F.body F.scope F.cl dV kV doc pm an (.ref F.c) ct ∧ K.lookup fI = some ⟨oc, od, .func fd, osl⟩ ∧ PySem.W.codeIn K (.ref F.c) F.qual = true
  p : F.params = defArgs st
  b : F.body = defBody st
  s : F.scope = defScope st
section
variable {P : Program} {w : World} {K : PySem.W.Frag} {mg : Str → Option Value} {base : Heap}
theorem cells_cc {C cc : Addr} {cl cld} {csl : Array (Option Value)} {s : Shared} {H : Hp} (hcell : s.heap.get? cc = some ⟨cl, cld, .cell (some (.ref C)), csl⟩) (hH : H cc = none) : CellsAt [(("__class__" : Str), cc)] ["__class__"] [none] s.heap H := by
  have key : ∀ {y : Str} {c : Addr}, List.lookup y [(("__class__" : Str), cc)] = some c → c = cc ∧ y = "__class__" := fun {y c} e => by
    rw [List.lookup] at e
    split at e
    · rename_i h
      cases e
      exact ⟨rfl, by simpa using h⟩
    · cases e
  refine ⟨rfl, fun y c e => ?_, fun x y c e1 e2 => ?_, fun i y e => ?_⟩
  · obtain ⟨rfl, _⟩ := key e
    exact ⟨hH, _, _, hcell, rfl⟩
  · exact (key e1).2.trans (key e2).2.symm
  · cases i with
    | zero =>
      cases e
      exact ⟨cc, rfl, fun v z => by cases z⟩
    | succ i => cases e
/-- THE RULE for an own exception's __init__: super().__init__(e), then statements -/
theorem init_ok {CXX : CXT} {st : Stmt} {F : NF} {fI C cc : Addr} {fd : FuncData} {N ps : List Str} {k : Nat} {sp : Sp} {e : Expr} {p0 p1 p2 pos pos' : Pos} {rest : List Stmt} {ar : Arg} (I : InK K st F fI fd) (T : OexC K C) (S : SupK P K mg C fI cc F.c) (hcl : F.cl = [(("__class__" : Str), cc)]) (SC : NScope N ps ["__class__"] F.scope)
    (hbd : F.body = .Expr (.Call (.Attribute (.Call (.Name "super" p0) [] [] p1) "__init__" p2) [e] [] pos) pos' :: rest)
    (har : (F.params.posonlyargs ++ F.params.args).head? = some ar) (hps : ps[0]? = some ar.arg) (hks : F.scope.names.lookup ("super" : Str) = some .globalImplicit) (hkc : F.scope.names.lookup ("__class__" : Str) = some .free)
    (len : ∀ vs H Q E, sp vs H Q E → vs.length = ps.length)
    (hb : ∀ (A : Around) (outer : List Env) (s : Shared) (H : Hp) (E : XK), ∃ te t pl, PE (ncx CXX P w K mg base N F fI A outer s H E) e te ∧ PSs (ncx CXX P w K mg base N F fI A outer s H E) rest t ∧
      starEach [e] (envF F fI s.heap.objs.size) = (false, eval e (envF F fI s.heap.objs.size)) :: starEach [] (envF F fI s.heap.objs.size) ∧ interactive (envF F fI s.heap.objs.size) = false ∧
      swapsWith (.Call (.Attribute (.Call (.Name "super" p0) [] [] p1) "__init__" p2) [e] [] pos) none pos'.line (envF F fI s.heap.objs.size) = pure false ∧
      eval (.Call (.Attribute (.Call (.Name "super" p0) [] [] p1) "__init__" p2) [e] [] pos) (envF F fI s.heap.objs.size) = (do
        let ov ← attributeBase (.Call (.Name "super" p0) [] [] p1) "__init__" (envF F fI s.heap.objs.size) (eval (.Call (.Name "super" p0) [] [] p1) (envF F fI s.heap.objs.size))
        standAt p2.atName
        let (f, first) ← holding [ov] (getMethod ov "__init__" pl)
        callWith pos f first (backTo pos (starEach [e] (envF F fI s.heap.objs.size))) []) ∧
      ∀ vs Q, sp vs H Q E → ∃ a ws, vs = .ref a :: ws ∧ H a = some (exo a C none) ∧ (tCons te tNil (startF N vs [none]) H fun vs H1 => vs.length = 1 ∧ H1 = H) ∧ t { nx := fun _ H' => Q .non H', rt := Q } (startF N vs [none]) H) :
    FnOk P w K mg base CXX (k + 1) fI fd ps sp := by
  obtain ⟨oc, od, dV, kV, doc, pm, an, ct, osl, rfl, lk, hcd⟩ := I.ex
  obtain ⟨ocl, ocld, ocsl, hcell⟩ := S.cell
  refine ⟨len, fun A outer s H args us vs Q E hr e0 hbind r hsp => ?_⟩
  have hl := len _ _ _ _ hsp
  have KX : K.In s.heap := e0.mod.kin.keeps fun b o e => (e0.bs b o e).1
  have lim : s.heap.NoLimit := e0.mod.nolimit.keeps fun b o e => (e0.bs b o e).1
  have CA : CellsAt F.cl ["__class__"] [none] s.heap H := by rw [hcl]; exact cells_cc (H := H) (KX _ _ hcell) (e0.bs _ _ (e0.mod.kin _ _ hcell)).2
  refine codeAny_call_function hr.depth (KX _ _ lk) rfl SC.co SC.gen rfl (PySem.W.codeRec_of KX hcd) (hbind _ _ _ _ ?_)
  refine wpAny_newFunctionEnv SC.nocell (fun ⟨n, _⟩ hy => SC.par n (List.of_mem_zip hy).1) (fun h₁ hns hsb => ⟨lim.fresh _ hsb, ?_⟩) SC.kind
  have kp : ∀ b o, s.heap.get? b = some o → h₁.get? b = some o := fun b o e => hsb.extBut b o (Nat.ne_of_lt (Heap.lt_size e)) (Heap.get?_push_of_some _ e)
  have I0 := inv_startN (CX := CXX) (E := E) (tk := s.toks + (ps.zip us).length) (f := fI) SC hr.hd e0 hl r CA hns kp
  obtain ⟨te, t, pl, hpe, hpt, h1, h2, h3, h4, h5⟩ := hb A outer s H E
  obtain ⟨a, ws, rfl, ea, ha, ht⟩ := h5 vs Q hsp
  show codeAny (model P w) A (.func F.body (envF F fI s.heap.objs.size)) _ _
  refine ks_codeAny_funcAt ?_
  have hps2 : N[0]? = some ar.arg := by
    have q := SC.pre
    have hl0 : 0 < ps.length := by
      rcases ps with _ | ⟨p, ps⟩
      · cases hps
      · simp
    have q2 : (N.take (ps.length + (["__class__"] : List Str).length))[0]? = (ps ++ (["__class__"] : List Str))[0]? := by rw [q]
    rw [List.getElem?_take_of_lt (by omega), List.getElem?_append_left hl0] at q2
    rw [q2, hps]
  have hx : execs F.body (envF F fI s.heap.objs.size) = execs (.Expr (.Call (.Attribute (.Call (.Name "super" p0) [] [] p1) "__init__" p2) [e] [] pos) pos' :: rest) (envF F fI s.heap.objs.size) := by rw [hbd]
  rw [hx]
  have hlk : (envF F fI s.heap.objs.size).cells.lookup ("__class__" : Str) = some cc := by
    show F.cl.lookup ("__class__" : Str) = some cc
    rw [hcl]
    rfl
  refine ks_wpAt_execs_cons (ks_wpAt_mono (super_init (X := ncx CXX P w K mg base N F fI A outer s H E) (body := F.body) (cc := cc) S T lk har hks hkc hlk rfl rfl hps2 (SC.par _ (List.mem_of_getElem? hps)) rfl I0 ea hpe ha h1 h2 h3 pl h4) (fun fl s' hfl => ?_) fun _ _ z => z)
  obtain ⟨rfl, J⟩ := hfl
  refine PySem.wpAt_of_wpAny (wpAny_mono (hpt.run [] s' _ H _ J ht) (fun fl s2 hs => ?_) fun e s' hs => hs)
  have fin : ∀ {σ' : L2.St} {H' : Hp} {v : V} {u : Value}, Inv (ncx CXX P w K mg base N F fI A outer s H E) [] σ' H' s2 → L2.RelV v u → Q v H' → CE outer P w H s Q u s2 :=
    fun {σ' H' v u} J rv q => ⟨v, H', J.os, J.bare, J.base, J.hok, rv, q⟩
  cases fl with
  | ret u =>
    obtain ⟨v, σ', H', J, rv, q⟩ := hs
    exact fin J rv q
  | next =>
    obtain ⟨σ', H', J, q⟩ := hs
    exact fin (v := V.non) (u := Value.none) J rfl q
  | brk =>
    obtain ⟨_, _, _, q⟩ := hs
    exact False.elim q
  | cont =>
    obtain ⟨_, _, _, q⟩ := hs
    exact False.elim q

def flds {α : Type} (fns : List Str) (vs : List α) : List (Str × α) := (fns.zip vs).reverse
/-- what an own exception's __init__ does: it lays the dict with the fields -/
def spI (C : Addr) (fns : List Str) : Sp := fun vs H Q _ => ∃ a ws, vs = .ref a :: ws ∧ ws.length = fns.length ∧ H a = some (exo a C none) ∧ ∀ dx, H dx = none → dx ≠ a → Q .non (upd (upd H dx (exd dx (flds fns ws))) a (exo a C (some dx)))
/-- the look of super().__init__(e) in the text -/
def SupLook (F : NF) (fI : Addr) (e : Expr) (p0 p1 p2 pos pos' : Pos) : Prop := ∀ L : Addr, ∃ pl, starEach [e] (envF F fI L) = (false, eval e (envF F fI L)) :: starEach [] (envF F fI L) ∧ interactive (envF F fI L) = false ∧
  swapsWith (.Call (.Attribute (.Call (.Name "super" p0) [] [] p1) "__init__" p2) [e] [] pos) none pos'.line (envF F fI L) = pure false ∧
  eval (.Call (.Attribute (.Call (.Name "super" p0) [] [] p1) "__init__" p2) [e] [] pos) (envF F fI L) = (do
    let ov ← attributeBase (.Call (.Name "super" p0) [] [] p1) "__init__" (envF F fI L) (eval (.Call (.Name "super" p0) [] [] p1) (envF F fI L))
    standAt p2.atName
    let (f, first) ← holding [ov] (getMethod ov "__init__" pl)
    callWith pos f first (backTo pos (starEach [e] (envF F fI L))) [])
/-- what is handed to super().__init__: its value does not matter -/
def SupArg (CXX : CXT) (P : Program) (w : World) (K : PySem.W.Frag) (mg : Str → Option Value) (base : Heap) (N : List Str) (F : NF) (fI C : Addr) (e : Expr) : Prop :=
  ∀ (A : Around) (outer : List Env) (s : Shared) (H : Hp) (E : XK), ∃ te, PE (ncx CXX P w K mg base N F fI A outer s H E) e te ∧ ∀ a ws, H a = some (exo a C none) → tCons te tNil (startF N (.ref a :: ws) [none]) H fun vs H1 => vs.length = 1 ∧ H1 = H
theorem supArg_str {CXX : CXT} {N : List Str} {F : NF} {fI C : Addr} {x : Str} {j : Nat} {p : Pos} : SupArg CXX P w K mg base N F fI C (.Constant (.str x) j p) := fun A outer s H E => ⟨_, pe_str, fun a ws _ => ⟨rfl, rfl⟩⟩
theorem supArg_name {CXX : CXT} {N : List Str} {F : NF} {fI C : Addr} {n0 nm : Str} {p p1 p2 : Pos} (T : NmC K C nm) (hN : N[0]? = some n0) (hv : Vis F.scope n0) (hd : (n0 == ("__debug__" : Str)) = false) (hcd : (n0 == ("__classdict__" : Str)) = false)
    (hb : ∀ L, attributeBase (.Name n0 p) "__class__" (envF F fI L) (eval (.Name n0 p) (envF F fI L)) = eval (.Name n0 p) (envF F fI L))
    (hb2 : ∀ L, attributeBase (.Attribute (.Name n0 p) "__class__" p1) "__name__" (envF F fI L) (eval (.Attribute (.Name n0 p) "__class__" p1) (envF F fI L)) = eval (.Attribute (.Name n0 p) "__class__" p1) (envF F fI L)) :
    SupArg CXX P w K mg base N F fI C (.Attribute (.Attribute (.Name n0 p) "__class__" p1) "__name__" p2) := fun A outer s H E =>
  ⟨_, pe_clsName (pe_var hN hv hd hcd) (hb _) (hb2 _), fun a ws ea => ⟨.ref a, rfl, a, C, nm, rfl, ea, T, rfl, rfl⟩⟩
section
variable {CXX : CXT} {st : Stmt} {F : NF} {fI C cc : Addr} {fd : FuncData} {k : Nat} {e : Expr} {p0 p1 p2 pos pos' : Pos} {n0 n1 n2 f1 f2 : Str} {q0 q1 q2 q3 pa pb pc pd : Pos} {ar : Arg}
theorem ini1 (I : InK K st F fI fd) (T : OexC K C) (S : SupK P K mg C fI cc F.c) (hcl : F.cl = [(("__class__" : Str), cc)]) (SC : NScope [n0, n1, "__class__"] [n0, n1] ["__class__"] F.scope)
    (hbd : F.body = [.Expr (.Call (.Attribute (.Call (.Name "super" p0) [] [] p1) "__init__" p2) [e] [] pos) pos', .Assign [.Attribute (.Name n0 q0) f1 pa] (.Name n1 q1) pb])
    (har : (F.params.posonlyargs ++ F.params.args).head? = some ar) (hps : ar.arg = n0) (hks : F.scope.names.lookup ("super" : Str) = some .globalImplicit) (hkc : F.scope.names.lookup ("__class__" : Str) = some .free)
    (hE : SupArg CXX P w K mg base [n0, n1, "__class__"] F fI C e) (hL : SupLook F fI e p0 p1 p2 pos pos') (hno : PySem.W.findIn K (.ref C) f1 = some none)
    (hd : ∀ n ∈ [n0, n1], (n == ("__debug__" : Str)) = false ∧ (n == ("__classdict__" : Str)) = false) (hsw : ∀ L, swapsWith (.Name n1 q1) (some (.Attribute (.Name n0 q0) f1 pa)) pb.line (envF F fI L) = pure false) :
    FnOk P w K mg base CXX (k + 1) fI fd [n0, n1] (spI C [f1]) := by
  refine init_ok I T S hcl SC hbd har (by rw [hps]; rfl) hks hkc (fun vs H Q E => ?_) fun A outer s H E => ?_
  · rintro ⟨a, ws, rfl, hl, _⟩
    simp only [List.length_cons, List.length_nil] at hl ⊢
    omega
  · obtain ⟨te, hpe, hte⟩ := hE A outer s H E
    obtain ⟨pl, l1, l2, l3, l4⟩ := hL s.heap.objs.size
    have v0 : Vis F.scope n0 := .inl (SC.par n0 (by simp))
    have v1 : Vis F.scope n1 := .inl (SC.par n1 (by simp))
    refine ⟨te, _, pl, hpe, pss_one (ps_ost (pe_var (i := 0) rfl v0 (hd n0 (by simp)).1 (hd n0 (by simp)).2) (pe_var (i := 1) rfl v1 (hd n1 (by simp)).1 (hd n1 (by simp)).2) (hsw _)), l1, l2, l3, l4, fun vs Q => ?_⟩
    rintro ⟨a, ws, rfl, hl, ea, q⟩
    match ws, hl with
    | [y], _ =>
      refine ⟨a, [y], rfl, ea, hte a _ ea, ?_⟩
      exact ⟨y, rfl, .ref a, rfl, a, C, rfl, T, hno, .inl ⟨ea, fun dx h1 h2 => q dx h1 h2⟩⟩
theorem ini2 (I : InK K st F fI fd) (T : OexC K C) (S : SupK P K mg C fI cc F.c) (hcl : F.cl = [(("__class__" : Str), cc)]) (SC : NScope [n0, n1, n2, "__class__"] [n0, n1, n2] ["__class__"] F.scope)
    (hbd : F.body = [.Expr (.Call (.Attribute (.Call (.Name "super" p0) [] [] p1) "__init__" p2) [e] [] pos) pos', .Assign [.Attribute (.Name n0 q0) f1 pa] (.Name n1 q1) pb, .Assign [.Attribute (.Name n0 q2) f2 pc] (.Name n2 q3) pd])
    (har : (F.params.posonlyargs ++ F.params.args).head? = some ar) (hps : ar.arg = n0) (hks : F.scope.names.lookup ("super" : Str) = some .globalImplicit) (hkc : F.scope.names.lookup ("__class__" : Str) = some .free)
    (hE : SupArg CXX P w K mg base [n0, n1, n2, "__class__"] F fI C e) (hL : SupLook F fI e p0 p1 p2 pos pos') (hno : PySem.W.findIn K (.ref C) f1 = some none) (hno2 : PySem.W.findIn K (.ref C) f2 = some none)
    (hd : ∀ n ∈ [n0, n1, n2], (n == ("__debug__" : Str)) = false ∧ (n == ("__classdict__" : Str)) = false) (hsw : ∀ L, swapsWith (.Name n1 q1) (some (.Attribute (.Name n0 q0) f1 pa)) pb.line (envF F fI L) = pure false)
    (hsw2 : ∀ L, swapsWith (.Name n2 q3) (some (.Attribute (.Name n0 q2) f2 pc)) pd.line (envF F fI L) = pure false) :
    FnOk P w K mg base CXX (k + 1) fI fd [n0, n1, n2] (spI C [f1, f2]) := by
  refine init_ok I T S hcl SC hbd har (by rw [hps]; rfl) hks hkc (fun vs H Q E => ?_) fun A outer s H E => ?_
  · rintro ⟨a, ws, rfl, hl, _⟩
    simp only [List.length_cons, List.length_nil] at hl ⊢
    omega
  · obtain ⟨te, hpe, hte⟩ := hE A outer s H E
    obtain ⟨pl, l1, l2, l3, l4⟩ := hL s.heap.objs.size
    have v0 : Vis F.scope n0 := .inl (SC.par n0 (by simp))
    have v1 : Vis F.scope n1 := .inl (SC.par n1 (by simp))
    have v2 : Vis F.scope n2 := .inl (SC.par n2 (by simp))
    refine ⟨te, _, pl, hpe, pss_cons (ps_ost (pe_var (i := 0) rfl v0 (hd n0 (by simp)).1 (hd n0 (by simp)).2) (pe_var (i := 1) rfl v1 (hd n1 (by simp)).1 (hd n1 (by simp)).2) (hsw _))
      (pss_one (ps_ost (pe_var (i := 0) rfl v0 (hd n0 (by simp)).1 (hd n0 (by simp)).2) (pe_var (i := 2) rfl v2 (hd n2 (by simp)).1 (hd n2 (by simp)).2) (hsw2 _))), l1, l2, l3, l4, fun vs Q => ?_⟩
    rintro ⟨a, ws, rfl, hl, ea, q⟩
    match ws, hl with
    | [y, z], _ =>
      refine ⟨a, [y, z], rfl, ea, hte a _ ea, ?_⟩
      refine ⟨y, rfl, .ref a, rfl, a, C, rfl, T, hno, .inl ⟨ea, fun dx h1 h2 => ?_⟩⟩
      refine ⟨z, rfl, .ref a, rfl, a, C, rfl, T, hno2, .inr ⟨dx, [(f1, y)], upd_same, ?_, by simp, ?_⟩⟩
      · rw [upd_ne h2, upd_same]
      · have eq : upd (upd (upd H dx (exd dx [(f1, y)])) a (exo a C (some dx))) dx (exd dx ((f2, z) :: [(f1, y)])) = upd (upd H dx (exd dx (flds [f1, f2] [y, z]))) a (exo a C (some dx)) := by
          funext b
          by_cases hb : b = dx
          · subst hb
            rw [upd_same, upd_ne h2, upd_same]
            rfl
          · rw [upd_ne hb]
            by_cases ha : b = a
            · subst ha
              rw [upd_same, upd_same]
            · rw [upd_ne ha, upd_ne ha, upd_ne hb, upd_ne hb]
        show Q .non (upd (upd (upd H dx (exd dx [(f1, y)])) a (exo a C (some dx))) dx (exd dx ((f2, z) :: [(f1, y)])))
        rw [eq]
        exact q dx h1 h2
end
end
end RL
set_option Elab.async false
set_option linter.all false
set_option maxRecDepth 100000
set_option maxHeartbeats 4000000
/-! R12: own exceptions: raised, caught and kept, asked, read. -/
namespace RL
open PySem PySem.Spec PyProof.Rows L2 RZ NdefX

section
variable {K : PySem.W.Frag} {A : Hp}
theorem DrFs.append : ∀ {vs ws : List (Str × V)} {ds es : List (Str × D)}, DrFs K A vs ds → DrFs K A ws es → DrFs K A (vs ++ ws) (ds ++ es)
  | _, _, _, _, .nil, h => h
  | _, _, _, _, .cons a b, h => .cons a (DrFs.append b h)
theorem flds_dr : ∀ {fns : List Str} {vs : List V} {ds : List D}, DrAll K A vs ds → DrFs K A (flds fns vs) (flds fns ds)
  | [], _, _, _ => .nil
  | _ :: _, _, _, .nil => .nil
  | f :: fns, _, _, .cons a b => by
    unfold flds
    rw [List.zip_cons_cons, List.zip_cons_cons, List.reverse_cons, List.reverse_cons]
    exact DrFs.append (flds_dr b) (.cons a .nil)
end
/-- the exception class x of the module, its fields in the order of its parameters -/
structure ExK (P : Program) (w : World) (K : PySem.W.Frag) (mg : Str → Option Value) (base : Heap) (k : Nat) (x : Str) (C : Addr) (fns : List Str) : Prop where
  ex : ∃ (fI : Addr) (fd : FuncData) (ps : List Str), OexC K C ∧ PySem.W.findIn K (.ref C) "__init__" = some (some (.ref fI)) ∧ PySem.W.typeIn K (.ref fI) = some (.type "function") ∧ FnOk P w K mg base (L2.CX P w) k fI fd ps (spI C fns) ∧ L2.Binds K fd ps [] ∧ mg x = some (.ref C)
def sRaise (C : Addr) (fns : List Str) (s : DA) : DS := fun δ Dd => s δ (fun ds δ1 => ds.length = fns.length ∧ ds.length ≤ 900 ∧ Dd.ex ⟨C, flds fns ds⟩ δ1) Dd.ex
section
variable {X : Cx} {W : WX} {K : PySem.W.Frag} {e : Expr} {es : List Expr} {t : TA} {φs : DA} {p pos pos' : Pos}
theorem put_gone {H : Hp} {a dx : Addr} {fs : List (Str × V)} {o1 o2 : HO} {o3 o4 : HO} (ha : H a = none) (ne : dx ≠ a) : upd (L2.del (upd (upd (upd H a o1) dx o2) a o3) a) dx o4 = upd H dx o4 := by
  funext b
  by_cases hb : b = dx
  · subst hb
    rw [upd_same, upd_same]
  · rw [upd_ne hb, upd_ne hb]
    by_cases hba : b = a
    · subst hba
      rw [L2.del_same, ha]
    · rw [L2.del_ne hba, upd_ne hba, upd_ne hb, upd_ne hba]
theorem ds_raise {k : Nat} {x : Str} {C : Addr} {fns : List Str} (G : ExK X.prog X.w X.K X.mg X.base k x C fns) (hr : Room (k + 1) X.A) (tk : Takes X W) (ha : DAr X W (e :: es) t φs) (hc : X.calm = true := by rfl) (hg : Gl X x := by rfl)
    (hdb : (x == ("__debug__" : Str)) = false := by decide) (he : starEach (e :: es) X.env = (false, eval e X.env) :: starEach es X.env := by rfl) (hpl : (backTo pos (starEach es X.env)).any (·.1) = false := by rfl) :
    DSt X W (.Raise (some (.Call (.Name x p) (e :: es) [] pos)) none pos') (fun _ σ H => tMkO C (spI C fns) [] t σ H fun cls d H' => W cls d σ H') (sRaise C fns φs) := by
  obtain ⟨fI, fd, ps, T, iC, tI, F1, hb, hm⟩ := G.ex
  have never : Passes (L2.CX X.prog X.w) X (fun _ _ _ => False) := fun pins σ H s e s' _ h => by
    obtain ⟨_, _, _, _, _, _, _, _, _, _, _, _, z⟩ := h
    exact z.elim
  refine ⟨ps_raise hc tk (pmk_oex T iC tI F1 hr hb .nil never hg hm ha.pa hdb he hpl), fun g σ δ A H D Dd R h L => ?_⟩
  refine ha.lk g σ δ A H _ _ _ R h (fun vs ds δ1 A1 H1 R1 s1 d1 h1 => ?_) (L.ex σ)
  obtain ⟨hl, hz, q⟩ := h1
  have hlen := d1.length
  refine ⟨by omega, fun a hna => ⟨a, vs ++ [], rfl, by rw [List.append_nil]; omega, upd_same, fun dx hdx ne => ⟨rfl, dx, flds fns (vs ++ []), upd_same, ?_, ?_, ?_⟩⟩⟩
  · rw [upd_ne ne, upd_same]
  · rw [upd_ne ne] at hdx
    exact hdx
  · rw [upd_ne ne] at hdx
    rw [List.append_nil]
    rw [show upd (L2.del (upd (upd (upd H1 a (exo a C none)) dx (exd dx (flds fns vs))) a (exo a C (some dx))) a) dx (.xd (flds fns vs)) = upd H1 dx (.xd (flds fns vs)) from put_gone (fs := []) hna ne]
    have sp := upd_put (o := .xd (flds fns vs)) (R1.free hdx).1
    exact L.ex σ ⟨C, flds fns ds⟩ δ1 (.ref C) (some dx) _ _ (R1.put hdx) ⟨rfl, dx, flds fns vs, rfl, upd_same, (flds_dr d1).same sp⟩ q
end

/-! ### caught and kept -/
section
variable {X : Cx} {pins : List (Addr × Obj)} {σ : L2.St} {H : Hp} {s : Shared} {a : Addr}
theorem exO_ok {P : Program} {w : World} {H : Hp} {h : Heap} {a C d : Addr} {oe : Obj} {vs : Array Value} (e : h.get? a = some oe) (hc : oe.cls = .ref C) (hd : oe.dict = some d) (hv : oe.data = .fields vs) : ObjOk P w H h a (ExO a C d) :=
  ⟨⟨oe, vs, e, hc, hd, hv⟩, ⟨oe, e⟩, fun _ _ ⟨o, v, q, r⟩ k => ⟨o, v, k o q, r⟩⟩
theorem hok_track {P : Program} {w : World} {H : Hp} {h : Heap} {a : Addr} {o : HO} (x : HOk P w H h) (hn : H a = none) (new : ObjOk P w (upd H a o) h a o) : HOk P w (upd H a o) h := fun b u e => by
  by_cases hb : b = a
  · subst hb
    rw [upd_same] at e
    cases e
    exact new
  · rw [upd_ne hb] at e
    exact (x b u e).stay (fun c v _ q => q) (fun c q => by rw [upd_ne (ne_of_none q hn)]; exact q) fun c xs q => by rw [upd_ne (ne_of_none q hn)]; exact q
theorem Inv.track {o : HO} {oe : Obj} {vs : Array Value} (I : Inv X pins σ H s) (h0 : X.s_0.heap.get? a = none) (hn : H a = none) (ho : s.heap.get? a = some oe) (hv : oe.data = .fields vs) (nL : a ≠ X.env.locals) (hp : ∀ p ∈ X.pn ++ pins, p.1 ≠ a) (new : ObjOk X.prog X.w (upd H a o) s.heap a o) : Inv X pins σ (upd H a o) s := by
  have n0 : ∀ b u, X.s_0.heap.get? b = some u → b ≠ a := fun b u e z => by rw [z, h0] at e; cases e
  refine ⟨I.ok, I.os, I.bare, ⟨I.base.keep, I.base.slot, fun b u e n hx => ?_, I.base.there, fun b xs e => ?_, fun b u v e => ?_, fun b ps e => ?_⟩, I.loc, I.cell, ?_, fun y c e => ?_, fun p hpp => ?_, hok_track I.hok hn new, I.len⟩
  · rw [upd_ne (n0 b u e)]; exact I.base.free b u e n hx
  · have q := I.base.tups b xs e
    rw [upd_ne (ne_of_none q hn)]; exact q
  · have q := I.base.frzs b u v e
    rw [upd_ne (ne_of_none q hn)]; exact q
  · obtain ⟨ms, q⟩ := I.base.tbls b ps e
    exact ⟨ms, by rw [upd_ne (ne_of_none q hn)]; exact q⟩
  · rw [upd_ne (Ne.symm nL)]; exact I.free
  · have hc : c ≠ a := fun z => by
      obtain ⟨v, o', e1, e2⟩ := I.cell y c e
      rw [z, ho] at e1
      cases e1
      rw [hv] at e2
      cases e2
    rw [upd_ne hc]; exact I.freeC y c e
  · obtain ⟨e, n, r⟩ := I.pin p hpp
    exact ⟨e, by rw [upd_ne (hp p hpp)]; exact n, r⟩
theorem Inv.unsuiteK {q : Addr × Obj} {pn' : List (Addr × Obj)} (I : Inv (X.suite a (q :: (X.pn ++ pins))) pn' σ H s) (ok : X.Ok) : Inv X (q :: pins) σ H s :=
  ⟨ok, I.os, I.bare, I.base, I.loc, I.cell, I.free, I.freeC, fun p hp => I.pin p (List.mem_append_left _ (by
    rcases List.mem_append.mp hp with h | h
    · exact List.mem_cons_of_mem _ (List.mem_append_left _ h)
    · rcases List.mem_cons.mp h with h | h
      · rw [h]; exact List.mem_cons_self
      · exact List.mem_cons_of_mem _ (List.mem_append_right _ h))), I.hok, I.len⟩
end
/-- what 'except c as n: y = n' wishes; slot i is n's, slot j is y's -/
def wKeep (K : PySem.W.Frag) (c : Value) (i j : Nat) (Wout : WX) (D : Ends) : WX := fun cls d σ H =>
  ∃ b, PySem.W.exmOne K cls c = some b ∧ (b = true → ∃ C dd, cls = .ref C ∧ d = some dd ∧ ∀ a, H a = none → D.nx (((σ.set i (some (.ref a))).set j (some (.ref a))).set i none) (upd H a (ExO a C dd))) ∧ (b = false → Wout cls d σ H)
section
variable {X : Cx} {x n y : Str} {c : Value} {i j : Nat} {body : List Stmt} {st : Stmt} {np pos pos' : Pos} {tb : WX → TS} {Wout : WX}
theorem ps_try_keep (hs : X.stack = X.env :: X.outer) (hf : X.env.frame = some X.env.locals) (hex : X.ex = []) (hN : X.N.Nodup) (hi : X.N[i]? = some n) (hln : X.env.kindOf n = some .local) (hc : Names X x c) (tk : Takes X Wout)
    (hb : ∀ (W : WX) (pn : List (Addr × Obj)) (xe : Value → Shared → Prop), Takes (X.tr pn xe) W → PassesOwn (model X.prog X.w) X.A X.env xe → PSs (X.tr pn xe) body (tb W))
    (hsu : ∀ (a : Addr) (oe : Obj) (pn : List (Addr × Obj)), PS (X.suite a ((a, oe) :: pn)) st (tAsg (tVar i) (gName j))) :
    PS X (.Try body [.ExceptHandler (some (.Name x np)) (some n) [st] pos'] [] [] pos) (fun D σ H => tb (wKeep X.K c i j Wout D) D σ H) := by
  refine ⟨fun pins s σ H D I h => ?_⟩
  have ok := I.ok
  have hfr : X.A.frames = some (X.env :: X.outer) := by rw [ok.frames, hs]
  have hloc : Loc X.env.scope n := .inl hln
  refine wpAny_Try_except ?_
  refine wpAny_mono ((hb (wKeep X.K c i j Wout D) (X.pn ++ pins) (fun e s₁ => wpAny (model X.prog X.w) X.A (noteFrame e X.env) (fun _ s₂ => wpAny (model X.prog X.w) X.A (setFlight e none) (fun _ s₃ =>
    wpAny (model X.prog X.w) X.A (handleBy e X.env [.ExceptHandler (some (.Name x np)) (some n) [st] pos']) (SP X pins D) X.xe s₃) X.xe s₂) X.xe s₁) (fun u s' xx => ?_) PassesOwn.looking).run [] s σ H D (I.toTry _) h) (fun f s1 hsp => ?_) (fun e s1 he => he)
  · obtain ⟨a, B, sI, pins', σ', H', cls, d, rfl, J', nb, up, sky, na, os, ag, b, hb1, hyes, hno⟩ := xx
    have J : Inv X pins σ' H' sI := J'.ofTry ok
    have sky' : Sky B (X.env :: X.outer) a (Zc cls d) X.env.locals s'.heap := by rw [← hs]; exact sky
    show wpAny (model X.prog X.w) X.A (noteFrame (.ref a) X.env) _ _ _
    refine Sky.land Zc.steady hfr hf sky' fun h3 fl3 up3 => ?_
    have J3 : Inv X pins σ' H' { s' with heap := h3 } := J.landed nb fl3.1 (up.trans up3) os ag
    obtain ⟨oe3, vs3, he3, hz3, hd3⟩ := fl3.there
    have notFr : ∀ {h : Heap} {o : Obj} {vs : Array Value}, h.FunFrames B (X.env :: X.outer) → h.get? a = some o → o.data = .fields vs → a ∉ frs (X.env :: X.outer) := fun {h o vs} ff e dd hm => by
      obtain ⟨_, o', e', hnf⟩ := ff.mem hm
      rw [e] at e'; cases e'
      exact hnf _ dd
    have nfr := notFr fl3.2.2.1 he3 hd3
    have nL : a ≠ X.env.locals := fun z => nfr (List.mem_filterMap.mpr ⟨X.env, List.mem_cons_self, by rw [hf, z]⟩)
    have nF : a ∉ X.fs := fun hm => by
      obtain ⟨e, he, q⟩ := List.mem_filterMap.mp hm
      exact nfr (List.mem_filterMap.mpr ⟨e, List.mem_cons_of_mem _ he, q⟩)
    have nI : sI.heap.get? a = none := by
      cases e : sI.heap.get? a with
      | none => rfl
      | some o =>
        have q := nb a o e (by rw [hs]; exact nfr)
        rw [fl3.2.1] at q
        cases q
    have n0 : X.s_0.heap.get? a = none := by
      cases e : X.s_0.heap.get? a with
      | none => rfl
      | some o =>
        obtain ⟨o', q⟩ := J.base.there a o e (by rw [hex]; exact fun z => nomatch z)
        rw [nI] at q
        cases q
    have np' : ∀ p ∈ X.pn ++ pins, p.1 ≠ a := fun p hp z => by
      have q := (J.pin p hp).1
      rw [z, nI] at q
      cases q
    have S3 := J3.suite he3 hd3 na nL nF
    refine wpAny_handleBy_cons (codeAny_handlers_test ?_) (by intro q; cases q)
    have LT : PySem.W.Looks (model X.prog X.w) h3 (typeOf (.ref a)) cls := fun A Q E s k q => wpAny_typeOf_ref (k _ _ he3) (by rw [hz3.1]; exact q)
    have LM := PySem.W.exm_one (M := model X.prog X.w) (J3.kIn) LT hb1
    have test : ∀ {Q : Value → Shared → Prop} {E : Value → Shared → Prop}, Q c { s' with heap := h3 } → wpAny (model X.prog X.w) (X.A.mark (some (.ref a))) (eval (.Name x np) X.env) Q E { s' with heap := h3 } := fun {Q E} q => by
      obtain ⟨hg, hdbg, hm | ⟨hm, hv, hnn⟩⟩ := hc
      · exact ld_glob (X := X.suite a ((a, oe3) :: (X.pn ++ pins))) S3 hg hm q hdbg
      · exact ld_blt (X := X.suite a ((a, oe3) :: (X.pn ++ pins))) S3 hg hm hv q hnn hdbg
    refine test (LM.here ?_)
    cases b with
    | true =>
      refine codeAny_handlers_suite_as ?_
      refine HandSPX.lands_againZ fl3 fun h4 fl4 up4 => ?_
      have J4 : Inv X pins σ' H' { s' with heap := h4 } := J.landed nb fl4.1 ((up.trans up3).trans up4) os ag
      obtain ⟨oe4, vs4, he4, hz4, hd4⟩ := fl4.there
      have S4 := J4.suite he4 hd4 na nL nF
      obtain ⟨C, dd, rfl, rfl, hyes2⟩ := hyes rfl
      refine store_ok (X := X.suite a ((a, oe4) :: (X.pn ++ pins))) (v := .ref a) S4 hN hi hloc rfl (fun s5 S5 => ?_) (.inr hln)
      have hil : i < σ'.length := by
        rw [J4.len]
        exact (List.getElem?_eq_some_iff.mp hi).1
      have hrun : tAsg (tVar i) (gName j) { nx := fun σ6 H6 => H6 = H' ∧ σ6 = (σ'.set i (some (.ref a))).set j (some (.ref a)), rt := fun _ _ => False } (σ'.set i (some (.ref a))) H' :=
        ⟨.ref a, by rw [List.getElem?_set_self hil], rfl, rfl⟩
      refine wpAny_mono ((pss_one (hsu a oe4 (X.pn ++ pins))).run [] s5 _ H' _ S5 hrun) (fun f s6 hsp => ?_) (fun _ _ z => False.elim z)
      cases f with
      | next =>
        obtain ⟨σ6, H6, S6, rfl, rfl⟩ := hsp
        refine gone_ok (Inv.unsuiteK S6 ok) hN hi hln fun s7 J7 => ⟨_, _, ?_, hyes2 a na⟩
        have q7 := J7.pin (a, oe4) (List.mem_append_right _ List.mem_cons_self)
        refine Inv.track (oe := oe4) (J7.pins_of fun p hp => J7.pin p (List.mem_append_right _ (List.mem_cons_of_mem _ hp))) n0 na q7.1 hd4 nL np' (exO_ok q7.1 hz4.1 hz4.2 hd4)
      | brk =>
        obtain ⟨_, _, _, z⟩ := hsp
        exact z.elim
      | cont =>
        obtain ⟨_, _, _, z⟩ := hsp
        exact z.elim
      | ret u =>
        obtain ⟨_, _, _, _, _, z⟩ := hsp
        exact z.elim
    | false =>
      show wpAny _ X.A (handleBy (.ref a) X.env []) _ _ _
      refine wpAny_handleBy_nil ?_
      obtain ⟨k1, k2, k3, oe, vs, T, oT, ts', he, hz, hd, h1, hr⟩ := id fl3
      unfold PySem.passOn
      refine wpAny_bind (wpAny_field he hd h1 ?_)
      rw [if_neg (show ¬ ((Value.ref T == Value.none) = true) from by simp)]
      have fin : wpAny (model X.prog X.w) X.A (setFlight (.ref a) X.env.frame) (fun _ s4 => wpAny (model X.prog X.w) X.A (throw (.ref a) : Sem Flow) (SP X pins D) X.xe s4) X.xe { s' with heap := h3 } := by
        rw [hf]
        refine HandSPX.setFlight_upZ fl3 fun h4 hh4 up4 => wpAny_throw (tk _ _ ?_)
        exact ⟨a, B, sI, pins, σ', H', cls, d, rfl, J, nb, (up.trans up3).trans up4, .inr (.inr (by rw [hs]; exact hh4)), na, os, ag, hno rfl⟩
      first
        | exact wpAny_bind (wpAny_pure (wpAny_bind fin))
        | exact wpAny_bind fin
  · cases f with
    | next =>
      obtain ⟨σ', H', J', q⟩ := hsp
      exact wpAny_execs_nil ⟨σ', H', J'.ofTry ok, q⟩
    | brk =>
      obtain ⟨σ', H', J', q⟩ := hsp
      exact ⟨σ', H', J'.ofTry ok, q⟩
    | cont =>
      obtain ⟨σ', H', J', q⟩ := hsp
      exact ⟨σ', H', J'.ofTry ok, q⟩
    | ret u =>
      obtain ⟨v, σ', H', J', r, q⟩ := hsp
      exact ⟨v, σ', H', J'.ofTry ok, r, q⟩
end

section
open PySem.W PySem.Calls
variable {prog : Program} {w : World} {A : Around} {E : Value → Shared → Prop} {s : Shared} {K : Frag} {x D : Addr} {ox : Obj} {od : Option Obj}
theorem findObj_data' {C : Addr} {name : Str} {a g : Value} {od : Option Obj} (hc : (clsIn K C).isSome = true) (ha : findIn K (.ref C) name = some (some a)) (hg : specialIn K a "__get__" = some (some g)) (ht : takesIn K a = some true) : findObj K C od name = some (.bind g a) := by
  obtain ⟨cd, hc⟩ := Option.isSome_iff_exists.mp hc
  unfold findObj
  rw [hc, Option.bind_some, ha, Option.bind_some]
  simp [hg, ht]
theorem excC_find (T : ExcC K D) (od : Option Obj) : findObj K D od "__class__" = some (.bind (.builtin "getset_descriptor.__get__") (.builtin "object.__class__")) :=
  findObj_data' (by obtain ⟨cd, hc, _⟩ := any_some T.hd; rw [hc]; rfl) T.ha T.hn T.ht
/-- x.__class__, if there is one, of an own exception -/
theorem exc_class? {Q : Option Value → Shared → Prop} (T : ExcC K D) (X : K.In s.heap) (I : InstAt s.heap x ox D od) (h : Q (some (.ref D)) { s with toks := s.toks + 1 }) : wpAny (model prog w) A (getAttr? (.ref x) "__class__") Q E s := by
  have hf := excC_find T od
  obtain ⟨hp, g, d, t, os⟩ := s
  have L0 := I.type (M := model prog w)
  have L1 := looks_findIn (M := model prog w) X T.hg
  have L2 := looks_findIn (M := model prog w) X T.hk
  have L3 := looks_find (M := model prog w) X I hf
  have sub : Looks (model prog w) hp (isInstance (.ref x) (.type "BaseException")) true := L0.andThen (looks_subIn X T.hs)
  have hx0 : (false && onTheHeap (Value.builtin "BaseException.__getattribute__")) = false := rfl
  have hx2 : (Value.builtin "BaseException.__getattribute__" == Value.builtin "object.__getattribute__") = false := by decide +kernel
  have hx1 : (onTheHeap (Value.ref D) && Value.builtin "BaseException.__getattribute__" == Value.builtin "object.__getattribute__") = false := by rw [hx2]; rfl
  unfold getAttr? getAttrBy? getAttrBy
  refine wpAny_bind (wpAny_mkText (wpAny_bind (wpAny_attempt (wpAny_holding (wpAny_bind (L0.at (wpAny_bind (L1.at ?_))))))))
  show wpAny _ _ (if (onTheHeap (Value.ref D) && Value.builtin "BaseException.__getattribute__" == Value.builtin "object.__getattribute__") = true then _ else _) _ _ _
  rw [hx1, if_neg Bool.false_ne_true]
  unfold getAttrByItsOwn hookBefore
  refine wpAny_bind ?_
  rw [if_pos (show onTheHeap (Value.ref D) = true from rfl)]
  refine L2.at ?_
  refine wpAny_bind (wpAny_attempt (wpAny_holding ?_))
  unfold callGetattribute
  rw [hx0, if_neg Bool.false_ne_true]
  unfold boundAndCalled
  rw [PySem.F.excAttr_ValueError.ga.bind (.ref x)]
  refine wpAny_bind (wpAny_pure ?_)
  show wpAny _ _ (call (.builtin "BaseException.__getattribute__") [.ref x, .str "__class__" t]) _ _ _
  refine wpAny_call (codeAny_call_builtin PySem.F.excAttr_ValueError.ga.plain PySem.F.entry_bexc_ga ?_)
  refine @check_slot (model prog w) _ _ ⟨hp, g, d, t + 1, os⟩ "BaseException.__getattribute__" "BaseException" "__getattribute__" (.ref x) [.str "__class__" t] [] _ (by decide +kernel) (by decide +kernel) sub (PySem.F.args_bexc_ga (.ref x) (.str "__class__" t)) ?_
  unfold Builtin.«object.__getattribute__»
  refine wpAny_bind (wpAny_of_eq (a := ((Value.ref x : Value), [Value.str "__class__" t])) (by first | rfl | (simp only [slotArgs]; rfl)) ?_)
  refine wpAny_bind (wpAny_pure (wpAny_bind (L0.at (wpAny_bind (L3.at ?_)))))
  show wpAny _ _ (holding [Value.builtin "object.__class__"] (call (.builtin "getset_descriptor.__get__") [.builtin "object.__class__", .ref x, .ref D]) >>= ret) _ _ _
  refine wpAny_bind (wpAny_holding (wpAny_call (class_get (s := ⟨hp, g, d, t + 1, os⟩) (ox := ox) (od := od) X I T.hm ?_)))
  refine wpAny_pure ?_
  show wpAny _ _ (handedOut (.ref D)) _ _ _
  rw [handedOut_of (v := .ref D) rfl]
  first
    | exact wpAny_pure (wpAny_pure h)
    | exact wpAny_pure h
    | exact wpAny_pure (wpAny_bind (wpAny_pure (wpAny_pure h)))
theorem kitx_exc (T : ExcC K D) : KitX K (.ref x) (.ref D) (fun h => ∃ ox od, InstAt h x ox D od) where
  ty := fun _ _ _ ⟨_, _, I⟩ => I.type
  it := fun _ _ X _ => by
    obtain ⟨cdD, hcD, _⟩ := any_some T.hd
    unfold clsIn at hcD
    split at hcD
    · rename_i c' d' cd' sl' ho
      intro A' Q' E' s' k q
      unfold isType loadHead
      exact wpAny_bind (wpAny_loadPart (k _ _ (X _ _ ho)) (wpAny_pure q))
    · cases hcD
  ne := fun h tp dd its n sl X htp => by
    obtain ⟨cdD, hcD, _⟩ := any_some T.hd
    refine Bool.eq_false_iff.mpr fun q => ?_
    have e : D = tp := Value.ref.inj (beq_iff_eq.mp q)
    subst e
    unfold clsIn at hcD
    split at hcD
    · rename_i c' d' cd' sl' ho
      have z := (X _ _ ho).symm.trans htp
      cases z
    · cases hcD
  ca := fun X ⟨_, _, I⟩ k => exc_class? T X I k
end

section
variable {X : Cx} {W : WX} {K : PySem.W.Frag} {a : Expr} {ta : TE} {φa : DM} {pos p p2 : Pos}
theorem exO_at {P : Program} {w : World} {H : Hp} {h : Heap} {a C d : Addr} {fs : List (Str × V)} (hok : HOk P w H h) (ha : H a = some (ExO a C d)) (hd : H d = some (.xd fs)) :
    ∃ (ox od : Obj) (mA : Str → Option Value), PySem.W.InstAt h a ox C (some od) ∧ (∀ f, RelO (fs.lookup f) (mA f)) ∧ ∀ f, PySem.W.lookIn f od = some (mA f) := by
  have x : ObjOk P w H h a (.ext fun h => ∃ (oe : Obj) (vs : Array Value), h.get? a = some oe ∧ oe.cls = .ref C ∧ oe.dict = some d ∧ oe.data = .fields vs) := hok a _ ha
  obtain ⟨oe, vs, h1, h2, h3, h4⟩ := x.1
  have y : ObjOk P w H h d (.xd fs) := hok d _ hd
  obtain ⟨mA, hns, hr⟩ := y
  obtain ⟨od, ho, hl⟩ := lookIn_ns hns
  exact ⟨oe, od, mA, ⟨h1, h2, by unfold PySem.W.notCls; rw [h4] <;> rfl, by rw [h3]; exact ho⟩, hr, hl⟩
/-- isinstance(x, c), x an own exception or what else -/
def TyE (K : PySem.W.Frag) (H : Hp) (x : V) (t : Value) : Prop := TyX K H x t ∨ ∃ a C d fs, x = .ref a ∧ H a = some (ExO a C d) ∧ H d = some (.xd fs) ∧ t = .ref C ∧ ExcC K C
def rIsiE (K : PySem.W.Frag) : List V → Hp → VK → Prop := fun xs H Q => ∃ (x c : V) (t u : Value) (b : Bool), xs = [x, c] ∧ ClsV c u ∧ TyE K H x t ∧ PySem.W.kitOne K t u = some b ∧ Q (.bl b) H
theorem call_isiE : CallR X (.builtin "isinstance") (rIsiE X.K) := by
  intro pins s σ H xs us Q I r h
  obtain ⟨x, c, t, u, b, rfl, k, ty, e, q⟩ := h
  obtain ⟨u1, u2, rfl, r1, r2⟩ := vals2 r
  have e2 := k.eq r2
  subst e2
  rcases ty with ty | ⟨a, C, d, fs, rfl, ea, ed, rfl, T⟩
  · obtain ⟨P, Z, p, hx⟩ := kit_of I r1 ty
    exact PySem.W.kia_one Z I.kIn p e hx fun tk => ⟨.bl b, H, I.tok tk, rfl, q⟩
  · obtain rfl : u1 = Value.ref a := r1
    obtain ⟨ox, od, mA, J, _, _⟩ := exO_at I.hok ea ed
    exact PySem.W.kia_one (kitx_exc T) I.kIn ⟨ox, _, J⟩ e (fun z => nomatch z) fun tk => ⟨.bl b, H, I.tok tk, rfl, q⟩
/-- isinstance(d, u) is b -/
def IsiE (K : PySem.W.Frag) (u : Value) (d : D) (b : Bool) : Prop := IsiF K u d b ∨ ∃ C fs, d = .exc C fs ∧ ExcC K C ∧ PySem.W.kitOne K (.ref C) u = some b
theorem de_isiE {T : Str} {C : Addr} {f : D → Option Bool} (hf : ∀ d b, f d = some b → IsiE X.K (.ref C) d b) (hm : X.mg "isinstance" = none) (hmT : X.mg T = some (.ref C)) (ha : DE X W a ta φa) (hg : Gl X "isinstance" := by rfl) (hgT : Gl X T := by rfl) (hdT : (T == ("__debug__" : Str)) = false := by decide)
    (h1 : starEach [a, .Name T p2] X.env = (false, eval a X.env) :: starEach [.Name T p2] X.env := by rfl) (h2 : starEach [.Name T p2] X.env = (false, eval (.Name T p2) X.env) :: starEach [] X.env := by rfl) (hpl : (backTo pos (starEach [.Name T p2] X.env)).any (·.1) = false := by rfl) :
    DE X W (.Call (.Name "isinstance" p) [a, .Name T p2] [] pos) (tCB (rIsiE X.K) (tCons ta (tCons (tC (.ref C)) tNil))) (mIsi f φa) :=
  ⟨pe_callB call_isiE hg hm (by decide +kernel) (pa_cons ha.pe (pa_cons (pe_glob hgT hmT rfl hdT) pa_nil h2) h1) (by decide) (by decide) h1 hpl, fun g σ δ A H P EX Q R h hQ hX =>
    ha.lk g σ δ A H _ EX _ R h (fun x d δ1 A1 H1 R1 s1 d1 hh => by
      obtain ⟨b, hb, hq⟩ := asO_of hh
      clear hh
      rcases hf d b hb with k | ⟨C', fs, ed, k1, k2⟩
      · obtain ⟨t, ty, k⟩ := isiF_ty R1.sub d1 k
        exact ⟨x, .ref C, t, .ref C, b, rfl, .own C, .inl ty, k, hQ _ _ δ1 A1 H1 R1 s1 (.bl b) hq⟩
      · subst ed
        cases d1 with
        | exc q1 q2 q3 => exact ⟨_, .ref C, _, .ref C, b, rfl, .own C, .inr ⟨_, C', _, _, rfl, R1.sub _ _ q1, R1.sub _ _ q2, rfl, k1⟩, k2, hQ _ _ δ1 A1 H1 R1 s1 (.bl b) hq⟩) hX⟩
/-- own exception classes, asked of None or an own exception: cat tells of which classes -/
def isExc (cat : Addr → Option Bool) : D → Option Bool
  | .non => some false
  | .exc C _ => cat C
  | _ => none
theorem isExc_ok {cat : Addr → Option Bool} {u : Value} (h0 : PySem.W.kitOne K (.type "NoneType") u = some false) (hc : ∀ C b, cat C = some b → ExcC K C ∧ PySem.W.kitOne K (.ref C) u = some b) {d : D} {b : Bool} (h : isExc cat d = some b) : IsiE K u d b := by
  cases d <;> try cases h
  · exact .inl (.inl ⟨"NoneType", rfl, h0⟩)
  · exact .inr ⟨_, _, rfl, hc _ _ h⟩

/-! ### fields of a kept exception -/
def tXfE (K : PySem.W.Frag) (f : Str) (te : TE) : TE := fun σ H Q => te σ H fun x H1 => ∃ a C d fs v, x = .ref a ∧ H1 a = some (ExO a C d) ∧ H1 d = some (.xd fs) ∧ XfC K C ∧ PySem.W.findIn K (.ref C) f = some none ∧ fs.lookup f = some v ∧ Q v H1
theorem pe_xfE {e : Expr} {te : TE} {n : Str} (he : PE X e te) (hb : attributeBase e n X.env (eval e X.env) = eval e X.env := by rfl) : PE X (.Attribute e n pos) (tXfE X.K n te) := by
  refine ⟨fun pins s σ H Q I h => ?_⟩
  refine attr_of hb (thn (he.run pins s σ H _ I h) fun u s1 hh => ?_)
  obtain ⟨x, H1, I1, rx, a, C, d, fs, v, ex, ea, ed, T, hno, l, q⟩ := hh
  subst ex
  obtain rfl : u = Value.ref a := rx
  obtain ⟨ox, od, mA, J, hr, hl⟩ := exO_at I1.hok ea ed
  obtain ⟨u, hu, ru⟩ := RelO.some_of (v := v) (o := mA n) (by rw [← l]; exact hr n)
  exact HandSPX.exc_get I1.kIn J T.ga T.gg T.exC (PySem.W.findObj_own T.hdC hno rfl (by rw [hl, hu])) (handed_of ru) ⟨v, H1, I1.tok _, ru, q⟩
def XfOk (K : PySem.W.Frag) (f : Str) (C : Addr) : Prop := XfC K C ∧ PySem.W.findIn K (.ref C) f = some none
def mXf (ok : Addr → Prop) (f : Str) (a : DM) : DM := fun δ P EX => a δ (fun x δ1 => match x with
  | .exc C fs => ok C ∧ asO (fs.lookup f) fun d => P d δ1
  | _ => False) EX
theorem de_xfld {e : Expr} {te : TE} {φ : DM} {n : Str} (he : DE X W e te φ) (hb : attributeBase e n X.env (eval e X.env) = eval e X.env := by rfl) : DE X W (.Attribute e n pos) (tXfE X.K n te) (mXf (XfOk X.K n) n φ) := by
  refine ⟨pe_xfE he.pe hb, fun g σ δ A H P EX Q R h hQ hX => he.lk g σ δ A H _ EX _ R h (fun x d δ1 A1 H1 R1 s1 d1 h1 => ?_) hX⟩
  cases d1 <;> try exact h1.elim
  rename_i q C dd fv es q1 q2 q3
  obtain ⟨⟨o1, o2⟩, h1⟩ := h1
  obtain ⟨z, hz, h1⟩ := asO_of h1
  obtain ⟨v, l, dv⟩ := q3.lookup hz
  exact ⟨q, C, dd, fv, v, rfl, R1.sub _ _ q1, R1.sub _ _ q2, o1, o2, l, hQ _ _ δ1 A1 H1 R1 s1 dv h1⟩

/-! ### try: .. except c as n: y = n -/
theorem Rep.unset {g : Gh} {σ : L2.St} {δ : Dl} {A H : Hp} {i : Nat} {o : Option V} (R : Rep K g σ δ A H) : Rep K g (σ.set i o) { δ with s := δ.s.set i .un } A H := by
  refine ⟨R.sub, R.old, R.new, R.keep, R.dm, R.d1, R.d2, R.tabs, ?_, fun j d' e => ?_, fun j l e => ?_, fun j k q l l' e1 e2 a b => ?_, R.mr⟩
  · rw [List.length_set, R.len]
    show _ = (δ.s.set i _).length
    rw [List.length_set]
  · rcases get_set e with ⟨_, e2⟩ | ⟨hj, e2⟩
    · cases e2
    · obtain ⟨w, a, b⟩ := R.im j d' e2
      exact ⟨w, by rw [List.getElem?_set_ne (Ne.symm hj)]; exact a, b⟩
  · rcases get_set e with ⟨_, e2⟩ | ⟨hj, e2⟩
    · cases e2
    · obtain ⟨q, xs, a, b⟩ := R.ow j l e2
      exact ⟨q, xs, by rw [List.getElem?_set_ne (Ne.symm hj)]; exact a, b⟩
  · rcases get_set e1 with ⟨_, e1'⟩ | ⟨hj, e1'⟩
    · cases e1'
    · rcases get_set e2 with ⟨_, e2'⟩ | ⟨hk, e2'⟩
      · cases e2'
      · rw [List.getElem?_set_ne (Ne.symm hj)] at a
        rw [List.getElem?_set_ne (Ne.symm hk)] at b
        exact R.dis j k q l l' e1' e2' a b
def sTryK (i j : Nat) (cat : Addr → Option Bool) (f : DS) : DS := fun δ Dd =>
  f δ { Dd with ex := fun er δ' => asO (cat er.C) fun b => if b = true then Dd.nx { δ' with s := (δ'.s.set j (.im (.exc er.C er.fs))).set i .un } else Dd.ex er δ' }
theorem ds_try_keep (i j : Nat) {x n : Str} {c : Value} {body : List Stmt} {st : Stmt} {np pos' : Pos} {tb : WX → TS} {f : DS} {cat : Addr → Option Bool} (hcat : ∀ C b, cat C = some b → PySem.W.exmOne X.K (.ref C) c = some b) (hN : X.N.Nodup) (hc : Names X x c) (tk : Takes X W)
    (hb : ∀ (W : WX) (pn : List (Addr × Obj)) (xe : Value → Shared → Prop), Takes (X.tr pn xe) W → PassesOwn (model X.prog X.w) X.A X.env xe → DSs (X.tr pn xe) W body (tb W) f)
    (hsu : ∀ (a : Addr) (oe : Obj) (pn : List (Addr × Obj)), PS (X.suite a ((a, oe) :: pn)) st (tAsg (tVar i) (gName j)))
    (hi : X.N[i]? = some n := by rfl) (hln : X.env.kindOf n = some .local := by rfl) (hij : i ≠ j := by decide) (hs : X.stack = X.env :: X.outer := by rfl) (hf : X.env.frame = some X.env.locals := by rfl) (hex : X.ex = [] := by rfl) :
    DSt X W (.Try body [.ExceptHandler (some (.Name x np)) (some n) [st] pos'] [] [] pos) (fun D σ H => tb (wKeep X.K c i j W D) D σ H) (sTryK i j cat f) := by
  refine ⟨ps_try_keep hs hf hex hN hi hln hc tk (fun W pn xe h1 h2 => (hb W pn xe h1 h2).ps) hsu, fun g σ δ A H D Dd R h L => ?_⟩
  have htk : ∀ W', Takes (X.tr [] fun e s' => wpAny (model X.prog X.w) X.A (noteFrame e X.env) (fun _ s2 => wpAny (model X.prog X.w) X.A (setFlight e none) (fun _ _ => True) (fun _ _ => True) s2) (fun _ _ => True) s') W' := fun W' u s' ⟨a, B, sI, pins, σ, H, cls, d, e, J, nb, up, sky, _⟩ => by
    subst e
    have hfr : X.A.frames = some (X.env :: X.outer) := by rw [← hs]; exact J.ok.frames
    have sky' : Sky B (X.env :: X.outer) a (Zc cls d) X.env.locals s'.heap := by rw [← hs]; exact sky
    exact Sky.land (Q := fun _ _ => True) Zc.steady hfr hf sky' fun h3 fl3 up3 => trivial
  have hlk : LkS X.K (wKeep X.K c i j W D) (tb (wKeep X.K c i j W D)) f := (hb (wKeep X.K c i j W D) [] _ (htk _) PassesOwn.looking).lk
  refine hlk (g.re σ δ A H) σ δ A H D _ R.base h ⟨fun σ' δ' A' H' R' z => L.nx σ' δ' A' H' (R.unbase R') z, fun v d σ' δ' A' H' R' z => L.rt v d σ' δ' A' H' (R.unbase R') z, fun σ' δ' A' H' R' z => L.bk σ' δ' A' H' (R.unbase R') z,
    fun σ' δ' A' H' R' z => L.ct σ' δ' A' H' (R.unbase R') z, fun σ' er δ' cls dd A' H' R' xr q => ?_⟩
  obtain ⟨b, hb1, q⟩ := asO_of q
  obtain ⟨rfl, d, fv, rfl, ed, hd⟩ := xr
  refine ⟨b, hcat _ _ hb1, fun eb => ?_, fun eb => ?_⟩
  · subst eb
    refine ⟨er.C, d, rfl, rfl, fun a na => ?_⟩
    have R2 := R'.put (o := ExO a er.C d) na
    have sa : Same A' (upd A' a (ExO a er.C d)) := upd_put (R'.free na).1
    have dx : Dr X.K (upd A' a (ExO a er.C d)) (.ref a) (.exc er.C er.fs) := .exc upd_same (sa _ _ ed) (hd.same sa)
    have R5 : Rep X.K (g.re σ δ A H) (((σ'.set i (some (.ref a))).set j (some (.ref a))).set i none) _ _ _ := ((R2.set (i := i) (.ptr a)).set (i := j) dx).unset (i := i) (o := none)
    refine L.nx _ _ _ _ (R.unbase R5) (R'.old.trans sa) ?_
    have e : (((δ'.s.set i (.im (.ptr a))).set j (.im (.exc er.C er.fs))).set i .un) = (δ'.s.set j (.im (.exc er.C er.fs))).set i .un := by
      rw [List.set_comm _ _ hij, List.set_set]
    show Dd.nx { s := ((δ'.s.set i (.im (.ptr a))).set j (.im (.exc er.C er.fs))).set i .un, m := δ'.m }
    rw [e]
    exact q
  · subst eb
    exact L.ex σ' er δ' _ _ A' H' (R.unbase R') ⟨rfl, d, fv, rfl, ed, hd⟩ q
end
end RL
set_option Elab.async false
set_option linter.all false
set_option maxRecDepth 100000
set_option maxHeartbeats 4000000
/-! R13: zip of lists and tuples of either kind; list(zip(a, b)). -/
namespace RL
open PySem PySem.Spec PyProof.Rows L2 RZ NdefX PySem.W

/-! ### an iterator of a tuple (true) or of a list (false) -/
def SqAt : Bool → Heap → Addr → Array Value → Prop
  | true, h, l, xs => h.IsTuple l xs
  | false, h, l, xs => h.IsList l xs
def ItAt : Bool → Heap → Addr → Addr → Nat → Prop
  | true, h, it, l, i => h.IsTupleIter it l i
  | false, h, it, l, i => h.IsListIter it l i
theorem SqAt.extBut {c : Bool} {h h' : Heap} {a b : Addr} {xs : Array Value} (x : SqAt c h a xs) (hs : Heap.ExtBut b h h') (hab : a ≠ b) : SqAt c h' a xs := by
  cases c
  · exact Heap.IsList.extBut x hs hab
  · exact Heap.IsTuple.extBut x hs hab
theorem ItAt.extBut {c : Bool} {h h' : Heap} {a b l : Addr} {i : Nat} (x : ItAt c h a l i) (hs : Heap.ExtBut b h h') (hab : a ≠ b) : ItAt c h' a l i := by
  cases c
  · exact Heap.IsListIter.extBut x hs hab
  · exact Heap.IsTupleIter.extBut x hs hab
theorem ItAt.get {c : Bool} {h : Heap} {a l : Addr} {i : Nat} (x : ItAt c h a l i) : ∃ o, h.get? a = some o ∧ ∀ v, o.data ≠ .cell v := by
  cases c
  · obtain ⟨o, e, _, d⟩ := (show h.IsListIter a l i from x)
    exact ⟨o, e, fun v q => by rw [d] at q; cases q⟩
  · obtain ⟨o, e, _, d⟩ := (show h.IsTupleIter a l i from x)
    exact ⟨o, e, fun v q => by rw [d] at q; cases q⟩
theorem ItAt.lt {c : Bool} {h : Heap} {a l : Addr} {i : Nat} (x : ItAt c h a l i) : a < h.objs.size := by
  obtain ⟨o, e, _⟩ := x.get
  exact Heap.lt_size e
theorem ItAt.at {c : Bool} {h h' : Heap} {a l : Addr} {i : Nat} (x : ItAt c h a l i) (e : ∀ o, h.get? a = some o → h'.get? a = some o) : ItAt c h' a l i := by
  cases c
  · exact Heap.IsListIter.at x e
  · exact Heap.IsTupleIter.at x e
theorem SqAt.at {c : Bool} {h h' : Heap} {a : Addr} {xs : Array Value} (x : SqAt c h a xs) (e : ∀ o, h.get? a = some o → h'.get? a = some o) : SqAt c h' a xs := by
  cases c
  · exact Heap.IsList.at x e
  · exact Heap.IsTuple.at x e
theorem SqAt.lt {c : Bool} {h : Heap} {a : Addr} {xs : Array Value} (x : SqAt c h a xs) : a < h.objs.size := by
  cases c
  · obtain ⟨o, e, _⟩ := (show h.IsList a xs from x)
    exact Heap.lt_size e
  · obtain ⟨o, e, _⟩ := (show h.IsTuple a xs from x)
    exact Heap.lt_size e
section
variable {prog : Program} {w : World} {A : Around} {E : Value → Shared → Prop} {s : Shared}
theorem gnext_item {c : Bool} {it l : Addr} {i : Nat} {items} {x : Value} {Q : Value → Shared → Prop} (hit : ItAt c s.heap it l i) (hl : SqAt c s.heap l items) (hx : items[i]? = some x)
    (hQ : ∀ h', ItAt c h' it l (i + 1) → Heap.SameBut it s.heap h' → Q x { s with heap := h' }) : wpAny (model prog w) A (Builtin.SmallTypes.nextOf (.ref it)) Q E s := by
  cases c
  · exact wpAny_nextOf_list_item hit hl hx hQ
  · exact nextOf_tuple_item hit hl hx hQ
theorem gnext_end {c : Bool} {it l : Addr} {i : Nat} {items} {Q : Value → Shared → Prop} (hh : A.handled = none) (hit : ItAt c s.heap it l i) (hl : SqAt c s.heap l items) (hx : items[i]? = none)
    (hE : ∀ h' e, Heap.ExtBut it s.heap h' → (∃ o, h'.get? e = some o ∧ o.cls = .type "StopIteration") → E (.ref e) { s with heap := h' }) : wpAny (model prog w) A (Builtin.SmallTypes.nextOf (.ref it)) Q E s := by
  cases c
  · exact wpAny_nextOf_list_end hh hit hl hx hE
  · exact nextOf_tuple_end hh hit hl hx hE

theorem gzipT_next_item {c1 c2 : Bool} {z TI TO i1 i2 l1 l2 : Addr} {k1 k2 : Nat} {xs ys : Array Value} {x y a b : Value} {Q : Value → Shared → Prop} (D : ZipApart z TI TO i1 i2 l1 l2)
    (hz : IsZip s.heap z TI TO .none) (hTI : IsPair s.heap TI (.ref i1) (.ref i2)) (hTO : IsPair s.heap TO a b)
    (h1 : ItAt c1 s.heap i1 l1 k1) (h2 : ItAt c2 s.heap i2 l2 k2) (hl1 : SqAt c1 s.heap l1 xs) (hl2 : SqAt c2 s.heap l2 ys) (hx : xs[k1]? = some x) (hy : ys[k2]? = some y)
    (hQ : ∀ h', IsZip h' z TI TO (rawInt s.heap.objs.size) → IsPair h' TO x y → ItAt c1 h' i1 l1 (k1 + 1) → ItAt c2 h' i2 l2 (k2 + 1) → IsPair h' s.heap.objs.size x y → h'.objs.size = s.heap.objs.size + 1 →
      (∀ c o, c ≠ z → c ≠ TO → c ≠ i1 → c ≠ i2 → s.heap.get? c = some o → h'.get? c = some o) → Q (.ref s.heap.objs.size) { s with heap := h' }) :
    wpAny (model prog w) A (Builtin.«zip.__next__» ⟨[.ref z], []⟩) (fun fin s' => ∃ v, fin = .done (.ret v) ∧ Q v s') E s := by
  show wpAny _ _ (field (.ref z) 2 >>= _) _ _ _
  refine wpAny_bind (wpAny_field hz rfl (x := .bool false) rfl ?_)
  show wpAny _ _ (field (.ref z) 3 >>= _) _ _ _
  refine wpAny_bind (wpAny_field hz rfl (x := .ref TI) rfl ?_)
  refine wpAny_bind (wpAny_seqItems hTI rfl ?_)
  show wpAny _ _ (Builtin.SmallTypes.ownedTupleIsFree (.ref z) >>= _) _ _ _
  refine wpAny_bind ?_
  unfold Builtin.SmallTypes.ownedTupleIsFree
  refine wpAny_bind (wpAny_field hz rfl (x := .none) rfl (wpAny_pure ?_))
  simp only [if_true]
  refine wpAny_bind (wpAny_rule ?_)
  refine wpAny_bind (wpAny_field hz rfl (x := .ref TO) rfl ?_)
  refine wpAny_bind (wpAny_setField_rec hz (by simp) fun h₁ hz₁ hs₁ => ?_)
  replace hz₁ : IsZip h₁ z TI TO .ellipsis := hz₁
  refine wpAny_bind ?_
  simp only [List.zipIdx_cons, List.zipIdx_nil, List.forIn_cons, List.forIn_nil]

  refine wpAny_bind (wpAny_bind (wpAny_onRaise ?_))
  show wpAny _ _ (Builtin.SmallTypes.nextOf (.ref i1) >>= _) _ _ _
  refine wpAny_bind (gnext_item (h1.extBut hs₁.extBut D.i1z) (hl1.extBut hs₁.extBut D.l1z) hx fun h₂ h1₂ hs₂ => wpAny_pure ?_)
  have hTO₂ : IsPair h₂ TO a b := hs₂.extBut _ _ D.TOi1 (hs₁.extBut _ _ D.TOz hTO)
  refine wpAny_bind (wpAny_seqItems hTO₂ rfl ?_)
  refine wpAny_bind (wpAny_updateSeq_pair hTO₂ fun h₃ hTO₃ hs₃ => ?_)
  replace hTO₃ : IsPair h₃ TO x b := hTO₃
  refine wpAny_bind (wpAny_letGo (wpAny_pure ?_))

  refine wpAny_bind (wpAny_bind (wpAny_onRaise ?_))
  show wpAny _ _ (Builtin.SmallTypes.nextOf (.ref i2) >>= _) _ _ _
  refine wpAny_bind (gnext_item (((h2.extBut hs₁.extBut D.i2z).extBut hs₂.extBut D.i12.symm).extBut hs₃.extBut D.TOi2.symm)
    (((hl2.extBut hs₁.extBut D.l2z).extBut hs₂.extBut D.l2i1).extBut hs₃.extBut D.l2TO) hy fun h₄ h2₄ hs₄ => wpAny_pure ?_)
  have hTO₄ : IsPair h₄ TO x b := hs₄.extBut _ _ D.TOi2 hTO₃
  refine wpAny_bind (wpAny_seqItems hTO₄ rfl ?_)
  refine wpAny_bind (wpAny_updateSeq_pair hTO₄ fun h₅ hTO₅ hs₅ => ?_)
  replace hTO₅ : IsPair h₅ TO x y := hTO₅
  refine wpAny_bind (wpAny_letGo (wpAny_pure (wpAny_pure ?_)))

  refine wpAny_bind (wpAny_seqItems hTO₅ rfl ?_)
  refine wpAny_bind (wpAny_newTuple ?_)
  have hsz : h₅.objs.size = s.heap.objs.size := by rw [hs₅.1, hs₄.1, hs₃.1, hs₂.1, hs₁.1]
  have hz₅ : IsZip h₅ z TI TO .ellipsis := hs₅.extBut _ _ D.TOz.symm (hs₄.extBut _ _ D.i2z.symm (hs₃.extBut _ _ D.TOz.symm (hs₂.extBut _ _ D.i1z.symm hz₁)))
  have hk₅ : ∀ c o, c ≠ z → c ≠ TO → c ≠ i1 → c ≠ i2 → s.heap.get? c = some o → h₅.get? c = some o := fun c o c1 c2 c3 c4 e =>
    hs₅.extBut _ _ c2 (hs₄.extBut _ _ c4 (hs₃.extBut _ _ c2 (hs₂.extBut _ _ c3 (hs₁.extBut _ _ c1 e))))
  have h1₅ : ItAt c1 h₅ i1 l1 (k1 + 1) := ((h1₂.extBut hs₃.extBut D.TOi1.symm).extBut hs₄.extBut D.i12).extBut hs₅.extBut D.TOi1.symm
  have h2₅ : ItAt c2 h₅ i2 l2 (k2 + 1) := h2₄.extBut hs₅.extBut D.TOi2.symm
  have hzlt : z < h₅.objs.size := Heap.lt_size hz₅
  have hTOlt : TO < h₅.objs.size := Heap.lt_size hTO₅
  have hi1lt : i1 < h₅.objs.size := h1₅.lt
  have hi2lt : i2 < h₅.objs.size := h2₅.lt
  show wpAny _ _ (Builtin.SmallTypes.ownedTupleHandOut (.ref z) (.ref h₅.objs.size) >>= _) _ _ _
  refine wpAny_bind ?_
  unfold Builtin.SmallTypes.ownedTupleHandOut
  have hz₆ : IsZip (h₅.push { cls := .type "tuple", data := .seq #[x, y] }) z TI TO .ellipsis := Heap.get?_push_of_some _ hz₅
  refine wpAny_bind (wpAny_setField_rec hz₆ (by simp) fun h₇ hz₇ hs₇ => ?_)
  replace hz₇ : IsZip h₇ z TI TO (rawInt h₅.objs.size) := hz₇
  refine wpAny_setField_rec hz₇ (by simp) fun h₈ hz₈ hs₈ => ?_
  replace hz₈ : IsZip h₈ z TI TO (rawInt h₅.objs.size) := hz₈
  have up : ∀ c o, c ≠ z → h₅.get? c = some o → h₈.get? c = some o := fun c o c1 e => hs₈.extBut _ _ c1 (hs₇.extBut _ _ c1 (Heap.get?_push_of_some _ e))
  have hT₈ : IsPair h₈ h₅.objs.size x y := hs₈.extBut _ _ (Nat.ne_of_gt hzlt) (hs₇.extBut _ _ (Nat.ne_of_gt hzlt) (Heap.get?_push_size _ rfl))
  have hz8 : h₈.objs.size = h₅.objs.size + 1 := by rw [hs₈.1, hs₇.1, Heap.size_push]
  rw [hsz] at hz₈ hT₈ hz8
  refine wpAny_pure ⟨_, rfl, ?_⟩
  show Q (.ref h₅.objs.size) _
  rw [hsz]
  exact hQ h₈ hz₈ (up _ _ D.TOz hTO₅) (h1₅.at fun o e => up _ o D.i1z e) (h2₅.at fun o e => up _ o D.i2z e) hT₈ hz8 fun c o c1 c2 c3 c4 e => up c o c1 (hk₅ c o c1 c2 c3 c4 e)

theorem gzipT_next_end {c1 c2 : Bool} {z TI TO i1 i2 l1 l2 : Addr} {k1 k2 : Nat} {xs ys : Array Value} {a b : Value} {Q : Fin → Shared → Prop} (hh : A.handled = none) (D : ZipApart z TI TO i1 i2 l1 l2)
    (hz : IsZip s.heap z TI TO .none) (hTI : IsPair s.heap TI (.ref i1) (.ref i2)) (hTO : IsPair s.heap TO a b)
    (h1 : ItAt c1 s.heap i1 l1 k1) (h2 : ItAt c2 s.heap i2 l2 k2) (hl1 : SqAt c1 s.heap l1 xs) (hl2 : SqAt c2 s.heap l2 ys) (hend : xs[k1]? = none ∨ ys[k2]? = none)
    (hE : ∀ h' e, (∀ c o, c ≠ z → c ≠ TO → c ≠ i1 → c ≠ i2 → s.heap.get? c = some o → h'.get? c = some o) → (∃ o, h'.get? e = some o ∧ o.cls = .type "StopIteration") → E (.ref e) { s with heap := h' }) :
    wpAny (model prog w) A (Builtin.«zip.__next__» ⟨[.ref z], []⟩) Q E s := by
  show wpAny _ _ (field (.ref z) 2 >>= _) _ _ _
  refine wpAny_bind (wpAny_field hz rfl (x := .bool false) rfl ?_)
  show wpAny _ _ (field (.ref z) 3 >>= _) _ _ _
  refine wpAny_bind (wpAny_field hz rfl (x := .ref TI) rfl ?_)
  refine wpAny_bind (wpAny_seqItems hTI rfl ?_)
  show wpAny _ _ (Builtin.SmallTypes.ownedTupleIsFree (.ref z) >>= _) _ _ _
  refine wpAny_bind ?_
  unfold Builtin.SmallTypes.ownedTupleIsFree
  refine wpAny_bind (wpAny_field hz rfl (x := .none) rfl (wpAny_pure ?_))
  simp only [if_true]
  refine wpAny_bind (wpAny_rule ?_)
  refine wpAny_bind (wpAny_field hz rfl (x := .ref TO) rfl ?_)
  refine wpAny_bind (wpAny_setField_rec hz (by simp) fun h₁ hz₁ hs₁ => ?_)
  replace hz₁ : IsZip h₁ z TI TO .ellipsis := hz₁
  refine wpAny_bind ?_
  simp only [List.zipIdx_cons, List.zipIdx_nil, List.forIn_cons, List.forIn_nil]
  refine wpAny_bind (wpAny_bind (wpAny_onRaise ?_))
  show wpAny _ _ (Builtin.SmallTypes.nextOf (.ref i1) >>= _) _ _ _
  cases hx : xs[k1]? with
  | none =>
    refine wpAny_bind (gnext_end hh (h1.extBut hs₁.extBut D.i1z) (hl1.extBut hs₁.extBut D.l1z) hx fun h₂ e hs₂ he => ?_)
    obtain ⟨oe, hoe, hce⟩ := he
    have hz₂ : IsZip h₂ z TI TO .ellipsis := hs₂ _ _ D.i1z.symm hz₁
    have hez : e ≠ z := fun x => by subst x; rw [hz₂] at hoe; cases hoe; simp at hce
    refine wpAny_setField_rec hz₂ (by simp) fun h₃ _ hs₃ => hE h₃ e (fun c o c1 _ c3 _ x => hs₃.extBut _ _ c1 (hs₂ _ _ c3 (hs₁.extBut _ _ c1 x))) ⟨oe, hs₃.extBut _ _ hez hoe, hce⟩
  | some x =>
    have hy : ys[k2]? = none := by rcases hend with h | h; rw [hx] at h; cases h; exact h
    refine wpAny_bind (gnext_item (h1.extBut hs₁.extBut D.i1z) (hl1.extBut hs₁.extBut D.l1z) hx fun h₂ h1₂ hs₂ => wpAny_pure ?_)
    have hTO₂ : IsPair h₂ TO a b := hs₂.extBut _ _ D.TOi1 (hs₁.extBut _ _ D.TOz hTO)
    refine wpAny_bind (wpAny_seqItems hTO₂ rfl ?_)
    refine wpAny_bind (wpAny_updateSeq_pair hTO₂ fun h₃ hTO₃ hs₃ => ?_)
    refine wpAny_bind (wpAny_letGo (wpAny_pure ?_))
    refine wpAny_bind (wpAny_bind (wpAny_onRaise ?_))
    show wpAny _ _ (Builtin.SmallTypes.nextOf (.ref i2) >>= _) _ _ _
    refine wpAny_bind (gnext_end hh (((h2.extBut hs₁.extBut D.i2z).extBut hs₂.extBut D.i12.symm).extBut hs₃.extBut D.TOi2.symm)
      (((hl2.extBut hs₁.extBut D.l2z).extBut hs₂.extBut D.l2i1).extBut hs₃.extBut D.l2TO) hy fun h₄ e hs₄ he => ?_)
    obtain ⟨oe, hoe, hce⟩ := he
    have hz₄ : IsZip h₄ z TI TO .ellipsis := hs₄ _ _ D.i2z.symm (hs₃.extBut _ _ D.TOz.symm (hs₂.extBut _ _ D.i1z.symm hz₁))
    have hez : e ≠ z := fun x => by subst x; rw [hz₄] at hoe; cases hoe; simp at hce
    refine wpAny_setField_rec hz₄ (by simp) fun h₅ _ hs₅ => hE h₅ e (fun c o c1 c2 c3 c4 x => hs₅.extBut _ _ c1 (hs₄ _ _ c4 (hs₃.extBut _ _ c2 (hs₂.extBut _ _ c3 (hs₁.extBut _ _ c1 x))))) ⟨oe, hs₅.extBut _ _ hez hoe, hce⟩

theorem gpyNext_zipT_item {c1 c2 : Bool} {z TI TO i1 i2 l1 l2 : Addr} {k1 k2 : Nat} {xs ys : Array Value} {x y a b : Value} {Q : Option Value → Shared → Prop} (D : ZipApart z TI TO i1 i2 l1 l2)
    (hz : IsZip s.heap z TI TO .none) (hTI : IsPair s.heap TI (.ref i1) (.ref i2)) (hTO : IsPair s.heap TO a b)
    (h1 : ItAt c1 s.heap i1 l1 k1) (h2 : ItAt c2 s.heap i2 l2 k2) (hl1 : SqAt c1 s.heap l1 xs) (hl2 : SqAt c2 s.heap l2 ys) (hx : xs[k1]? = some x) (hy : ys[k2]? = some y)
    (hQ : ∀ h', IsZip h' z TI TO (rawInt s.heap.objs.size) → IsPair h' TO x y → ItAt c1 h' i1 l1 (k1 + 1) → ItAt c2 h' i2 l2 (k2 + 1) → IsPair h' s.heap.objs.size x y → h'.objs.size = s.heap.objs.size + 1 →
      (∀ c o, c ≠ z → c ≠ TO → c ≠ i1 → c ≠ i2 → s.heap.get? c = some o → h'.get? c = some o) → Q (some (.ref s.heap.objs.size)) { s with heap := h' }) :
    wpAny (model prog w) A (pyNext (.ref z)) Q E s := by
  have hT : s.TypeIs (.ref z) "zip" := ⟨_, hz, rfl⟩
  unfold pyNext
  exact wpAny_bind (wpAny_attempt (wpAny_callSpecial?_slot (name := Str.ofString "__next__") hT F.slot_zip_next
    (wpAny_call_entry F.slot_zip_next hT F.entry_zip_next
      (gzipT_next_item D hz hTI hTO h1 h2 hl1 hl2 hx hy fun h' a1 a2 a3 a4 a5 a6 a7 => wpAny_pure (hQ h' a1 a2 a3 a4 a5 a6 a7)) (F.args_zip_next_1 _))))

theorem gpyNext_zipT_end {c1 c2 : Bool} {z TI TO i1 i2 l1 l2 : Addr} {k1 k2 : Nat} {xs ys : Array Value} {a b : Value} {Q : Option Value → Shared → Prop} (hh : A.handled = none) (D : ZipApart z TI TO i1 i2 l1 l2)
    (hz : IsZip s.heap z TI TO .none) (hTI : IsPair s.heap TI (.ref i1) (.ref i2)) (hTO : IsPair s.heap TO a b)
    (h1 : ItAt c1 s.heap i1 l1 k1) (h2 : ItAt c2 s.heap i2 l2 k2) (hl1 : SqAt c1 s.heap l1 xs) (hl2 : SqAt c2 s.heap l2 ys) (hend : xs[k1]? = none ∨ ys[k2]? = none)
    (hQ : ∀ h', (∀ c o, c ≠ z → c ≠ TO → c ≠ i1 → c ≠ i2 → s.heap.get? c = some o → h'.get? c = some o) → Q none { s with heap := h' }) : wpAny (model prog w) A (pyNext (.ref z)) Q E s := by
  have hT : s.TypeIs (.ref z) "zip" := ⟨_, hz, rfl⟩
  unfold pyNext
  refine wpAny_bind (wpAny_attempt (wpAny_callSpecial?_slot (name := Str.ofString "__next__") hT F.slot_zip_next
    (wpAny_call_entry F.slot_zip_next hT F.entry_zip_next (gzipT_next_end hh D hz hTI hTO h1 h2 hl1 hl2 hend fun h' e hk he => ?_) (F.args_zip_next_1 _))))
  obtain ⟨o, ho, hc⟩ := he
  refine wpAny_bind (wpAny_isInstance (T := "StopIteration") (b := true) ⟨o, ho, hc⟩ isSubtype_stop ?_)
  exact wpAny_pure (hQ _ hk)

theorem gzip_next_item_held {c1 c2 : Bool} {z TI TO T i1 i2 l1 l2 : Addr} {f : Bool} {oT : Obj} {k1 k2 : Nat} {xs ys : Array Value} {x y : Value} {Q : Value → Shared → Prop} (D : ZipApart z TI TO i1 i2 l1 l2)
    (hz : IsZipHeld s.heap z TI TO T f) (hT : s.heap.get? T = some oT) (hTI : IsPair s.heap TI (.ref i1) (.ref i2))
    (h1 : ItAt c1 s.heap i1 l1 k1) (h2 : ItAt c2 s.heap i2 l2 k2) (hl1 : SqAt c1 s.heap l1 xs) (hl2 : SqAt c2 s.heap l2 ys) (hx : xs[k1]? = some x) (hy : ys[k2]? = some y)
    (hQ : ∀ h', IsZipHeld h' z TI TO T true → ItAt c1 h' i1 l1 (k1 + 1) → ItAt c2 h' i2 l2 (k2 + 1) → IsPair h' s.heap.objs.size x y → h'.objs.size = s.heap.objs.size + 1 →
      (∀ c o, c ≠ z → c ≠ i1 → c ≠ i2 → s.heap.get? c = some o → h'.get? c = some o) → Q (.ref s.heap.objs.size) { s with heap := h' }) :
    wpAny (model prog w) A (Builtin.«zip.__next__» ⟨[.ref z], []⟩) (fun fin s' => ∃ v, fin = .done (.ret v) ∧ Q v s') E s := by
  show wpAny _ _ (field (.ref z) 2 >>= _) _ _ _
  refine wpAny_bind (wpAny_field hz rfl (x := .bool false) rfl ?_)
  show wpAny _ _ (field (.ref z) 3 >>= _) _ _ _
  refine wpAny_bind (wpAny_field hz rfl (x := .ref TI) rfl ?_)
  refine wpAny_bind (wpAny_seqItems hTI rfl ?_)
  show wpAny _ _ (Builtin.SmallTypes.ownedTupleIsFree (.ref z) >>= _) _ _ _
  refine wpAny_bind (wpAny_tupleHeld_zip hz hT fun h₁ hz₁ hs₁ => ?_)
  simp only [Bool.false_eq_true, if_false]
  refine wpAny_bind ?_
  rw [← Array.forIn_toList]
  simp only [List.forIn_cons, List.forIn_nil]
  refine wpAny_bind (wpAny_bind (wpAny_holding ?_))
  show wpAny _ _ (Builtin.SmallTypes.nextOf (.ref i1) >>= _) _ _ _
  refine wpAny_bind (gnext_item (s := { s with heap := h₁ }) (h1.extBut hs₁.extBut D.i1z) (hl1.extBut hs₁.extBut D.l1z) hx fun h₂ h1₂ hs₂ => wpAny_pure ?_)
  refine wpAny_pure ?_
  refine wpAny_bind (wpAny_bind (wpAny_holding ?_))
  show wpAny _ _ (Builtin.SmallTypes.nextOf (.ref i2) >>= _) _ _ _
  refine wpAny_bind (gnext_item (s := { s with heap := h₂ }) ((h2.extBut hs₁.extBut D.i2z).extBut hs₂.extBut D.i12.symm) ((hl2.extBut hs₁.extBut D.l2z).extBut hs₂.extBut D.l2i1) hy fun h₃ h2₃ hs₃ => wpAny_pure ?_)
  refine wpAny_pure (wpAny_pure ?_)
  show wpAny _ _ (newTuple [x, y] >>= _) _ _ _
  refine wpAny_bind (wpAny_newTuple ?_)
  have hsz : h₃.objs.size = s.heap.objs.size := by rw [hs₃.1, hs₂.1, hs₁.1]
  have hz₃ : IsZipHeld h₃ z TI TO T true := hs₃.extBut _ _ D.i2z.symm (hs₂.extBut _ _ D.i1z.symm hz₁)
  have hk : ∀ c o, c ≠ z → c ≠ i1 → c ≠ i2 → s.heap.get? c = some o → h₃.get? c = some o := fun c o c1 c2 c3 e => hs₃.extBut _ _ c3 (hs₂.extBut _ _ c2 (hs₁.extBut _ _ c1 e))
  have h1₃ : ItAt c1 h₃ i1 l1 (k1 + 1) := h1₂.extBut hs₃.extBut D.i12
  refine wpAny_pure ⟨_, rfl, ?_⟩
  show Q (.ref h₃.objs.size) _
  have hp : IsPair (h₃.push { cls := .type "tuple", data := .seq #[x, y] }) h₃.objs.size x y := Heap.get?_push_size _ rfl
  have hz4 : (h₃.push { cls := .type "tuple", data := .seq #[x, y] }).objs.size = h₃.objs.size + 1 := Heap.size_push ..
  rw [hsz] at hp hz4 ⊢
  exact hQ _ (Heap.get?_push_of_some _ hz₃) (h1₃.at fun o e => Heap.get?_push_of_some _ e) (h2₃.at fun o e => Heap.get?_push_of_some _ e) hp hz4 fun c o c1 c2 c3 e => Heap.get?_push_of_some _ (hk c o c1 c2 c3 e)

theorem gzip_next_end_held {c1 c2 : Bool} {z TI TO T i1 i2 l1 l2 : Addr} {f : Bool} {oT : Obj} {k1 k2 : Nat} {xs ys : Array Value} {Q : Fin → Shared → Prop} (hh : A.handled = none) (D : ZipApart z TI TO i1 i2 l1 l2)
    (hz : IsZipHeld s.heap z TI TO T f) (hT : s.heap.get? T = some oT) (hTI : IsPair s.heap TI (.ref i1) (.ref i2))
    (h1 : ItAt c1 s.heap i1 l1 k1) (h2 : ItAt c2 s.heap i2 l2 k2) (hl1 : SqAt c1 s.heap l1 xs) (hl2 : SqAt c2 s.heap l2 ys) (hend : xs[k1]? = none ∨ ys[k2]? = none)
    (hE : ∀ h' e, (∀ c o, c ≠ z → c ≠ i1 → c ≠ i2 → s.heap.get? c = some o → h'.get? c = some o) → (∃ o, h'.get? e = some o ∧ o.cls = .type "StopIteration") → E (.ref e) { s with heap := h' }) :
    wpAny (model prog w) A (Builtin.«zip.__next__» ⟨[.ref z], []⟩) Q E s := by
  show wpAny _ _ (field (.ref z) 2 >>= _) _ _ _
  refine wpAny_bind (wpAny_field hz rfl (x := .bool false) rfl ?_)
  show wpAny _ _ (field (.ref z) 3 >>= _) _ _ _
  refine wpAny_bind (wpAny_field hz rfl (x := .ref TI) rfl ?_)
  refine wpAny_bind (wpAny_seqItems hTI rfl ?_)
  show wpAny _ _ (Builtin.SmallTypes.ownedTupleIsFree (.ref z) >>= _) _ _ _
  refine wpAny_bind (wpAny_tupleHeld_zip hz hT fun h₁ hz₁ hs₁ => ?_)
  simp only [Bool.false_eq_true, if_false]
  refine wpAny_bind ?_
  rw [← Array.forIn_toList]
  simp only [List.forIn_cons, List.forIn_nil]
  refine wpAny_bind (wpAny_bind (wpAny_holding ?_))
  show wpAny _ _ (Builtin.SmallTypes.nextOf (.ref i1) >>= _) _ _ _
  cases hx : xs[k1]? with
  | none =>
    refine wpAny_bind (gnext_end (s := { s with heap := h₁ }) hh (h1.extBut hs₁.extBut D.i1z) (hl1.extBut hs₁.extBut D.l1z) hx fun h₂ e hs₂ he => ?_)
    exact hE h₂ e (fun c o c1 c2 _ x => hs₂ _ _ c2 (hs₁.extBut _ _ c1 x)) he
  | some x =>
    have hy : ys[k2]? = none := by rcases hend with h | h; rw [hx] at h; cases h; exact h
    refine wpAny_bind (gnext_item (s := { s with heap := h₁ }) (h1.extBut hs₁.extBut D.i1z) (hl1.extBut hs₁.extBut D.l1z) hx fun h₂ h1₂ hs₂ => wpAny_pure ?_)
    refine wpAny_pure ?_
    refine wpAny_bind (wpAny_bind (wpAny_holding ?_))
    show wpAny _ _ (Builtin.SmallTypes.nextOf (.ref i2) >>= _) _ _ _
    refine wpAny_bind (gnext_end (s := { s with heap := h₂ }) hh ((h2.extBut hs₁.extBut D.i2z).extBut hs₂.extBut D.i12.symm) ((hl2.extBut hs₁.extBut D.l2z).extBut hs₂.extBut D.l2i1) hy fun h₃ e hs₃ he => ?_)
    exact hE h₃ e (fun c o c1 c2 c3 x => hs₃ _ _ c3 (hs₂.extBut _ _ c2 (hs₁.extBut _ _ c1 x))) he

theorem gwpAny_pyNext_zip_item_held {c1 c2 : Bool} {z TI TO T i1 i2 l1 l2 : Addr} {f : Bool} {oT : Obj} {k1 k2 : Nat} {xs ys : Array Value} {x y : Value} {Q : Option Value → Shared → Prop} (D : ZipApart z TI TO i1 i2 l1 l2)
    (hz : IsZipHeld s.heap z TI TO T f) (hT : s.heap.get? T = some oT) (hTI : IsPair s.heap TI (.ref i1) (.ref i2))
    (h1 : ItAt c1 s.heap i1 l1 k1) (h2 : ItAt c2 s.heap i2 l2 k2) (hl1 : SqAt c1 s.heap l1 xs) (hl2 : SqAt c2 s.heap l2 ys) (hx : xs[k1]? = some x) (hy : ys[k2]? = some y)
    (hQ : ∀ h', IsZipHeld h' z TI TO T true → ItAt c1 h' i1 l1 (k1 + 1) → ItAt c2 h' i2 l2 (k2 + 1) → IsPair h' s.heap.objs.size x y → h'.objs.size = s.heap.objs.size + 1 →
      (∀ c o, c ≠ z → c ≠ i1 → c ≠ i2 → s.heap.get? c = some o → h'.get? c = some o) → Q (some (.ref s.heap.objs.size)) { s with heap := h' }) :
    wpAny (model prog w) A (pyNext (.ref z)) Q E s := by
  have hTy : s.TypeIs (.ref z) "zip" := ⟨_, hz, rfl⟩
  unfold pyNext
  exact wpAny_bind (wpAny_attempt (wpAny_callSpecial?_slot (name := Str.ofString "__next__") hTy F.slot_zip_next
    (wpAny_call_entry F.slot_zip_next hTy F.entry_zip_next
      (gzip_next_item_held D hz hT hTI h1 h2 hl1 hl2 hx hy fun h' a1 a3 a4 a5 a6 a7 => wpAny_pure (hQ h' a1 a3 a4 a5 a6 a7)) (F.args_zip_next_1 _))))
theorem gwpAny_pyNext_zip_end_held {c1 c2 : Bool} {z TI TO T i1 i2 l1 l2 : Addr} {f : Bool} {oT : Obj} {k1 k2 : Nat} {xs ys : Array Value} {Q : Option Value → Shared → Prop} (hh : A.handled = none) (D : ZipApart z TI TO i1 i2 l1 l2)
    (hz : IsZipHeld s.heap z TI TO T f) (hT : s.heap.get? T = some oT) (hTI : IsPair s.heap TI (.ref i1) (.ref i2))
    (h1 : ItAt c1 s.heap i1 l1 k1) (h2 : ItAt c2 s.heap i2 l2 k2) (hl1 : SqAt c1 s.heap l1 xs) (hl2 : SqAt c2 s.heap l2 ys) (hend : xs[k1]? = none ∨ ys[k2]? = none)
    (hQ : ∀ h', (∀ c o, c ≠ z → c ≠ i1 → c ≠ i2 → s.heap.get? c = some o → h'.get? c = some o) → Q none { s with heap := h' }) : wpAny (model prog w) A (pyNext (.ref z)) Q E s := by
  have hTy : s.TypeIs (.ref z) "zip" := ⟨_, hz, rfl⟩
  unfold pyNext
  refine wpAny_bind (wpAny_attempt (wpAny_callSpecial?_slot (name := Str.ofString "__next__") hTy F.slot_zip_next
    (wpAny_call_entry F.slot_zip_next hTy F.entry_zip_next (gzip_next_end_held hh D hz hT hTI h1 h2 hl1 hl2 hend fun h' e hk he => ?_) (F.args_zip_next_1 _))))
  obtain ⟨o, ho, hc⟩ := he
  refine wpAny_bind (wpAny_isInstance (T := "StopIteration") (b := true) ⟨o, ho, hc⟩ isSubtype_stop ?_)
  exact wpAny_pure (hQ _ hk)



/-! ### zip(a, b) made -/
def itG (c : Bool) (l : Addr) : Obj := { cls := .type (if c then "tuple_iterator" else "list_iterator"), data := .fields #[.ref l, .int 0 0] }
theorem gpyIter {c : Bool} {l : Addr} {items} {Q : Value → Shared → Prop} (hl : SqAt c s.heap l items) (hQ : Q (.ref s.heap.objs.size) { s with heap := s.heap.push (itG c l) }) : wpAny (model prog w) A (pyIter (.ref l)) Q E s := by
  cases c
  · exact wpAny_pyIter_list hl hQ
  · exact wpAny_pyIter_tuple hl hQ
theorem itG_at {c : Bool} {h : Heap} {a l : Addr} (e : h.get? a = some (itG c l)) : ItAt c h a l 0 := by
  cases c
  · exact ⟨_, e, rfl, rfl⟩
  · exact ⟨_, e, rfl, rfl⟩
abbrev gzH1 (c1 : Bool) (h : Heap) (l1 : Addr) : Heap := h.push (itG c1 l1)
abbrev gzH2 (c1 c2 : Bool) (h : Heap) (l1 l2 : Addr) : Heap := (gzH1 c1 h l1).push (itG c2 l2)
abbrev gzH3 (c1 c2 : Bool) (h : Heap) (l1 l2 : Addr) : Heap := (gzH2 c1 c2 h l1 l2).push { cls := .type "tuple", data := .seq #[.ref h.objs.size, .ref (gzH1 c1 h l1).objs.size] }
abbrev gzH4 (c1 c2 : Bool) (h : Heap) (l1 l2 : Addr) : Heap := (gzH3 c1 c2 h l1 l2).push { cls := .type "tuple", data := .seq #[.none, .none] }
abbrev gzH5 (c1 c2 : Bool) (h : Heap) (l1 l2 : Addr) : Heap := (gzH4 c1 c2 h l1 l2).push { cls := .type "zip", data := .fields #[.none, .bool false, .bool false, .ref (gzH2 c1 c2 h l1 l2).objs.size, .ref (gzH3 c1 c2 h l1 l2).objs.size] }
theorem gmeets_zip_new (c1 c2 : Bool) (l1 l2 : Addr) (xs ys : Array Value) :
    Meets (Builtin.«zip.__new__» ⟨[.type "zip", .ref l1, .ref l2], []⟩) (fun _ R s => SqAt c1 s.heap l1 xs ∧ SqAt c2 s.heap l2 ys ∧
      R (.ok (.ret (.ref (gzH4 c1 c2 s.heap l1 l2).objs.size))) { s with heap := gzH5 c1 c2 s.heap l1 l2 }) :=
  .of_wp fun prog w A R s h => by
    obtain ⟨hp, g, d, tk, os⟩ := s; obtain ⟨hl1, hl2, h⟩ := h
    have hsub := sub_zip
    have hL1 : SqAt c1 (Shared.heap ⟨hp, g, d, tk, os⟩) l1 xs := hl1
    have hL2 : SqAt c2 (Shared.heap ⟨hp.push (itG c1 l1), g, d, tk, os⟩) l2 ys := hl2.at fun o e => Heap.get?_push_of_some _ e
    wp_walk using gpyIter hL1, gpyIter hL2
    exact ⟨_, rfl, h⟩
theorem call_gzip {c1 c2 : Bool} {l1 l2 : Addr} {xs ys : Array Value} {Q : Value → Shared → Prop} (hl1 : SqAt c1 s.heap l1 xs) (hl2 : SqAt c2 s.heap l2 ys)
    (h : ∀ h', IsZip h' (s.heap.objs.size + 4) (s.heap.objs.size + 2) (s.heap.objs.size + 3) .none → IsPair h' (s.heap.objs.size + 2) (.ref s.heap.objs.size) (.ref (s.heap.objs.size + 1)) →
      IsPair h' (s.heap.objs.size + 3) .none .none → ItAt c1 h' s.heap.objs.size l1 0 → ItAt c2 h' (s.heap.objs.size + 1) l2 0 → h'.objs.size = s.heap.objs.size + 5 →
      (∀ c o, s.heap.get? c = some o → h'.get? c = some o) → Q (.ref (s.heap.objs.size + 4)) { s with heap := h' }) :
    wpAny (model prog w) A (call (.type "zip") [.ref l1, .ref l2]) Q E s := by
  refine callType_new F.called_zip (by decide) (F.typeCall_zip_2 _ _) (F.newCall_zip_2 _ _) (fun obj => F.args_object_init_3 obj _ _) F.entry_zip_new
    (gmeets_zip_new c1 c2 l1 l2 xs ys) ⟨hl1, hl2, ?_⟩
  have z1 : (gzH1 c1 s.heap l1).objs.size = s.heap.objs.size + 1 := Heap.size_push ..
  have z2 : (gzH2 c1 c2 s.heap l1 l2).objs.size = s.heap.objs.size + 2 := by rw [Heap.size_push, z1]
  have z3 : (gzH3 c1 c2 s.heap l1 l2).objs.size = s.heap.objs.size + 3 := by rw [Heap.size_push, z2]
  have z4 : (gzH4 c1 c2 s.heap l1 l2).objs.size = s.heap.objs.size + 4 := by rw [Heap.size_push, z3]
  have z5 : (gzH5 c1 c2 s.heap l1 l2).objs.size = s.heap.objs.size + 5 := by rw [Heap.size_push, z4]
  have g5 : (gzH5 c1 c2 s.heap l1 l2).get? (gzH4 c1 c2 s.heap l1 l2).objs.size = some _ := Heap.get?_push_size _ rfl
  have g4 : (gzH5 c1 c2 s.heap l1 l2).get? (gzH3 c1 c2 s.heap l1 l2).objs.size = some _ := Heap.get?_push_of_some _ (Heap.get?_push_size _ rfl)
  have g3 : (gzH5 c1 c2 s.heap l1 l2).get? (gzH2 c1 c2 s.heap l1 l2).objs.size = some _ := Heap.get?_push_of_some _ (Heap.get?_push_of_some _ (Heap.get?_push_size _ rfl))
  have g2 : (gzH5 c1 c2 s.heap l1 l2).get? (gzH1 c1 s.heap l1).objs.size = some (itG c2 l2) := Heap.get?_push_of_some _ (Heap.get?_push_of_some _ (Heap.get?_push_of_some _ (Heap.get?_push_size _ rfl)))
  have g1 : (gzH5 c1 c2 s.heap l1 l2).get? s.heap.objs.size = some (itG c1 l1) := Heap.get?_push_of_some _ (Heap.get?_push_of_some _ (Heap.get?_push_of_some _ (Heap.get?_push_of_some _ (Heap.get?_push_size _ rfl))))
  show _ ∧ _
  rw [z2, z3, z4] at g5
  rw [z1, z2] at g3
  rw [z3] at g4
  rw [z1] at g2
  rw [z4]
  exact ⟨⟨_, g5, rfl⟩, h _ g5 g3 g4 (itG_at g1) (itG_at g2) z5 fun c o x =>
    Heap.get?_push_of_some _ (Heap.get?_push_of_some _ (Heap.get?_push_of_some _ (Heap.get?_push_of_some _ (Heap.get?_push_of_some _ x))))⟩

/-! ### the zip z at its turn i, the pairs handed out kept -/
def ZAt (c1 c2 : Bool) (z TI TO i1 i2 l1 l2 : Addr) (xs ys : Array Value) (i : Nat) (h : Heap) : Prop :=
  IsPair h TI (.ref i1) (.ref i2) ∧ ItAt c1 h i1 l1 i ∧ ItAt c2 h i2 l2 i ∧ SqAt c1 h l1 xs ∧ SqAt c2 h l2 ys ∧ ((IsZip h z TI TO .none ∧ ∃ a b, IsPair h TO a b) ∨ ∃ T f a b, IsZipHeld h z TI TO T f ∧ IsPair h T a b ∧ T ≠ z ∧ T ≠ TO ∧ T ≠ i1 ∧ T ≠ i2)
theorem zat_item {c1 c2 : Bool} {z TI TO i1 i2 l1 l2 : Addr} {xs ys : Array Value} {i : Nat} {x y : Value} {Q : Option Value → Shared → Prop} (D : ZipApart z TI TO i1 i2 l1 l2) (Z : ZAt c1 c2 z TI TO i1 i2 l1 l2 xs ys i s.heap) (hx : xs[i]? = some x) (hy : ys[i]? = some y)
    (lz : z < s.heap.objs.size) (lTO : TO < s.heap.objs.size)
    (hQ : ∀ h', ZAt c1 c2 z TI TO i1 i2 l1 l2 xs ys (i + 1) h' → IsPair h' s.heap.objs.size x y → h'.objs.size = s.heap.objs.size + 1 → (∀ c o, c ≠ z → c ≠ TO → c ≠ i1 → c ≠ i2 → s.heap.get? c = some o → h'.get? c = some o) → Q (some (.ref s.heap.objs.size)) { s with heap := h' }) :
    wpAny (model prog w) A (pyNext (.ref z)) Q E s := by
  obtain ⟨hTI, h1, h2, hl1, hl2, hz | ⟨T, f, a, b, hz, hT, t1, t2, t3, t4⟩⟩ := Z
  · obtain ⟨hz, a, b, hTO⟩ := hz
    refine gpyNext_zipT_item D hz hTI hTO h1 h2 hl1 hl2 hx hy fun h' a1 a2 a3 a4 a5 a6 a7 => ?_
    exact hQ h' ⟨a7 _ _ D.TIz D.TITO D.TIi1 D.TIi2 hTI, a3, a4, hl1.at fun o e => a7 _ o D.l1z D.l1TO D.l1i1 D.l1i2 e, hl2.at fun o e => a7 _ o D.l2z D.l2TO D.l2i1 D.l2i2 e,
      .inr ⟨s.heap.objs.size, false, x, y, a1, a5, Nat.ne_of_gt lz, Nat.ne_of_gt lTO, Nat.ne_of_gt h1.lt, Nat.ne_of_gt h2.lt⟩⟩ a5 a6 a7
  · refine gwpAny_pyNext_zip_item_held D hz hT hTI h1 h2 hl1 hl2 hx hy fun h' a1 a3 a4 a5 a6 a7 => ?_
    exact hQ h' ⟨a7 _ _ D.TIz D.TIi1 D.TIi2 hTI, a3, a4, hl1.at fun o e => a7 _ o D.l1z D.l1i1 D.l1i2 e, hl2.at fun o e => a7 _ o D.l2z D.l2i1 D.l2i2 e,
      .inr ⟨T, true, a, b, a1, a7 _ _ t1 t3 t4 hT, t1, t2, t3, t4⟩⟩ a5 a6 fun c o e1 _ e3 e4 e => a7 c o e1 e3 e4 e
theorem zat_end {c1 c2 : Bool} {z TI TO i1 i2 l1 l2 : Addr} {xs ys : Array Value} {i : Nat} {Q : Option Value → Shared → Prop} (hh : A.handled = none) (D : ZipApart z TI TO i1 i2 l1 l2) (Z : ZAt c1 c2 z TI TO i1 i2 l1 l2 xs ys i s.heap) (hend : xs[i]? = none ∨ ys[i]? = none)
    (hQ : ∀ h', (∀ c o, c ≠ z → c ≠ TO → c ≠ i1 → c ≠ i2 → s.heap.get? c = some o → h'.get? c = some o) → Q none { s with heap := h' }) : wpAny (model prog w) A (pyNext (.ref z)) Q E s := by
  obtain ⟨hTI, h1, h2, hl1, hl2, hz | ⟨T, f, a, b, hz, hT, t1, t2, t3, t4⟩⟩ := Z
  · obtain ⟨hz, a, b, hTO⟩ := hz
    exact gpyNext_zipT_end hh D hz hTI hTO h1 h2 hl1 hl2 hend hQ
  · exact gwpAny_pyNext_zip_end_held hh D hz hT hTI h1 h2 hl1 hl2 hend fun h' k => hQ h' fun c o e1 _ e3 e4 e => k c o e1 e3 e4 e
theorem ZAt.frame {c1 c2 : Bool} {z TI TO i1 i2 l1 l2 : Addr} {xs ys : Array Value} {i : Nat} {h h' : Heap} {S : Addr} (Z : ZAt c1 c2 z TI TO i1 i2 l1 l2 xs ys i h) (k : ∀ b o, b ≠ S → h.get? b = some o → h'.get? b = some o)
    (n : S ∉ [z, TI, TO, i1, i2, l1, l2]) (hS : ∀ a b, ¬ IsPair h S a b) : ZAt c1 c2 z TI TO i1 i2 l1 l2 xs ys i h' := by
  simp only [List.mem_cons, List.not_mem_nil, or_false, not_or] at n
  obtain ⟨n1, n2, n3, n4, n5, n6, n7⟩ := n
  obtain ⟨hTI, h1, h2, hl1, hl2, hz | ⟨T, f, a, b, hz, hT, t⟩⟩ := Z
  · obtain ⟨hz, a, b, hTO⟩ := hz
    exact ⟨k _ _ (Ne.symm n2) hTI, h1.at fun o e => k _ o (Ne.symm n4) e, h2.at fun o e => k _ o (Ne.symm n5) e, hl1.at fun o e => k _ o (Ne.symm n6) e, hl2.at fun o e => k _ o (Ne.symm n7) e, .inl ⟨k _ _ (Ne.symm n1) hz, a, b, k _ _ (Ne.symm n3) hTO⟩⟩
  · exact ⟨k _ _ (Ne.symm n2) hTI, h1.at fun o e => k _ o (Ne.symm n4) e, h2.at fun o e => k _ o (Ne.symm n5) e, hl1.at fun o e => k _ o (Ne.symm n6) e, hl2.at fun o e => k _ o (Ne.symm n7) e,
      .inr ⟨T, f, a, b, k _ _ (Ne.symm n1) hz, k _ _ (fun q => by subst q; exact hS a b hT) hT, t⟩⟩
/-- pairs at the addresses ps, of the first items -/
def PairsAt (h : Heap) (xs ys : Array Value) (ps : List Addr) : Prop := ∀ (j : Nat) (T : Addr), ps[j]? = some T → ∃ x y, xs[j]? = some x ∧ ys[j]? = some y ∧ IsPair h T x y
theorem loop_zip {R : Result → Shared → Prop} {c1 c2 : Bool} {z TI TO i1 i2 l1 l2 S lo : Addr} {res : Value} {xs ys : Array Value} (hh : A.handled = none) (D : ZipApart z TI TO i1 i2 l1 l2) (hn : min xs.size ys.size ≤ sizeLine) (nS : S ∉ [z, TI, TO, i1, i2, l1, l2]) (hlo : z < lo ∧ TO < lo ∧ i1 < lo ∧ i2 < lo ∧ S < lo) :
    ∀ (k i : Nat) (s : Shared) (ps : List Addr) (c : Nat), min xs.size ys.size - i = k → i ≤ min xs.size ys.size → lo ≤ s.heap.objs.size → ps.length = i → ZAt c1 c2 z TI TO i1 i2 l1 l2 xs ys i s.heap →
      s.heap.get? S = some { cls := .type "list", dict := none, data := .seq (ps.map Value.ref).toArray c, slots := #[] } → PairsAt s.heap xs ys ps → (∀ T ∈ ps, lo ≤ T ∧ T < s.heap.objs.size) → ps.Nodup →
      (∀ h' ps' c', (∀ b o, b ∉ [S, z, TO, i1, i2] → s.heap.get? b = some o → h'.get? b = some o) → h'.get? S = some { cls := .type "list", dict := none, data := .seq (ps'.map Value.ref).toArray c', slots := #[] } →
        ps'.length = min xs.size ys.size → PairsAt h' xs ys ps' → (∀ T ∈ ps', lo ≤ T) → ps'.Nodup → R (.ok (.ret res)) { s with heap := h' }) →
      codeAny (model prog w) A (.builtin "list.extend.loop" ⟨[.ref S, .ref z, res], []⟩) R s := by
  have nS' := nS
  simp only [List.mem_cons, List.not_mem_nil, or_false, not_or] at nS'
  obtain ⟨n1, n2, n3, n4, n5, n6, n7⟩ := nS'
  have big : ∀ {T : Addr}, lo ≤ T → T ≠ z ∧ T ≠ TO ∧ T ≠ i1 ∧ T ≠ i2 ∧ T ≠ S := fun {T} h => ⟨Nat.ne_of_gt (Nat.lt_of_lt_of_le hlo.1 h), Nat.ne_of_gt (Nat.lt_of_lt_of_le hlo.2.1 h), Nat.ne_of_gt (Nat.lt_of_lt_of_le hlo.2.2.1 h), Nat.ne_of_gt (Nat.lt_of_lt_of_le hlo.2.2.2.1 h), Nat.ne_of_gt (Nat.lt_of_lt_of_le hlo.2.2.2.2 h)⟩
  intro k
  induction k with
  | zero =>
    intro i s ps c hk hi hsz hps Z hS hP hT nd hR
    have hin : i = min xs.size ys.size := by omega
    refine codeAny_builtin F.entry_extend_loop ?_
    rw [Around.under_plainId F.plain_extend_loop _]
    show wpAny _ A.in1 (pyNext (.ref z) >>= _) _ _ s
    have hend : xs[i]? = none ∨ ys[i]? = none := by
      rcases Nat.le_total xs.size ys.size with h | h
      · exact .inl (Array.getElem?_eq_none (by omega))
      · exact .inr (Array.getElem?_eq_none (by omega))
    refine wpAny_bind (zat_end hh D Z hend fun h' kp => ?_)
    refine wpAny_pure (hR h' ps c (fun b o hb e => kp b o (fun q => hb (by simp [q])) (fun q => hb (by simp [q])) (fun q => hb (by simp [q])) (fun q => hb (by simp [q])) e) (kp _ _ n1 n3 n4 n5 hS) (by omega) (fun j T e => ?_) (fun T hm => (hT T hm).1) nd)
    obtain ⟨x, y, e1, e2, e3⟩ := hP j T e
    obtain ⟨b1, b2, b3, b4, b5⟩ := big (hT T (List.mem_of_getElem? e)).1
    exact ⟨x, y, e1, e2, kp _ _ b1 b2 b3 b4 e3⟩
  | succ k ih =>
    intro i s ps c hk hi hsz hps Z hS hP hT nd hR
    have hlt : i < min xs.size ys.size := by omega
    have hx : xs[i]? = some xs[i] := Array.getElem?_eq_getElem (by omega)
    have hy : ys[i]? = some ys[i] := Array.getElem?_eq_getElem (by omega)
    refine codeAny_builtin F.entry_extend_loop ?_
    rw [Around.under_plainId F.plain_extend_loop _]
    show wpAny _ A.in1 (pyNext (.ref z) >>= _) _ _ s
    refine wpAny_bind (zat_item D Z hx hy (Nat.lt_of_lt_of_le hlo.1 hsz) (Nat.lt_of_lt_of_le hlo.2.1 hsz) fun h' Z' hp hz' kp => ?_)
    have hS' := kp _ _ n1 n3 n4 n5 hS
    show wpAny _ A.in1 (updateSeq S (·.push (.ref s.heap.objs.size)) >>= _) _ _ _
    refine wpAny_bind ?_
    have ne1 : s.heap.objs.size ≠ S := (big hsz).2.2.2.2
    have up : ∀ b o, b ≠ S → h'.get? b = some o → (h'.update S (Obj.mapSeq (·.push (.ref s.heap.objs.size)))).get? b = some o := fun b o hb e => (Heap.get?_update_other _ _ (Ne.symm hb)).trans e
    have kp2 : ∀ b o, b ∉ [S, z, TO, i1, i2] → s.heap.get? b = some o → (h'.update S (Obj.mapSeq (·.push (.ref s.heap.objs.size)))).get? b = some o := fun b o hb e =>
      up b o (fun q => hb (by simp [q])) (kp b o (fun q => hb (by simp [q])) (fun q => hb (by simp [q])) (fun q => hb (by simp [q])) (fun q => hb (by simp [q])) e)
    have us : (h'.update S (Obj.mapSeq (·.push (.ref s.heap.objs.size)))).objs.size = h'.objs.size := by first | exact Heap.size_update .. | simp
    obtain ⟨cN, eS⟩ : ∃ cN, (h'.update S (Obj.mapSeq (·.push (.ref s.heap.objs.size)))).get? S = some { cls := .type "list", dict := none, data := .seq ((ps ++ [s.heap.objs.size]).map Value.ref).toArray cN, slots := #[] } := by
      have e0 := Heap.get?_update_self (Obj.mapSeq (·.push (Value.ref s.heap.objs.size))) hS' rfl
      have e1 : ((ps ++ [s.heap.objs.size]).map Value.ref).toArray = (ps.map Value.ref).toArray.push (.ref s.heap.objs.size) := by simp
      rw [e1]
      exact ⟨_, e0⟩
    refine wpAny_updateSeq hS' rfl (wpAny_pure ⟨plainId_quiet F.plain_extend_loop _, ih (i + 1) _ (ps ++ [s.heap.objs.size]) _ (by omega) hlt ?_ (by simp [hps]) (Z'.frame up nS fun a b q => ?_) eS (fun j T e => ?_) (fun T hm => ?_) ?_ fun h'' ps' c' q1 q2 q3 q4 q5 q6 => ?_⟩)
      (by simp [hps]; omega) (by simp [hps]; omega)
    · show lo ≤ (h'.update S (Obj.mapSeq (·.push (.ref s.heap.objs.size)))).objs.size
      rw [us, hz']
      exact Nat.le_succ_of_le hsz
    · have q' : h'.get? S = _ := q
      rw [hS'] at q'
      simp at q'
    · rcases Nat.lt_or_ge j ps.length with hj | hj
      · rw [List.getElem?_append_left hj] at e
        obtain ⟨x, y, e1, e2, e3⟩ := hP j T e
        obtain ⟨b1, b2, b3, b4, b5⟩ := big (hT T (List.mem_of_getElem? e)).1
        exact ⟨x, y, e1, e2, kp2 _ _ (by simp [b1, b2, b3, b4, b5]) e3⟩
      · rw [List.getElem?_append_right hj] at e
        have hj2 : j = i := by
          have := (List.getElem?_eq_some_iff.mp e).1
          simp at this
          omega
        subst hj2
        rw [hps, Nat.sub_self] at e
        cases e
        exact ⟨_, _, hx, hy, up _ _ ne1 hp⟩
    · have hT' : lo ≤ T ∧ T < h'.objs.size := by
        rcases List.mem_append.mp hm with hm | hm
        · have q := hT T hm
          exact ⟨q.1, by rw [hz']; exact Nat.lt_succ_of_lt q.2⟩
        · have e : T = s.heap.objs.size := by simpa using hm
          rw [e, hz']
          exact ⟨hsz, Nat.lt_succ_self _⟩
      show lo ≤ T ∧ T < (h'.update S (Obj.mapSeq (·.push (.ref s.heap.objs.size)))).objs.size
      rw [us]
      exact hT'
    · refine List.nodup_append.mpr ⟨nd, by simp, fun a ha b hb => ?_⟩
      have e : b = s.heap.objs.size := by simpa using hb
      rw [e]
      exact Nat.ne_of_lt (hT a ha).2
    · exact hR h'' ps' c' (fun b o hb e => q1 b o hb (kp2 b o hb e)) q2 q3 q4 q5 q6

end
theorem zip_no_len : typeLookup (.type "zip") "__len__" = pure none := am_miss_of_fast (by decide +kernel)
theorem zip_no_hint : typeLookup (.type "zip") "__length_hint__" = pure none := am_miss_of_fast (by decide +kernel)
section
variable {prog : Program} {w : World} {A : Around} {E : Value → Shared → Prop} {s : Shared}
/-- list(z) of a fresh zip -/
theorem call_list_gzip {c1 c2 : Bool} {z TI TO i1 i2 l1 l2 : Addr} {xs ys : Array Value} {Q : Value → Shared → Prop} (hh : A.handled = none) (D : ZipApart z TI TO i1 i2 l1 l2) (hn : min xs.size ys.size ≤ sizeLine) (Z : ZAt c1 c2 z TI TO i1 i2 l1 l2 xs ys 0 s.heap) (hz0 : IsZip s.heap z TI TO .none)
    (hlt : z < s.heap.objs.size ∧ TI < s.heap.objs.size ∧ TO < s.heap.objs.size ∧ i1 < s.heap.objs.size ∧ i2 < s.heap.objs.size ∧ l1 < s.heap.objs.size ∧ l2 < s.heap.objs.size)
    (hQ : ∀ h' S ps c, (∀ b o, b ∉ [z, TO, i1, i2] → s.heap.get? b = some o → h'.get? b = some o) → S = s.heap.objs.size → h'.get? S = some { cls := .type "list", dict := none, data := .seq (ps.map Value.ref).toArray c, slots := #[] } →
      ps.length = min xs.size ys.size → PairsAt h' xs ys ps → (∀ T ∈ ps, s.heap.objs.size < T) → ps.Nodup → Q (.ref S) { s with heap := h' }) :
    wpAny (model prog w) A (call (.type "list") [.ref z]) Q E s := by
  refine callType_codes (Q₁ := fun obj s₁ => obj = .ref s.heap.objs.size ∧ s₁ = { s with heap := s.heap.push { cls := .type "list", data := .seq #[] } }) F.called_list (F.typeCall_list_1 _) F.entry_list_init
    (code_list_new _ ⟨rfl, rfl⟩) fun obj s₁ h₁ => ?_
  obtain ⟨rfl, rfl⟩ := h₁
  obtain ⟨g1, g2, g3, g4, g5, g6, g7⟩ := hlt
  have ne : ∀ {b : Addr}, b < s.heap.objs.size → b ≠ s.heap.objs.size := fun q => Nat.ne_of_lt q
  have nS : s.heap.objs.size ∉ [z, TI, TO, i1, i2, l1, l2] := by
    simp only [List.mem_cons, List.not_mem_nil, or_false, not_or]
    exact ⟨Ne.symm (ne g1), Ne.symm (ne g2), Ne.symm (ne g3), Ne.symm (ne g4), Ne.symm (ne g5), Ne.symm (ne g6), Ne.symm (ne g7)⟩
  have hS : (s.heap.push { cls := .type "list", data := .seq #[] }).get? s.heap.objs.size = some { cls := .type "list", data := .seq #[] } := Heap.get?_push_size _ rfl
  refine ⟨⟨_, hS, rfl⟩, F.args_list_init_2 _ _, ?_⟩
  show wpAny _ A.in1.in1 (do let old ← Builtin.List.listItems (.ref s.heap.objs.size); Builtin.List.listUpdate (.ref s.heap.objs.size) (fun _ => #[]); letGo old.toList.reverse; Builtin.List.listExtendWith (.ref s.heap.objs.size) (.ref z) .none) _ _ _
  refine wpAny_bind ?_
  unfold Builtin.List.listItems
  refine wpAny_bind (wpAny_seqItems hS rfl (wpAny_pure ?_))
  show wpAny _ A.in1.in1 (updateSeq s.heap.objs.size (fun _ => #[]) >>= fun _ => letGo (#[] : Array Value).toList.reverse >>= fun _ => Builtin.List.listExtendWith (.ref s.heap.objs.size) (.ref z) .none) _ _ _
  refine wpAny_bind (wpAny_updateSeq hS rfl ?_)
  have hS2 := Heap.get?_update_self (Obj.mapSeq (fun _ => (#[] : Array Value))) hS rfl
  refine wpAny_bind (wpAny_letGo ?_)
  unfold Builtin.List.listExtendWith
  have up : ∀ (h : Heap) (f : Obj → Obj), (∀ b o, s.heap.get? b = some o → h.get? b = some o) → ∀ b o, s.heap.get? b = some o → (h.update s.heap.objs.size f).get? b = some o := fun h f q b o e =>
    (Heap.get?_update_other _ _ (Ne.symm (Nat.ne_of_lt (Heap.lt_size e)))).trans (q b o e)
  have k1 : ∀ b o, s.heap.get? b = some o → (s.heap.push { cls := .type "list", data := .seq #[] }).get? b = some o := fun b o e => Heap.get?_push_of_some _ e
  have k2 := up _ (Obj.mapSeq (fun _ => (#[] : Array Value))) k1
  have zty : ∀ {h : Heap}, (∀ b o, s.heap.get? b = some o → h.get? b = some o) → Shared.TypeIs { s with heap := h } (.ref z) "zip" := fun {h} q => ⟨_, q _ _ hz0, rfl⟩
  refine wpAny_bind (wpAny_typeOf (zty k2) ?_)
  have h1 : Builtin.List.listSameRef (.ref s.heap.objs.size) (.ref z) = false := by simp [Builtin.List.listSameRef, Ne.symm (ne g1)]
  have h2 : (Value.type "zip" == Value.type "list") = false := by decide
  have h3 : (Value.type "zip" == Value.type "tuple") = false := by decide
  simp only [h1, h2, h3, Bool.or_false, Bool.false_eq_true, if_false]
  refine wpAny_bind ?_
  have hit : ∀ {h : Heap} {Q : Value → Shared → Prop} {E : Value → Shared → Prop} {A : Around}, (∀ b o, s.heap.get? b = some o → h.get? b = some o) → Q (.ref z) { s with heap := h } → wpAny (model prog w) A (pyIter (.ref z)) Q E { s with heap := h } := fun {h Q E A} q hq => wpAny_pyIter_zip (s := { s with heap := h }) (f0 := .none) (q _ _ hz0) hq
  refine hit k2 ?_
  refine wpAny_bind (wpAny_holding ?_)
  unfold Builtin.List.listLengthHint
  refine wpAny_bind (wpAny_specialOf (zty k2) zip_no_len ?_)
  show wpAny _ A.in1.in1 (specialOf (Value.ref z) (Str.ofString "__length_hint__") >>= _) _ _ _
  refine wpAny_bind (wpAny_specialOf (zty k2) zip_no_hint ?_)
  refine wpAny_pure ?_
  show wpAny _ A.in1.in1 (rule "list.extend.makes-room" >>= fun _ => Builtin.List.listTouch (.ref s.heap.objs.size) >>= fun _ =>
    again (.builtin "list.extend.loop" ⟨[.ref s.heap.objs.size, .ref z, .none], []⟩)) _ _ _
  refine wpAny_bind (wpAny_rule ?_)
  refine wpAny_bind ?_
  show wpAny _ A.in1.in1 (updateSeq s.heap.objs.size (·.push .none) >>= fun _ => updateSeq s.heap.objs.size (·.pop)) _ _ _
  refine wpAny_bind (wpAny_updateSeq hS2 rfl ?_)
  have hS3 := Heap.get?_update_self (Obj.mapSeq (·.push Value.none)) hS2 rfl
  refine wpAny_updateSeq (hz := by seq_fits) hS3 rfl ?_
  have hS4 := Heap.get?_update_self (Obj.mapSeq (·.pop)) hS3 rfl
  have k4 := up _ (Obj.mapSeq (·.pop)) (up _ (Obj.mapSeq (·.push Value.none)) k2)
  refine wpAny_pure ⟨plainId_quiet F.plain_extend_loop _, ?_⟩
  have Z0 : ZAt c1 c2 z TI TO i1 i2 l1 l2 xs ys 0 (((Heap.update (Heap.update (Heap.update (s.heap.push { cls := .type "list", data := .seq #[] }) s.heap.objs.size (Obj.mapSeq fun _ => #[])) s.heap.objs.size (Obj.mapSeq (·.push Value.none))) s.heap.objs.size (Obj.mapSeq (·.pop))))) :=
    Z.frame (S := s.heap.objs.size) (fun b o _ e => k4 b o e) nS fun a b q => by
      have := Heap.lt_size (show s.heap.get? s.heap.objs.size = some _ from q)
      exact Nat.lt_irrefl _ this
  have hsz : (((Heap.update (Heap.update (Heap.update (s.heap.push { cls := .type "list", data := .seq #[] }) s.heap.objs.size (Obj.mapSeq fun _ => #[])) s.heap.objs.size (Obj.mapSeq (·.push Value.none))) s.heap.objs.size (Obj.mapSeq (·.pop))))).objs.size = s.heap.objs.size + 1 := by
    simp [Heap.size_push]
  refine loop_zip (A := A.in1) (lo := s.heap.objs.size + 1) (R := _) hh D hn nS ⟨Nat.lt_succ_of_lt g1, Nat.lt_succ_of_lt g3, Nat.lt_succ_of_lt g4, Nat.lt_succ_of_lt g5, Nat.lt_succ_self _⟩ _ 0 _ [] _ rfl (Nat.zero_le _) (Nat.le_of_eq hsz.symm) rfl Z0 hS4 (fun j T e => by simp at e) (fun T hm => by simp at hm) (by simp)
    fun h' ps c q1 q2 q3 q4 q5 q6 => ⟨rfl, hQ h' _ ps c (fun b o hb e => q1 b o (fun hm => ?_) (k4 b o e)) rfl q2 q3 q4 (fun T hm => q5 T hm) q6⟩
  rcases List.mem_cons.mp hm with e' | hm
  · exact Nat.ne_of_lt (Heap.lt_size e) e'
  · exact hb hm
end

/-! ### list(zip(a, b)) as an expression -/
def SqB (c : Bool) (K : PySem.W.Frag) (H : Hp) (a : Addr) (xs : List V) : Prop := match c with
  | true => SqT K H a xs
  | false => SqL K H a xs
def updP (H : Hp) : List Addr → List V → List V → Hp
  | p :: ps, x :: xs, y :: ys => updP (upd H p (.tup [x, y])) ps xs ys
  | _, _, _ => H
def FreP (H : Hp) (ps : List Addr) : Prop := ps.Nodup ∧ ∀ p ∈ ps, H p = none
section
variable {X : Cx} {pins : List (Addr × Obj)} {σ : L2.St} {H : Hp} {s : Shared} {a : Addr}
theorem Inv.sqB {c : Bool} {xs : List V} (I : Inv X pins σ H s) (h : SqB c X.K H a xs) : ∃ its : List Value, Vals xs its ∧ SqAt c s.heap a its.toArray ∧ xs.length ≤ sizeLine := by
  cases c
  · obtain ⟨its, r, p, z⟩ := I.list h
    exact ⟨its, r, p.isList, z⟩
  · obtain ⟨its, r, p, z⟩ := I.tuple h
    exact ⟨its, r, p, z⟩
theorem Inv.track' {o : HO} {oe : Obj} (I : Inv X pins σ H s) (h0 : X.s_0.heap.get? a = none) (hn : H a = none) (ho : s.heap.get? a = some oe) (hv : ∀ v, oe.data ≠ .cell v) (nL : a ≠ X.env.locals) (hp : ∀ p ∈ X.pn ++ pins, p.1 ≠ a) (new : ObjOk X.prog X.w (upd H a o) s.heap a o) : Inv X pins σ (upd H a o) s := by
  have n0 : ∀ b u, X.s_0.heap.get? b = some u → b ≠ a := fun b u e z => by rw [z, h0] at e; cases e
  refine ⟨I.ok, I.os, I.bare, ⟨I.base.keep, I.base.slot, fun b u e n hx => ?_, I.base.there, fun b xs e => ?_, fun b u v e => ?_, fun b ps e => ?_⟩, I.loc, I.cell, ?_, fun y c e => ?_, fun p hpp => ?_, hok_track I.hok hn new, I.len⟩
  · rw [upd_ne (n0 b u e)]; exact I.base.free b u e n hx
  · have q := I.base.tups b xs e
    rw [upd_ne (ne_of_none q hn)]; exact q
  · have q := I.base.frzs b u v e
    rw [upd_ne (ne_of_none q hn)]; exact q
  · obtain ⟨ms, q⟩ := I.base.tbls b ps e
    exact ⟨ms, by rw [upd_ne (ne_of_none q hn)]; exact q⟩
  · rw [upd_ne (Ne.symm nL)]; exact I.free
  · have hc : c ≠ a := fun z => by
      obtain ⟨v, o', e1, e2⟩ := I.cell y c e
      rw [z, ho] at e1
      cases e1
      exact hv _ e2
    rw [upd_ne hc]; exact I.freeC y c e
  · obtain ⟨e, n, r⟩ := I.pin p hpp
    exact ⟨e, by rw [upd_ne (hp p hpp)]; exact n, r⟩
/-- what is wanted of a new object's address a: lo, the heap's size at the beginning -/
theorem track_pairs {lo : Nat} (hlo : X.env.locals < lo) (hpin : ∀ p ∈ X.pn ++ pins, p.1 < lo) (hs0 : X.s_0.heap.objs.size ≤ lo) : ∀ {ps : List Addr} {xs ys : List V} {us vs : List Value} {H : Hp}, Inv X pins σ H s → Vals xs us → Vals ys vs → PairsAt s.heap us.toArray vs.toArray ps →
    (∀ T ∈ ps, lo ≤ T) → FreP H ps → Inv X pins σ (updP H ps xs ys) s
  | [], _, _, _, _, H, I, _, _, _, _, _ => I
  | p :: ps, [], ys, us, vs, H, I, _, _, _, _, _ => I
  | p :: ps, x :: xs, [], us, vs, H, I, _, _, _, _, _ => I
  | p :: ps, x :: xs, y :: ys, us, vs, H, I, rx, ry, hP, hT, ⟨nd, hf⟩ => by
    cases rx with
    | @cons _ u _ us rx rxs =>
      cases ry with
      | @cons _ v _ vs ry rys =>
        obtain ⟨u', v', e1, e2, e3⟩ := hP 0 p rfl
        have hu : u' = u := by simpa using e1.symm
        have hv : v' = v := by simpa using e2.symm
        subst hu hv
        have hp := hT p List.mem_cons_self
        have I' : Inv X pins σ (upd H p (.tup [x, y])) s := Inv.track' I (by
            cases e : X.s_0.heap.get? p with
            | none => rfl
            | some o => exact absurd (Nat.lt_of_lt_of_le (Nat.lt_of_lt_of_le (Heap.lt_size e) hs0) hp) (Nat.lt_irrefl _)) (hf p List.mem_cons_self) e3 (fun w z => by cases z) (Nat.ne_of_gt (Nat.lt_of_lt_of_le hlo hp)) (fun q hq => Nat.ne_of_lt (Nat.lt_of_lt_of_le (hpin q hq) hp))
            ⟨by show 2 ≤ sizeLine; decide, [u', v'], .cons rx (.cons ry .nil), ⟨_, e3, rfl, _, rfl⟩⟩
        have nd' := List.nodup_cons.mp nd
        show Inv X pins σ (updP (upd H p (.tup [x, y])) ps xs ys) s
        refine track_pairs hlo hpin hs0 I' rxs rys (fun j T e => ?_) (fun T hm => hT T (List.mem_cons_of_mem _ hm)) ⟨nd'.2, fun q hq => ?_⟩
        · obtain ⟨a1, a2, b1, b2, b3⟩ := hP (j + 1) T (by simpa using e)
          exact ⟨a1, a2, by simpa using b1, by simpa using b2, b3⟩
        · rw [upd_ne (by rintro rfl; exact nd'.1 hq)]
          exact hf q (List.mem_cons_of_mem _ hq)
theorem updP_none {q : Addr} : ∀ {H : Hp} {ps : List Addr} {xs ys : List V}, q ∉ ps → updP H ps xs ys q = H q
  | H, [], _, _, _ => rfl
  | H, _ :: _, [], _, _ => rfl
  | H, _ :: _, _ :: _, [], _ => rfl
  | H, p :: ps, x :: xs, y :: ys, n => by
    have n' : q ≠ p ∧ q ∉ ps := by simpa using n
    show updP (upd H p (.tup [x, y])) ps xs ys q = H q
    rw [updP_none n'.2, upd_ne n'.1]
end
def tLzip (K : PySem.W.Frag) (ta : TA) : TE := fun σ H Q => ta σ H fun vs H1 => ∃ a b xs ys c1 c2, vs = [.ref a, .ref b] ∧ SqB c1 K H1 a xs ∧ SqB c2 K H1 b ys ∧
  ∀ (ps : List Addr) (p : Addr), ps.length = min xs.length ys.length → FreP H1 (p :: ps) → Q (.ref p) (upd (updP H1 ps xs ys) p (.lst (ps.map V.ref)))
section
variable {X : Cx} {W : WX} {K : PySem.W.Frag} {e e2 : Expr} {ta : TA} {φs : DA} {p p' pos pos' : Pos}
theorem vals_refs : ∀ ps : List Addr, Vals (ps.map V.ref) (ps.map Value.ref)
  | [] => .nil
  | p :: ps => .cons rfl (vals_refs ps)
theorem notin4 {b n : Nat} (h : b < n) : b ∉ [n + 4, n + 3, n, n + 1] := fun hm => by
  have hm' : b = n + 4 ∨ b = n + 3 ∨ b = n ∨ b = n + 1 := by simpa using hm
  omega
theorem pe_lzip (hgl : Gl X "list") (hml : X.mg "list" = none) (hg : Gl X "zip") (hm : X.mg "zip" = none) (hc : X.calm = true) (ha : PA X [e, e2] ta)
    (hs : starEach [e, e2] X.env = (false, eval e X.env) :: starEach [e2] X.env) (hpl : (backTo pos' (starEach [e2] X.env)).any (·.1) = false)
    (hs1 : starEach [.Call (.Name "zip" p') [e, e2] [] pos'] X.env = (false, eval (.Call (.Name "zip" p') [e, e2] [] pos') X.env) :: starEach [] X.env) :
    PE X (.Call (.Name "list" p) [.Call (.Name "zip" p') [e, e2] [] pos'] [] pos) (tLzip X.K ta) := by
  refine ⟨fun pins s σ H Q I h => ?_⟩
  refine wpAny_Call_Name_kw (ld_blt I hgl hml (show bootBuiltins "list" = some (.type "list") from by decide +kernel) ?_ (by decide) (by decide))
  refine PyProof.Rows.callWith_type1 ?_ hs1 rfl
  rw [hs1]
  show wpAny _ _ (spliced ((false, eval (.Call (.Name "zip" p') [e, e2] [] pos') X.env) :: backTo pos (starEach [] X.env))) _ _ s
  refine Calls.spliced_cons (Call_ (ld_blt I hg hm PyProof.Rows.boot_zip (PyProof.Rows.callWith_type1 (thn (ha.run pos' pins s σ H _ I h) fun us s1 ⟨vs, H1, I1, r1, q1⟩ => ?_) hs hpl)))
  obtain ⟨a, b, xs, ys, c1, c2, ex, hqx, hqy, q⟩ := q1
  subst ex
  cases r1 with
  | cons r rr =>
    cases rr with
    | cons r' rr =>
      cases rr
      cases r
      cases r'
      obtain ⟨its, rv, p1, z1⟩ := Inv.sqB I1 hqx
      obtain ⟨its2, rv2, p2, z2⟩ := Inv.sqB I1 hqy
      refine call_gzip p1 p2 fun h' hz hTI hTO h1 h2 hsz hk => Calls.spliced_nil ?_
      have l1 := rv.length
      have l2 := rv2.length
      have D := PySem.W.ktu_apart s1.heap.objs.size a b p1.lt p2.lt
      have Z : ZAt c1 c2 (s1.heap.objs.size + 4) (s1.heap.objs.size + 2) (s1.heap.objs.size + 3) s1.heap.objs.size (s1.heap.objs.size + 1) a b its.toArray its2.toArray 0 h' :=
        ⟨hTI, h1, h2, p1.at fun o e => hk _ o e, p2.at fun o e => hk _ o e, .inl ⟨hz, _, _, hTO⟩⟩
      have n0 : min its.toArray.size its2.toArray.size = min xs.length ys.length := by
        simp only [List.size_toArray]
        rw [← l1, ← l2]
      refine call_list_gzip (s := { s1 with heap := h' }) (I1.ok.hd hc) D (by rw [n0]; omega) Z hz ?_ fun h'' S ps c k2 eS hS hl hP hT nd => ?_
      · have w1 := p1.lt
        have w2 := p2.lt
        show _ < h'.objs.size ∧ _ < h'.objs.size ∧ _ < h'.objs.size ∧ _ < h'.objs.size ∧ _ < h'.objs.size ∧ _ < h'.objs.size ∧ _ < h'.objs.size
        rw [hsz]
        exact ⟨Nat.lt_succ_self _, by show _ + 2 < _ + 5; omega, by show _ + 3 < _ + 5; omega, by show s1.heap.objs.size < s1.heap.objs.size + 5; omega, by show _ + 1 < _ + 5; omega, Nat.lt_of_lt_of_le w1 (Nat.le_add_right _ _), Nat.lt_of_lt_of_le w2 (Nat.le_add_right _ _)⟩
      · have lt' : ∀ {b : Addr} {o : Obj}, s1.heap.get? b = some o → b ∉ [s1.heap.objs.size + 4, s1.heap.objs.size + 3, s1.heap.objs.size, s1.heap.objs.size + 1] := fun {b o} e => notin4 (Heap.lt_size e)
        have I2 : Inv X pins σ H1 { s1 with heap := h'' } := I1.kept (t' := s1.toks) fun b o e => k2 b o (lt' e) (hk b o e)
        have eS' : S = h'.objs.size := eS
        have hSlo : s1.heap.objs.size ≤ S := by rw [eS', hsz]; exact Nat.le_add_right _ _
        have hTlo : ∀ T ∈ ps, S < T := fun T hm => by rw [eS']; exact hT T hm
        have fr : FreP H1 (S :: ps) := by
          refine ⟨List.nodup_cons.mpr ⟨fun hm => Nat.lt_irrefl _ (hTlo S hm), nd⟩, fun q hq => ?_⟩
          rcases List.mem_cons.mp hq with rfl | hq
          · exact I1.hok.fresh hSlo
          · exact I1.hok.fresh (Nat.le_trans hSlo (Nat.le_of_lt (hTlo q hq)))
        have hpin : ∀ p ∈ X.pn ++ pins, p.1 < s1.heap.objs.size := fun p hp => Heap.lt_size (I1.pin p hp).1
        have I3 : Inv X pins σ (updP H1 ps xs ys) { s1 with heap := h'' } := track_pairs I1.lt hpin I1.sz I2 rv rv2 hP (fun T hm => Nat.le_trans hSlo (Nat.le_of_lt (hTlo T hm))) ⟨nd, fun q hq => fr.2 q (List.mem_cons_of_mem _ hq)⟩
        have nS : S ∉ ps := (List.nodup_cons.mp fr.1).1
        have e4 : updP H1 ps xs ys S = none := by rw [updP_none nS]; exact fr.2 S List.mem_cons_self
        have I4 : Inv X pins σ (upd (updP H1 ps xs ys) S (.lst (ps.map V.ref))) { s1 with heap := h'' } := Inv.track' I3 (by
            cases e : X.s_0.heap.get? S with
            | none => rfl
            | some o => exact absurd (Nat.lt_of_lt_of_le (Nat.lt_of_lt_of_le (Heap.lt_size e) I1.sz) hSlo) (Nat.lt_irrefl _)) e4 hS (fun w z => by cases z) (Nat.ne_of_gt (Nat.lt_of_lt_of_le I1.lt hSlo)) (fun q hq => Nat.ne_of_lt (Nat.lt_of_lt_of_le (hpin q hq) hSlo))
            ⟨by rw [List.length_map, hl, n0]; omega, ps.map Value.ref, c, vals_refs ps, hS⟩
        exact ⟨.ref S, _, I4, rfl, q ps S (by rw [hl, n0]) fr⟩
def fLzip (s : DA) : DA := fun δ P EX => s δ (fun ds δ1 => match ds with
  | [x, y] => asO x.items fun xs => asO y.items fun ys => P (zipD xs ys) δ1
  | _ => False) EX
theorem rep_pairs {g : Gh} {σ : L2.St} {δ : Dl} : ∀ {ps : List Addr} {xs ys : List V} {ds es : List D} {A H : Hp}, Rep K g σ δ A H → FreP H ps → DrAll K A xs ds → DrAll K A ys es → ps.length = min xs.length ys.length →
    ∃ A', Rep K g σ δ A' (updP H ps xs ys) ∧ Same A A' ∧ DrAll K A' (ps.map V.ref) (zipD ds es)
  | [], xs, ys, ds, es, A, H, R, _, dx, dy, hl => by
    refine ⟨A, R, Same.refl _, ?_⟩
    cases dx with
    | nil => exact .nil
    | cons a b =>
      cases dy with
      | nil => exact .nil
      | cons c d => simp only [List.length_cons, List.length_nil] at hl; omega
  | p :: ps, [], ys, ds, es, A, H, R, _, dx, dy, hl => by simp at hl
  | p :: ps, x :: xs, [], ds, es, A, H, R, _, dx, dy, hl => by simp at hl
  | p :: ps, x :: xs, y :: ys, _, _, A, H, R, ⟨nd, hf⟩, .cons dx dxs, .cons dy dys, hl => by
    have hp := hf p List.mem_cons_self
    have sp := upd_put (o := .tup [x, y]) (R.free hp).1
    have nd' := List.nodup_cons.mp nd
    obtain ⟨A', R', s', d'⟩ := rep_pairs (ps := ps) (R.put (o := .tup [x, y]) hp) ⟨nd'.2, fun q hq => by rw [upd_ne (by rintro rfl; exact nd'.1 hq)]; exact hf q (List.mem_cons_of_mem _ hq)⟩ (dxs.same sp) (dys.same sp) (by simp only [List.length_cons] at hl; omega)
    exact ⟨A', R', sp.trans s', .cons ((Dr.tup (SqT.of upd_same) (.cons (dx.same sp) (.cons (dy.same sp) .nil))).same s') d'⟩
theorem items_sqB {A H : Hp} {v : V} {d : D} {l : List D} (s : Same A H) (h : Dr K A v d) (e : d.items = some l) : ∃ q xs c, v = .ref q ∧ SqB c K H q xs ∧ DrAll K A xs l := by
  cases h <;> cases e
  · rename_i a xs h1 h2
    exact ⟨a, xs, false, rfl, SqL.of (s _ _ h1), h2⟩
  · rename_i a xs h1 h2
    exact ⟨a, xs, false, rfl, s.seq h1, h2⟩
  · rename_i a xs h1 h2
    exact ⟨a, xs, true, rfl, sqT_same s h1, h2⟩
theorem df_lzip (hml : X.mg "list" = none) (hm : X.mg "zip" = none) (ha : DAr X W [e, e2] ta φs) (hgl : Gl X "list" := by rfl) (hg : Gl X "zip" := by rfl) (hc : X.calm = true := by rfl)
    (hs : starEach [e, e2] X.env = (false, eval e X.env) :: starEach [e2] X.env := by rfl) (hpl : (backTo pos' (starEach [e2] X.env)).any (·.1) = false := by rfl)
    (hs1 : starEach [.Call (.Name "zip" p') [e, e2] [] pos'] X.env = (false, eval (.Call (.Name "zip" p') [e, e2] [] pos') X.env) :: starEach [] X.env := by rfl) :
    DF X W (.Call (.Name "list" p) [.Call (.Name "zip" p') [e, e2] [] pos'] [] pos) (tLzip X.K ta) (fLzip φs) := by
  refine ⟨pe_lzip hgl hml hg hm hc ha.pa hs hpl hs1, fun g σ δ A H P EX Q R h hQ hX => ha.lk g σ δ A H _ EX _ R h (fun vs ds δ1 A1 H1 R1 s1 d1 h1 => ?_) hX⟩
  match ds, d1, h1 with
  | [x, y], .cons dx (.cons dy .nil), h1 =>
    obtain ⟨xs, hx, h1⟩ := asO_of h1
    obtain ⟨ys, hy, h1⟩ := asO_of h1
    obtain ⟨a, us, c1, rfl, sa, da⟩ := items_sqB R1.sub dx hx
    obtain ⟨b, vs, c2, rfl, sb, db⟩ := items_sqB R1.sub dy hy
    refine ⟨a, b, us, vs, c1, c2, rfl, sa, sb, fun ps p hl fr => ?_⟩
    have nd := List.nodup_cons.mp fr.1
    obtain ⟨A2, R2, s2, d2⟩ := rep_pairs (ps := ps) R1 ⟨nd.2, fun q hq => fr.2 q (List.mem_cons_of_mem _ hq)⟩ da db hl
    have hp : updP H1 ps us vs p = none := by rw [updP_none nd.1]; exact fr.2 p List.mem_cons_self
    exact hQ p _ _ δ1 _ _ (R2.lay hp) (s1.trans s2) (R2.fresh hp d2) h1
end
end RL
set_option Elab.async false
set_option linter.all false
set_option maxRecDepth 100000
set_option maxHeartbeats 4000000
/-! R14: lists that may change, by address; reversed lists; a def that asks a lambda and keeps what it raises. -/
namespace RL
open PySem PySem.Spec PyProof.Rows L2 RZ NdefX LamX

section
variable {X : Cx} {W : WX} {K : PySem.W.Frag} {e : Expr} {te : TE} {φ : DM} {φs : DA} {pos p : Pos}
/-- a list just made, held by its address: it may change -/
def mPtr (s : DA) : DM := fun δ P EX => s δ (fun xs δ1 => ∀ q, δ1.m q = none → P (.ptr q) { δ1 with m := mup δ1.m q (.ls xs) }) EX
theorem Fre.ptr {g : Gh} {σ : L2.St} {δ : Dl} {A H : Hp} {p : Addr} {xs : List V} {l : List D} (F : Fre K g σ δ A H p xs l) (R : Rep K g σ δ A H) : Rep K g σ { δ with m := mup δ.m p (.ls l) } A H := by
  refine ⟨R.sub, R.old, R.new, R.keep, R.dm, fun b n z => ?_, fun b n => ?_, R.tabs, R.len, R.im, fun i l' e => ?_, R.dis, ⟨fun q l' e => ?_, fun q C fs e => ?_⟩⟩
  · show mup δ.m p (.ls l) b = none
    rw [mup_ne (fun q => n (by rw [q]; exact F.h0))]
    exact R.d1 b n z
  · show mup δ.m p (.ls l) b ≠ none
    by_cases hb : b = p
    · rw [hb, mup_same]; simp
    · rw [mup_ne hb]; exact R.d2 b n
  · obtain ⟨q, ys, h1, h2, h3, h4, h5, h6⟩ := R.ow i l' e
    refine ⟨q, ys, h1, h2, h3, h4, ?_, h6⟩
    show mup δ.m p (.ls l) q = none
    rw [mup_ne (fun z => F.ne i l' e (by rw [h1, z]))]
    exact h5
  · have e : mup δ.m p (.ls l) q = some (.ls l') := e
    by_cases hq : q = p
    · rw [hq, mup_same] at e
      cases e
      exact ⟨xs, by rw [hq]; exact F.at', by rw [hq]; exact F.a, F.dr⟩
    · rw [mup_ne hq] at e
      exact R.mr.ls q l' e
  · have e : mup δ.m p (.ls l) q = some (.ob C fs) := e
    by_cases hq : q = p
    · rw [hq, mup_same] at e
      cases e
    · rw [mup_ne hq] at e
      exact R.mr.ob q C fs e
theorem de_ptr (h : DF X W e te φs) : DE X W e te (mPtr φs) := ⟨h.pe, fun g σ δ A H P EX Q R q hQ hX => h.lk g σ δ A H _ EX _ R q (fun p xs l δ1 A1 H1 R1 s1 F1 h1 => hQ _ _ _ A1 H1 (F1.ptr R1) s1 (.ptr p) (h1 p F1.m)) hX⟩
/-- xs[::-1] -/
def fRev (a : DM) : DA := fun δ P EX => a δ (fun x δ1 => match x with
  | .lst l => P l.reverse δ1
  | .rol l => P l.reverse δ1
  | _ => False) EX
theorem df_rev {k : Nat} {p1 p2 p3 : Pos} (ha : DE X W e te φ) : DF X W (.Subscript e (.Slice none none (some (.UnaryOp .USub (.Constant (.int 1) k p1) p2)) p3) pos) (tRevL X.K te) (fRev φ) := by
  refine ⟨pe_revL ha.pe, fun g σ δ A H P EX Q R h hQ hX => ha.lk g σ δ A H _ EX _ R h (fun x d δ1 A1 H1 R1 s1 d1 h1 => ?_) hX⟩
  cases d1 <;> try exact h1.elim
  · rename_i q xs ds k1 k2
    exact ⟨q, xs, rfl, SqL.of (R1.sub _ _ k1), fun r hr => hQ r _ _ δ1 _ _ (R1.lay hr) s1 (R1.fresh hr k2.reverse) h1⟩
  · rename_i q xs ds k1 k2
    exact ⟨q, xs, rfl, R1.sub.seq k1, fun r hr => hQ r _ _ δ1 _ _ (R1.lay hr) s1 (R1.fresh hr k2.reverse) h1⟩
end

/-! ### a frame with nothing known of its names -/
theorem rep_un {K : PySem.W.Frag} {A H : Hp} {m : Mh} {σ : L2.St} {n : Nat} (h1 : Same A H) (h2 : TabA K A H) (h3 : MR K A H m) (hl : σ.length = n) : Rep K (Gh.of A H m) σ ⟨List.replicate n .un, m⟩ A H := by
  have un : ∀ (i : Nat) (x : SD), (List.replicate n SD.un)[i]? = some x → x = .un := fun i x e => by
    rw [List.getElem?_replicate] at e
    split at e
    · exact (Option.some.inj e).symm
    · cases e
  refine ⟨h1, Same.refl _, fun _ _ _ => rfl, fun _ _ _ _ _ e => e, fun _ n => n, fun _ _ n => n, fun _ n => n, h2, ?_, fun i d e => ?_, fun i l e => ?_, fun i j p l l' e _ _ _ => ?_, h3⟩
  · show σ.length = (List.replicate n SD.un).length
    rw [hl, List.length_replicate]
  · cases un i _ e
  · cases un i _ e
  · cases un i _ e
def hid : SD → SD
  | .ow _ => .un
  | x => x
/-- from another frame: the own lists are out of sight -/
theorem Rep.hide {K : PySem.W.Frag} {g : Gh} {σ : L2.St} {δ : Dl} {A H : Hp} (R : Rep K g σ δ A H) : Rep K (Gh.of A H δ.m) σ ⟨δ.s.map hid, δ.m⟩ A H := by
  have im : ∀ (i : Nat) (d : D), (δ.s.map hid)[i]? = some (.im d) → δ.s[i]? = some (.im d) := fun i d e => by
    rw [List.getElem?_map] at e
    cases h : δ.s[i]? with
    | none => rw [h] at e; cases e
    | some x =>
      rw [h] at e
      cases x with
      | un => cases e
      | im d' => exact e
      | ow l => cases e
  have ow : ∀ (i : Nat) (l : List D), (δ.s.map hid)[i]? ≠ some (.ow l) := fun i l e => by
    rw [List.getElem?_map] at e
    cases h : δ.s[i]? with
    | none => rw [h] at e; cases e
    | some x =>
      rw [h] at e
      cases x <;> cases e
  refine ⟨R.sub, Same.refl _, fun _ _ _ => rfl, fun _ _ _ _ _ e => e, fun _ n => n, fun _ _ n => n, fun _ n => n, R.tabs, ?_, fun i d e => R.im i d (im i d e), fun i l e => absurd e (ow i l), fun i j p l l' e _ _ _ => absurd e (ow i l), R.mr⟩
  show σ.length = (δ.s.map hid).length
  rw [List.length_map]
  exact R.len
/-- only the table at P grows -/
def ExtP (P : Addr) (H H' : Hp) : Prop := (∀ b o, b ≠ P → H b = some o → H' b = some o) ∧ H' P ≠ none
theorem Rep.extP {K : PySem.W.Frag} {g : Gh} {σ : L2.St} {δ : Dl} {A H H1 : Hp} {P : Addr} {q : Str} (R : Rep K g σ δ A H) (hP : (P, q) ∈ TK K) (e : ExtP P H H1) (t : LamX.Tabs (TK K) H1) : Rep K g σ δ A H1 := by
  obtain ⟨⟨ps, h1, _⟩, hA⟩ := R.tabs _ hP
  refine R.grow (fun b o q => e.1 b o (fun z => by rw [z, hA] at q; cases q) (R.sub b o q)) (Same.refl _) (fun b o n q => e.1 b o (fun z => by rw [z, h1] at q; cases q; exact n) q) (fun b n => ?_) (fun b n => rfl) fun p hp => ⟨t p hp, (R.tabs p hp).2⟩
  by_cases hb : b = P
  · rw [hb]; exact e.2
  · cases q : H b with
    | none => exact absurd q n
    | some o => rw [e.1 b o hb q]; simp
section
variable {X : Cx} {pins : List (Addr × Obj)} {σ : L2.St} {H : Hp} {s : Shared}
/-- a lambda is made -/
theorem lam_makeP {T : List (Addr × Str)} {c P : Addr} {params : Arguments} {body : Expr} {scope : Scope} {pos : Pos} {E : Value → Shared → Prop} {Q : Value → Shared → Prop} (I : Inv X pins σ H s) (TB : TabB X.base X.mg c P) (hcode : X.env.code = .ref c)
    (hm : (P, X.env.qual ++ "<lambda>") ∈ T) (hu : ∀ p ∈ T, p.1 = P → p.2 = X.env.qual ++ "<lambda>") (hT : Tabs T H) (hdef : defaultsOf params X.env = ([], [])) (hfree : ∀ y ∈ scope.names, y.2 = .free → ∃ c, X.env.cells.lookup y.1 = some c)
    (h : ∀ (f c' : Addr) (pm ctv : Value) (H1 : Hp) (s' : Shared), Inv X pins σ H1 s' → ExtP P H H1 → Tabs T H1 →
      s'.heap.get? f = some (PySem.W.kla_obj "<lambda>" (X.env.qual ++ "<lambda>") params body scope (cloFrom X.env.cells scope.names []) pm c' ctv) → H1 f = none → f ∉ frs X.stack → H1 c' = some (CodeO c' (X.env.qual ++ "<lambda>")) → Q (.ref f) s') :
    wpAny (model X.prog X.w) X.A (eval (.Lambda params body scope pos) X.env) Q E s := by
  obtain ⟨ps, hP, ht, ha⟩ := hT _ hm
  refine PySem.W.kla_eval hdef ?_
  have bP : s.heap.BuiltinsAt X.mg P := TB.bm.keeps I.bk
  have hP' : s.heap.get? P = some { cls := .none, data := .fields ps } := I.hok P _ hP
  have nofr : ∀ f, s.heap.objs.size ≤ f → f ∉ frs X.stack := fun f hf z => by
    rcases List.mem_cons.mp (I.stkSub _ z) with e | e
    · have h1 := I.lt
      rw [← e] at h1
      exact Nat.lt_irrefl _ (Nat.lt_of_lt_of_le h1 hf)
    · exact I.nofs hf e
  cases hc : codeAmong pos ps.toList with
  | none =>
    refine PySem.W.kla_makeFunction (mg := X.mg) (c := c) (P := P) (ps := ps) (closure_ok hfree) I.ok.glob (I.mod.glob.keeps I.bk) hcode (TB.code.keeps I.bk) hP' ht hc TB.gP bP fun c' ctv h' tk hx hge hlt hrec htb => ?_
    obtain ⟨c2, oc, vs, t, e2, hoc, hd, hv⟩ := hrec
    cases e2
    have hsz : s.heap.objs.size ≤ h'.objs.size := Nat.le_trans hge (Nat.le_of_lt hlt)
    have nC : H c' = none := I.hok.fresh hge
    have I1 := inv_table (t' := tk) (more := #[rawInt pos.line, rawInt pos.col, .ref c']) (h' := h'.push (PySem.W.kla_obj "<lambda>" (X.env.qual ++ "<lambda>") params body scope (cloFrom X.env.cells scope.names []) ((X.mg "__name__").getD .none) c' ctv)) I hP
      (fun b o hb e => Heap.get?_push_of_some _ (hx b o hb e)) (Heap.get?_push_of_some _ htb) hge ⟨oc, vs, t, Heap.get?_push_of_some _ hoc, hd, hv⟩
    have hE : ExtP P H (upd (upd H P (.tbl (ps ++ #[rawInt pos.line, rawInt pos.col, .ref c']))) c' (CodeO c' (X.env.qual ++ "<lambda>"))) :=
      ⟨fun b o hb e => by rw [upd_ne (ne_of_none e nC), upd_ne hb]; exact e, by rw [upd_ne (ne_of_none hP nC), upd_same]; simp⟩
    have noT : ∀ {c0 : Addr}, H c0 = some (CodeO c0 (X.env.qual ++ "<lambda>")) → c0 ≠ P := fun {c0} e z => by
      rw [z, hP] at e
      exact codeO_ne _ (Option.some.inj e).symm
    have eL : (ps ++ #[rawInt pos.line, rawInt pos.col, .ref c']).toList = ps.toList ++ [rawInt pos.line, rawInt pos.col, .ref c'] := by simp
    refine h h'.objs.size c' ((X.mg "__name__").getD .none) ctv _ _ I1 hE (fun p hp => ?_) (Heap.get?_push_size _ rfl) ?_ (nofr _ hsz) upd_same
    · by_cases hb : p.1 = P
      · rw [hu p hp hb, hb]
        refine ⟨_, by rw [upd_ne (ne_of_none hP nC), upd_same], by rw [eL]; exact PySem.TriplesOk_snoc _ _ _ _ ht, fun p' cv hcv => ?_⟩
        rw [eL] at hcv
        rcases among_app _ ht hcv with z | z
        · obtain ⟨c0, e1, e2⟩ := ha p' cv z
          exact ⟨c0, e1, hE.1 _ _ (noT e2) e2⟩
        · exact ⟨c', z, upd_same⟩
      · obtain ⟨ps', a1, a2, a3⟩ := hT p hp
        refine ⟨ps', by rw [upd_ne (ne_of_none a1 nC), upd_ne hb]; exact a1, a2, fun p' cv hcv => ?_⟩
        obtain ⟨c0, e1, e2⟩ := a3 p' cv hcv
        have n0 : c0 ≠ P := fun z => by
          rw [z, hP] at e2
          exact codeO_ne _ (Option.some.inj e2).symm
        exact ⟨c0, e1, hE.1 _ _ n0 e2⟩
    · have n1 : h'.objs.size ≠ c' := Nat.ne_of_gt hlt
      have n2 : h'.objs.size ≠ P := Nat.ne_of_gt (Nat.lt_of_lt_of_le (Heap.lt_size hP') hsz)
      rw [upd_ne n1, upd_ne n2]
      exact I.hok.fresh hsz
  | some cv =>
    obtain ⟨c', e, hco⟩ := ha pos cv hc
    subst e
    refine PySem.W.kla_makeFunctionHit (mg := X.mg) (c := c) (P := P) (ps := ps) (closure_ok hfree) I.ok.glob (I.mod.glob.keeps I.bk) hcode (TB.code.keeps I.bk) hP' ht hc bP fun ctv h' tk hx hsz => ?_
    have I1 : Inv X pins σ H { s with heap := h'.push (PySem.W.kla_obj "<lambda>" (X.env.qual ++ "<lambda>") params body scope (cloFrom X.env.cells scope.names []) ((X.mg "__name__").getD .none) c' ctv), toks := tk } := I.kept fun b o e => Heap.get?_push_of_some _ (hx b o e)
    exact h h'.objs.size c' ((X.mg "__name__").getD .none) ctv H _ I1 ⟨fun _ _ _ e => e, by rw [hP]; simp⟩ hT (Heap.get?_push_size _ rfl) (I.hok.fresh hsz) (nofr _ hsz) hco
/-- x(), in the def that got the lambda -/
theorem pe_actE {Eg : XK} {Ng : List Str} {qg : Str} {sg : Scope} {g f c' : Addr} {cdg pm ctv : Value} {params : Arguments} {body : Expr} {scope : Scope} {k i : Nat} {a : Str} {pn : List (Addr × Obj)} {xe : Value → Shared → Prop} {W : WX} {tb : XK → TE} {p1 p2 : Pos}
    (I : Inv X pins σ H s) (L : LamS X.env.scope scope) (hf : s.heap.get? f = some (PySem.W.kla_obj "<lambda>" (X.env.qual ++ "<lambda>") params body scope (cloFrom X.env.cells scope.names []) pm c' ctv)) (hfn : H f = none) (hfr : f ∉ frs X.stack)
    (hbind : bindArgs (PySem.W.kla_fn "<lambda>" (X.env.qual ++ "<lambda>") params body scope (cloFrom X.env.cells scope.names []) pm (.ref c') ctv) ⟨[], []⟩ = pure [])
    (tk : Takes ((cxOf (L2.CX X.prog X.w) X.prog X.w X.K X.mg X.base Ng qg sg g cdg X.A X.stack s H Eg).tr pn xe) W) (hr : Room (k + 1) (X.A.deeper (envOfC qg sg s.heap.objs.size g cdg)))
    (hbody : ∀ (E : XK) (outer : List Env) (s2 : Shared) (H2 : Hp), Room k ((X.A.deeper (envOfC qg sg s.heap.objs.size g cdg)).deeper (lamEnv X scope s2.heap.objs.size f c')) → PE (lamCx X (X.A.deeper (envOfC qg sg s.heap.objs.size g cdg)) outer s2 H2 E scope f c') body (tb E))
    (hN : Ng[i]? = some a) (hv : Vis sg a) (hd : (a == ("__debug__" : Str)) = false) (hcd : (a == ("__classdict__" : Str)) = false) :
    PE ((cxOf (L2.CX X.prog X.w) X.prog X.w X.K X.mg X.base Ng qg sg g cdg X.A X.stack s H Eg).tr pn xe) (.Call (.Name a p1) [] [] p2)
      (fun σZ HZ Q => σZ[i]? = some (some (.ref f)) ∧ HZ c' = some (CodeO c' (X.env.qual ++ "<lambda>")) ∧ tb (WE W σZ) σ HZ Q) := by
  refine ⟨fun pinsZ sZ σZ HZ Q IZ h => ?_⟩
  obtain ⟨hs, hc, ht⟩ := h
  refine wpAny_Call_Name_kw (thn ((pe_var (pos := p1) (i := i) hN hv hd hcd).run pinsZ sZ σZ HZ (fun v H1 => v = .ref f ∧ H1 = HZ) IZ ⟨.ref f, hs, rfl, rfl⟩) fun u s1 ⟨v, H1, I1, r1, q1⟩ => ?_)
  obtain ⟨ev, eH⟩ := q1
  subst ev
  rw [eH] at I1
  obtain rfl : u = Value.ref f := r1
  have of1 : s1.heap.get? f = some (PySem.W.kla_obj "<lambda>" (X.env.qual ++ "<lambda>") params body scope (cloFrom X.env.cells scope.names []) pm c' ctv) := I1.base.keep f _ hf hfn hfr (fun z => nomatch (show f ∈ ([] : List Addr) from z))
  refine PySem.W.callWith_F0 ⟨_, _, _, _, of1⟩ ?_
  have un : Un (frs X.stack) [] H HZ s.heap s1.heap := I1.base
  obtain ⟨⟨oc, vs, t, hoc, hdc, hvc⟩, _, _⟩ := I1.hok c' _ hc
  have rc : codeAny (model X.prog X.w) (X.A.deeper (envOfC qg sg s.heap.objs.size g cdg)) (.call (.ref f) ⟨[], []⟩) (CR (L2.CX X.prog X.w) (envOfC qg sg s.heap.objs.size g cdg :: X.stack) X.prog X.w HZ s1 Q (WE W σZ)) s1 := by
    refine PySem.W.kla_callFunE hr.depth of1 rfl L.co L.gen rfl ⟨c', oc, vs, t, rfl, hoc, hdc, hvc⟩ ?_
    rw [hbind]
    refine wpAny_pure (wpAny_newFunctionEnv (fun y hy => (L.own y hy).2) (fun y hy => absurd hy (by simp)) (fun h₁ hns hsb => ⟨I1.nolimit.fresh _ hsb, ?_⟩) L.kind)
    show codeAny _ _ (.expr body (lamEnv X scope s1.heap.objs.size f c')) _ _
    have kp : ∀ b o, s1.heap.get? b = some o → h₁.get? b = some o := fun b o e => hsb.extBut b o (Nat.ne_of_lt (Heap.lt_size e)) (Heap.get?_push_of_some _ e)
    have J : Inv (lamCx X (X.A.deeper (envOfC qg sg s.heap.objs.size g cdg)) (envOfC qg sg s.heap.objs.size g cdg :: X.stack) s1 HZ (WE W σZ) scope f c') [] σ HZ { s1 with heap := h₁, toks := s1.toks + ([] : List (Str × Value)).length } :=
      lam_start2 I L I1.env0 hr.hd un hns kp
    refine PySem.W.kla_codeExpr (wpAny_mono ((hbody _ _ s1 HZ (hr.deeper _)).run [] _ _ HZ Q J ht) (fun v s' hq => ?_) fun e s' hq => hq)
    obtain ⟨w', H', J', rv, q⟩ := hq
    exact ⟨w', H', J'.os, J'.bare, J'.base, J'.hok, rv, q⟩
  refine wpAny_call (codeAny_mono rc fun r s' hq => ?_)
  cases r with
  | error e => exact passAt tk σZ pinsZ HZ s1 e s' I1 hq
  | ok fl =>
    cases fl with
    | ret u => exact I1.after hq
    | next => exact False.elim hq
    | brk => exact False.elim hq
    | cont => exact False.elim hq
end

/-! ### a def that asks a lambda, keeps what it raises: y = None; try: a() except x as n: y = n; .. -/
/-- the rest of its body, told of what was kept -/
abbrev Rsp := D → Mh → (D → Mh → Prop) → (Er → Mh → Prop) → Prop
structure HeardK (K : PySem.W.Frag) (mg : Str → Option Value) (x a n y c : Str) (st : Stmt) (Ng : List Str) (i j : Nat) (cv : Value) (cat : Addr → Option Bool) : Prop where
  fn : ∃ (ga : Addr) (fd : FuncData), L2.Fun K x x st ga fd ∧ mg x = some (.ref ga) ∧ L2.Binds K fd [a] []
  sc : FnScope Ng [a] (defScope st)
  ia : Ng[0]? = some a
  ii : Ng[i]? = some n
  ij : Ng[j]? = some y
  ne : i ≠ j
  ne0 : (0 : Nat) ≠ j
  va : Vis (defScope st) a
  ln : (defScope st).names.lookup n = some .local
  ly : (defScope st).names.lookup y = some .local
  gc : (defScope st).names.lookup c = some .globalImplicit
  mc : mg c = some cv
  dn : ∀ z ∈ [a, n, y, c], (z == ("__debug__" : Str)) = false ∧ (z == ("__classdict__" : Str)) = false
  cat : ∀ C b, cat C = some b → PySem.W.exmOne K (.ref C) cv = some b
def mHeard (cat : Addr → Option Bool) (sp : Rsp) (φb : DM) : DM := fun δ P EX =>
  φb ⟨δ.s.map hid, δ.m⟩ (fun _ δ' => sp .non δ'.m (fun d m' => P d { δ with m := m' }) (fun er m' => EX er { δ with m := m' }))
    (fun er δ' => asO (cat er.C) fun b => if b = true then sp (.exc er.C er.fs) δ'.m (fun d m' => P d { δ with m := m' }) (fun er m' => EX er { δ with m := m' }) else EX er { δ with m := δ'.m })
/-- the reading: what is left to be told of the state in which the lambda is made -/
def tHeard (K : PySem.W.Frag) (P : Addr) (G : L2.St → Hp → VK → Prop) : TE := fun σ H Q => LamX.Tabs (TK K) H ∧ ∀ H1, ExtP P H H1 → LamX.Tabs (TK K) H1 → G σ H1 Q
section
variable {X : Cx} {W : WX} {K : PySem.W.Frag}
theorem pe_heard {x a n y c : Str} {st : Stmt} {Ng : List Str} {i j : Nat} {cv : Value} {cat : Addr → Option Bool} {cA PA : Addr} {k : Nat} {params : Arguments} {body : Expr} {scope : Scope} {t : XK → TE} {p lpos pos : Pos} {G : L2.St → Hp → VK → Prop}
    {rest : List Stmt} {lq q1 q2 q3 q4 q5 q6 q7 q8 q9 q10 q11 : Pos} {kk : Nat}
    (HK : HeardK X.K X.mg x a n y c st Ng i j cv cat) (hbd : defBody st = .Assign [.Name y q1] (.Constant .none kk q2) q3 :: .Try [.Expr (.Call (.Name a q4) [] [] q5) q6] [.ExceptHandler (some (.Name c q7)) (some n) [.Assign [.Name y q8] (.Name n q9) q10] q11] [] [] lpos :: rest)
    (hg : Gl X x) (TB : TabB X.base X.mg cA PA) (hcode : X.env.code = .ref cA) (hmT : (PA, X.env.qual ++ "<lambda>") ∈ TK X.K) (hu : ∀ p ∈ TK X.K, p.1 = PA → p.2 = X.env.qual ++ "<lambda>") (hr : Room (k + 2) X.A) (L : LamS X.env.scope scope) (hdef : defaultsOf params X.env = ([], []))
    (hbind : ∀ (q : Str) (cl : List (Str × Addr)) (pm cv ctv : Value), bindArgs (PySem.W.kla_fn "<lambda>" q params body scope cl pm cv ctv) ⟨[], []⟩ = pure []) (tk : Takes X W)
    (hbody : ∀ (A : Around) (outer : List Env) (s : Shared) (H : Hp) (E : XK) (f c' : Addr), (X.A.guards = some [] → A.guards = some []) → Room k (A.deeper (lamEnv X scope s.heap.objs.size f c')) → PE (lamCx X A outer s H E scope f c') body (t E))
    (hG : ∀ (f c' g : Addr) (cdg : Value) (s : Shared) (H : Hp) (σ : L2.St) (Q : VK) (pins : List (Addr × Obj)), H c' = some (CodeO c' (X.env.qual ++ "<lambda>")) → G σ H Q → ∃ tr : TS,
      (Room (k + 1) (X.A.deeper (envOfC x (defScope st) s.heap.objs.size g cdg)) → PSs (cxOf (L2.CX X.prog X.w) X.prog X.w X.K X.mg X.base Ng x (defScope st) g cdg X.A X.stack s H (WE W σ)) rest tr) ∧
      t (WE (wKeep X.K cv i j (fun cls d _ H' => WE W σ cls d H') { nx := tr { nx := fun _ H' => Q .non H', rt := Q }, rt := Q }) ((L2.start Ng [.ref f]).set j (some .non))) σ H (fun _ H' => tr { nx := fun _ H' => Q .non H', rt := Q } ((L2.start Ng [.ref f]).set j (some .non)) H'))
    (hdb : (x == ("__debug__" : Str)) = false := by decide) :
    PE X (.Call (.Name x p) [.Lambda params body scope lq] [] pos) (tHeard X.K PA G) := by
  refine ⟨fun pins s σ H Q I h => ?_⟩
  obtain ⟨hT, h⟩ := h
  obtain ⟨ga, fd, F, hm, hb⟩ := HK.fn
  obtain ⟨oc, od, kV, doc, pm, an, cdg, ct, osl, rfl, lk, hcg⟩ := F.ex
  refine wpAny_Call_Name_kw (ld_glob I hg hm ?_ hdb)
  refine PySem.W.callWith_K (h₀ := X.base) I.ok.mod.kin F.kp ?_ (by rfl) (by rfl)
  show wpAny _ _ (spliced ((false, eval (.Lambda params body scope lq) X.env) :: backTo pos (starEach [] X.env))) _ _ s
  refine Calls.spliced_cons (lam_makeP I TB hcode hmT hu hT hdef (L.has I.ok) fun f c' pm' ctv H1 s' I1 eN T1 hf hfn hfr hco => ?_)
  refine Calls.spliced_nil ⟨I1.kIn, ?_⟩
  have rc : codeAny (model X.prog X.w) X.A (.call (.ref ga) ⟨[.ref f], []⟩) (CR (L2.CX X.prog X.w) X.stack X.prog X.w H1 s' Q (WE W σ)) s' := by
    refine run_ofS (N := Ng) (ps := [a]) (us := [.ref f]) (vs := [.ref f]) lk hcg HK.sc hr I1.env0 (hb s' [.ref f] I1.kIn rfl) (.cons rfl .nil) rfl fun hr' => ?_
    obtain ⟨tr, h1, h2⟩ := hG f c' ga cdg s' H1 σ Q pins hco (h H1 eN T1)
    have d0 := HK.dn a (by simp)
    have d1 := HK.dn n (by simp)
    have d2 := HK.dn y (by simp)
    have d3 := HK.dn c (by simp)
    refine ⟨tSeq (tAsg (tC .non) (gName j)) (tSeq (fun D σZ HZ => (fun W' => tDrop (fun σZ HZ Q => σZ[0]? = some (some (.ref f)) ∧ HZ c' = some (CodeO c' (X.env.qual ++ "<lambda>")) ∧ t (WE W' σZ) σ HZ Q)) (wKeep X.K cv i j (fun cls d _ H' => WE W σ cls d H') D) D σZ HZ) tr), ?_, ?_⟩
    · rw [hbd]
      refine pss_cons (ps_set HK.sc.nd HK.ij (.inl HK.ly) pe_non (by rfl) (.inl rfl)) (pss_cons ?_ (h1 hr'))
      refine ps_try_keep (X := cxOf (L2.CX X.prog X.w) X.prog X.w X.K X.mg X.base Ng x (defScope st) ga cdg X.A X.stack s' H1 (WE W σ)) (i := i) (j := j) (tb := fun W' => tDrop (fun σZ HZ Q => σZ[0]? = some (some (.ref f)) ∧ HZ c' = some (CodeO c' (X.env.qual ++ "<lambda>")) ∧ t (WE W' σZ) σ HZ Q)) rfl rfl rfl HK.sc.nd HK.ii HK.ln ⟨HK.gc, d3.1, .inl HK.mc⟩ (takes_of rfl rfl rfl rfl) (fun W' pn xe tk' _ => ?_) (fun a' oe pn => ?_)
      · exact pss_one (ps_expr (pe_actE I1 L hf hfn hfr (hbind _ _ _ _ _) tk' hr' (fun E outer s2 H2 hr2 => hbody _ outer s2 H2 E f c' (fun gd => guards_deeper _ gd) hr2) HK.ia HK.va d0.1 d0.2) (by rfl))
      · exact ps_set HK.sc.nd HK.ij (.inl HK.ly) (pe_var HK.ii (.inl HK.ln) d1.1 d1.2) (by rfl) (.inl rfl)
    · refine ⟨?_, hco, h2⟩
      rw [List.getElem?_set_ne (Ne.symm HK.ne0)]
      rfl
  refine wpAny_call (codeAny_mono rc fun r s2 hq => ?_)
  cases r with
  | error e => exact passAt tk σ pins H1 s' e s2 I1 hq
  | ok fl =>
    cases fl with
    | ret u => exact I1.after hq
    | next => exact False.elim hq
    | brk => exact False.elim hq
    | cont => exact False.elim hq
theorem slots_eq {n i j : Nat} {x p e : SD} (hij : i ≠ j) : (((((List.replicate n SD.un).set j x).set i p).set j e).set i .un) = (List.replicate n SD.un).set j e := by
  rw [List.set_comm (l := (List.replicate n SD.un).set j x) p e hij, List.set_set, List.set_set, List.set_comm (l := List.replicate n SD.un) e SD.un (Ne.symm hij)]
  have : (List.replicate n SD.un).set i SD.un = List.replicate n SD.un := by
    apply List.ext_getElem?
    intro k
    rw [List.getElem?_set]
    split
    · rename_i h
      subst h
      split
      · rename_i h2
        rw [List.getElem?_eq_getElem h2]
        simp
      · rename_i h2
        rw [List.getElem?_eq_none (by omega)]
    · rfl
  rw [this]
theorem start_len {Ng : List Str} {f : Addr} {a : Str} (h : Ng[0]? = some a) : (L2.start Ng [V.ref f]).length = Ng.length := by
  unfold L2.start
  have := (List.getElem?_eq_some_iff.mp h).1
  simp only [List.length_append, List.length_map, List.length_cons, List.length_nil, List.length_replicate]
  omega
/-- x(lambda: body), x a def that asks it and keeps what it raises -/
theorem de_heard {x a n y c : Str} {st : Stmt} {Ng : List Str} {i j : Nat} {cv : Value} {cat : Addr → Option Bool} {cA PA : Addr} {k : Nat} {params : Arguments} {body : Expr} {scope : Scope} {t : XK → TE} {p lpos pos : Pos} {φb : DM} {sp : Rsp}
    {rest : List Stmt} {q1 q2 q3 q4 q5 q6 q7 q8 q9 q10 q11 lq : Pos} {kk : Nat}
    (HK : HeardK X.K X.mg x a n y c st Ng i j cv cat) (hbd : defBody st = .Assign [.Name y q1] (.Constant .none kk q2) q3 :: .Try [.Expr (.Call (.Name a q4) [] [] q5) q6] [.ExceptHandler (some (.Name c q7)) (some n) [.Assign [.Name y q8] (.Name n q9) q10] q11] [] [] lpos :: rest)
    (hrest : ∀ (ga : Addr) (cdv : Value) (A : Around) (outer : List Env) (s : Shared) (H : Hp) (E : XK), Room (k + 1) (cxOf (L2.CX X.prog X.w) X.prog X.w X.K X.mg X.base Ng x (defScope st) ga cdv A outer s H E).A →
      Takes (cxOf (L2.CX X.prog X.w) X.prog X.w X.K X.mg X.base Ng x (defScope st) ga cdv A outer s H E) (fun cls d _ H' => E cls d H') →
      ∃ tr fr, DSs (cxOf (L2.CX X.prog X.w) X.prog X.w X.K X.mg X.base Ng x (defScope st) ga cdv A outer s H E) (fun cls d _ H' => E cls d H') rest tr fr ∧ ∀ d m P EX, sp d m P EX → fr ⟨(List.replicate Ng.length .un).set j (.im d), m⟩ (bodyEnds P EX))
    (TB : TabB X.base X.mg cA PA) (hcode : X.env.code = .ref cA) (hmT : (PA, X.env.qual ++ "<lambda>") ∈ TK X.K) (hu : ∀ p ∈ TK X.K, p.1 = PA → p.2 = X.env.qual ++ "<lambda>") (hr : Room (k + 2) X.A) (gd : X.A.guards = some []) (tk : Takes X W)
    (hbody : ∀ (A : Around) (outer : List Env) (s : Shared) (H : Hp) (E : XK) (f c' : Addr), (lamCx X A outer s H E scope f c').A.guards = some [] → Room k (lamCx X A outer s H E scope f c').A → Takes (lamCx X A outer s H E scope f c') (fun cls d _ H' => E cls d H') →
      DE (lamCx X A outer s H E scope f c') (fun cls d _ H' => E cls d H') body (t E) φb)
    (hg : Gl X x := by rfl) (L : LamS X.env.scope scope := by exact lamS_by (by decide +kernel)) (hdef : defaultsOf params X.env = ([], []) := by rfl)
    (hbind : ∀ (q : Str) (cl : List (Str × Addr)) (pm cv ctv : Value), bindArgs (PySem.W.kla_fn "<lambda>" q params body scope cl pm cv ctv) ⟨[], []⟩ = pure [] := by intro _ _ _ _ _; rfl)
    (hdb : (x == ("__debug__" : Str)) = false := by decide) :
    DE X W (.Call (.Name x p) [.Lambda params body scope lq] [] pos) (tHeard X.K PA fun σ H1 Q => ∃ g δ A P EX, Rep X.K g σ δ A H1 ∧ mHeard cat sp φb δ P EX ∧ (∀ v d δ' A' H', Rep X.K g σ δ' A' H' → Same A A' → Dr X.K A' v d → P d δ' → Q v H') ∧ LkX X.K W g σ EX) (mHeard cat sp φb) := by
  have lkb : ∀ E, LkE X.K (fun cls d _ H' => E cls d H') (t E) φb := fun E => (hbody (X.A.deeper (envOfC x (defScope st) 0 0 .none)) [] {} (fun _ => none) E 0 0 (guards_deeper _ (guards_deeper _ gd)) ((hr.deeper _).deeper _) (takes_of rfl rfl rfl rfl)).lk
  refine ⟨pe_heard (lq := lq) HK hbd hg TB hcode hmT hu hr L hdef hbind tk (fun A outer s H E f c' gA hr' => (hbody A outer s H E f c' (guards_deeper _ (gA gd)) hr' (takes_of rfl rfl rfl rfl)).pe) (fun f c' ga cdg s H σ Q pins hco hGG => ?_) hdb, fun g σ δ A H P EX Q R h hQ hX => ?_⟩
  · obtain ⟨g, δ, A, P, EX, R, hm, hQ, hX⟩ := hGG
    obtain ⟨tr, fr, hd, hf⟩ := hrest ga cdg X.A X.stack s H (WE W σ) (hr.deeper _) (takes_of rfl rfl rfl rfl)
    refine ⟨tr, fun _ => hd.ps, ?_⟩
    have hl := start_len (f := f) HK.ia
    -- the rest, from what was kept
    have fin : ∀ {d : D} {σ' : L2.St} {A' H' : Hp} {m' : Mh}, Rep X.K (Gh.of A H δ.m) σ' ⟨(List.replicate Ng.length .un).set j (.im d), m'⟩ A' H' → sp d m' (fun d m' => P d { δ with m := m' }) (fun er m' => EX er { δ with m := m' }) → tr { nx := fun _ H' => Q .non H', rt := Q } σ' H' := fun {d σ' A' H' m'} R' q => by
      refine hd.lk (Gh.of A H δ.m) σ' _ A' H' _ _ R' (hf d m' _ _ q) ⟨fun σ2 δ2 A2 H2 R2 _ q2 => hQ .non .non _ A2 H2 (R.fin R2.out) R2.old .non q2, fun v d2 σ2 δ2 A2 H2 R2 _ dv q2 => hQ v d2 _ A2 H2 (R.fin R2.out) R2.old dv q2, fun _ _ _ _ _ _ z => z.elim, fun _ _ _ _ _ _ z => z.elim,
        fun σ2 er δ2 cls dd A2 H2 R2 xr q2 => hX er _ cls dd A2 H2 (R.fin R2.out) xr q2⟩
    refine lkb _ (Gh.of A H δ.m) σ _ A H _ _ _ R.hide hm (fun v d δ3 A3 H3 R3 s3 d3 q3 => ?_) (fun er δ3 cls dd A3 H3 R3 xr q3 => ?_)
    · have R4 := ((rep_un (σ := L2.start Ng [.ref f]) R.sub R.tabs R.mr hl).fin R3.out).set (i := j) (v := .non) .non
      exact fin R4 q3
    · obtain ⟨b, hb1, q3⟩ := asO_of q3
      obtain ⟨rfl, d, fv, rfl, ed, hdf⟩ := xr
      refine ⟨b, HK.cat _ _ hb1, fun eb => ?_, fun eb => ?_⟩
      · subst eb
        refine ⟨er.C, d, rfl, rfl, fun a' na => ?_⟩
        have R4 := ((rep_un (σ := L2.start Ng [.ref f]) R.sub R.tabs R.mr hl).fin R3.out).put (o := ExO a' er.C d) na
        have sa : Same A3 (upd A3 a' (ExO a' er.C d)) := upd_put (R3.free na).1
        have dx : Dr X.K (upd A3 a' (ExO a' er.C d)) (.ref a') (.exc er.C er.fs) := .exc upd_same (sa _ _ ed) (hdf.same sa)
        have R5 := ((((R4.set (i := j) (v := .non) .non).set (i := i) (.ptr a')).set (i := j) dx).unset (i := i) (o := none))
        have R6 : Rep X.K (Gh.of A H δ.m) ((((L2.start Ng [.ref f]).set j (some .non)).set i (some (.ref a'))).set j (some (.ref a')) |>.set i none) ⟨(List.replicate Ng.length .un).set j (.im (.exc er.C er.fs)), δ3.m⟩ (upd A3 a' (ExO a' er.C d)) (upd H3 a' (ExO a' er.C d)) := by
          have e := slots_eq (n := Ng.length) (x := .im .non) (p := .im (.ptr a')) (e := .im (.exc er.C er.fs)) HK.ne
          rw [← e]
          exact R5
        exact fin R6 q3
      · subst eb
        exact hX er _ _ _ A3 H3 (R.fin R3.out) ⟨rfl, d, fv, rfl, ed, hdf⟩ q3
  · exact ⟨fun p hp => (R.tabs p hp).1, fun H1 eN T1 => ⟨g, δ, A, P, EX, R.extP hmT eN T1, h, hQ, hX⟩⟩
end
end RL
set_option Elab.async false
set_option linter.all false
set_option maxRecDepth 100000
set_option maxHeartbeats 4000000
/-! R15: keywords; defaults; an own ==; the end of a law. -/
namespace RL
open PySem PySem.Spec PyProof.Rows L2 RZ NdefX LamX

/-! ### keywords -/
structure DK (X : Cx) (W : WX) (kws : List Keyword) (t : TA) (φ : DA) : Prop where
  pk : PK X kws t
  lk : LkA X.K W t φ
section
variable {X : Cx} {W : WX} {K : PySem.W.Frag} {e : Expr} {te : TE} {t : TA} {φ : DM} {φs : DA} {kws : List Keyword} {nm : Option Str} {kpos p pos : Pos}
theorem dk_nil : DK X W [] tNil aNil := ⟨pk_nil, fun g σ δ A H P EX Q R h hQ _ => hQ [] [] δ A H R (Same.refl _) .nil h⟩
theorem dk_cons (ha : DE X W e te φ) (hs : DK X W kws t φs) : DK X W (⟨nm, e, kpos⟩ :: kws) (tCons te t) (aCons φ φs) := by
  refine ⟨pk_cons ha.pe hs.pk, fun g σ δ A H P EX Q R h hQ hX => ha.lk g σ δ A H _ EX _ R h (fun x d δ1 A1 H1 R1 s1 d1 h1 => ?_) hX⟩
  exact hs.lk g σ δ1 A1 H1 _ EX _ R1 h1 (fun vs ds δ2 A2 H2 R2 s2 d2 h2 => hQ _ _ δ2 A2 H2 R2 (s1.trans s2) (.cons (d1.same s2) d2) h2) hX
/-- the values at the places idx -/
def perm {α : Type} (idx : List Nat) (l : List α) : List α := idx.filterMap fun i => l[i]?
theorem perm_dr {A : Hp} {vs : List V} {ds : List D} (h : DrAll K A vs ds) : ∀ idx : List Nat, DrAll K A (perm idx vs) (perm idx ds)
  | [] => .nil
  | i :: idx => by
    unfold perm
    rw [List.filterMap_cons, List.filterMap_cons]
    cases e : vs[i]? with
    | none =>
      have e2 : ds[i]? = none := by
        rw [List.getElem?_eq_none_iff] at e ⊢
        rw [← h.length]; exact e
      rw [e2]
      exact perm_dr h idx
    | some v =>
      obtain ⟨d, e2, dv⟩ := h.get e
      rw [e2]
      exact .cons dv (perm_dr h idx)
theorem perm_vals {vs : List V} {us : List Value} (h : Vals vs us) : ∀ idx : List Nat, Vals (perm idx vs) (perm idx us)
  | [] => .nil
  | i :: idx => by
    unfold perm
    rw [List.filterMap_cons, List.filterMap_cons]
    cases e : vs[i]? with
    | none =>
      have e2 : us[i]? = none := by
        rw [List.getElem?_eq_none_iff] at e ⊢
        rw [← h.length]; exact e
      rw [e2]
      exact perm_vals h idx
    | some v =>
      obtain ⟨u, e2, r⟩ := h.get e
      rw [e2]
      exact .cons r (perm_vals h idx)
/-- the module's def x called by the keywords ks alone; idx: whose value each parameter gets -/
structure OkK (P : Program) (w : World) (K : PySem.W.Frag) (mg : Str → Option Value) (base : Heap) (k : Nat) (x : Str) (ks : List Str) (idx : List Nat) (f : Fsp) : Prop where
  ex : ∃ (a : Addr) (fd : FuncData) (ps : List Str), FnQ P w K mg base (L2.CX P w) k a fd ps (spD K f) ∧ mg x = some (.ref a) ∧ PySem.W.keepIn K (.ref a) = true ∧ ∀ (s : Shared) (ws : List Value), ws.length = ks.length → BindsTo s fd ⟨[], ks.zip ws⟩ (ps.zip (perm idx ws))
def mCallK (n : Nat) (idx : List Nat) (f : Fsp) (s : DA) : DM := fun δ P EX => s δ (fun ds δ1 => ds.length = n ∧ f (perm idx ds) δ1.m (fun d m' => P d { δ1 with m := m' }) (fun er m' => EX er { δ1 with m := m' })) EX
def tCallK0 (n : Nat) (idx : List Nat) (sp : Sp) (E : L2.St → XK) (t : TA) : TE := fun σ H Q => t σ H fun zs H2 => zs.length = n ∧ sp (perm idx zs) H2 Q (E σ)
theorem de_callK {k : Nat} {x : Str} {ks : List Str} {idx : List Nat} {f : Fsp} (G : OkK X.prog X.w X.K X.mg X.base k x ks idx f) (hr : Room k X.A) (gd : X.A.guards = some []) (tk : Takes X W) (hkw : DK X W kws t φs) (hg : Gl X x := by rfl)
    (hall : (backToKw pos (keywordEach kws X.env)).all (·.1.isSome) = true := by rfl) (hks : (backToKw pos (keywordEach kws X.env)).filterMap (·.1) = ks := by rfl) (hdb : (x == ("__debug__" : Str)) = false := by decide)
    (hpl : ((backTo pos (starEach [] X.env)).any (·.1) || (backToKw pos (keywordEach kws X.env)).any (·.1.isNone)) = false := by rfl) :
    DE X W (.Call (.Name x p) [] kws pos) (tCallK0 ks.length idx (spD X.K f) (WE W) t) (mCallK ks.length idx f φs) := by
  obtain ⟨fa, fd, ps, F, hm, hk, hb⟩ := G.ex
  refine ⟨⟨fun pins s σ H Q I h => ?_⟩, fun g σ δ A H P EX Q R h hQ hX => hkw.lk g σ δ A H _ EX _ R h (fun vs ds δ1 A1 H1 R1 s1 d1 h1 => ?_) hX⟩
  · refine wpAny_Call_Name_kw (ld_glob I hg hm ?_ hdb)
    refine PySem.W.callWith_KW0 (h₀ := X.base) (first := []) I.ok.mod.kin hk hall (thn (hkw.pk.run pos pins s σ H _ I h) fun ws s2 ⟨zs, H2, I2, rz, l1, q2⟩ => ⟨I2.kIn, ?_⟩) hpl
    rw [hks]
    have r2 := perm_vals rz idx
    refine wpAny_call (codeAny_mono (F.run X.A X.stack s2 H2 ⟨[] ++ [], ks.zip ws⟩ (perm idx ws) (perm idx zs) Q (WE W σ) hr gd I2.env0 (hb s2 ws (by rw [← rz.length]; exact l1)) r2 q2) fun r' s' hq => ?_)
    cases r' with
    | error er => exact passAt tk σ pins H2 s2 er s' I2 hq
    | ok fl =>
      cases fl with
      | ret u => exact I2.after hq
      | next => exact False.elim hq
      | brk => exact False.elim hq
      | cont => exact False.elim hq
  · refine ⟨by rw [d1.length]; exact h1.1, A1, δ1.m, perm idx ds, _, _, R1.sub, R1.tabs, R1.mr, perm_dr d1 idx, h1.2, fun v d A' H' m' F dv q => hQ v d _ A' H' (R1.fin F) (s1.trans F.old) dv q, fun er cls dd A' H' m' F x q => hX er _ cls dd A' H' (R1.fin F) x q⟩
end

/-! ### defs with defaults -/
section
variable {P : Program} {w : World} {K : PySem.W.Frag} {mg : Str → Option Value} {base : Heap}
theorem okDD {x qual : Str} {st : Stmt} {fa : Addr} {fd : FuncData} {N ps : List Str} {k : Nat} {f : Fsp} {dvs : List V} (F : L2.FunD K x qual (defArgs st) (defBody st) (defScope st) dvs [] fa fd) (S : FnScope N ps (defScope st)) (len : ∀ ds m P EX, f ds m P EX → ds.length = ps.length)
    (hb : ∀ (cdv : Value) (A : Around) (outer : List Env) (s : Shared) (H : Hp) (E : XK),
      Room k (cxOf (L2.CX P w) P w K mg base N qual (defScope st) fa cdv A outer s H E).A → (cxOf (L2.CX P w) P w K mg base N qual (defScope st) fa cdv A outer s H E).A.guards = some [] →
      Takes (cxOf (L2.CX P w) P w K mg base N qual (defScope st) fa cdv A outer s H E) (fun cls d _ H' => E cls d H') →
      PassesOwn (model P w) (cxOf (L2.CX P w) P w K mg base N qual (defScope st) fa cdv A outer s H E).A (cxOf (L2.CX P w) P w K mg base N qual (defScope st) fa cdv A outer s H E).env (cxOf (L2.CX P w) P w K mg base N qual (defScope st) fa cdv A outer s H E).xe →
      ∃ t φ, DSs (cxOf (L2.CX P w) P w K mg base N qual (defScope st) fa cdv A outer s H E) (fun cls d _ H' => E cls d H') (defBody st) t φ ∧ ∀ ds m Pd EX, f ds m Pd EX → φ ⟨startD N ds, m⟩ (bodyEnds Pd EX)) :
    FnQ P w K mg base (L2.CX P w) (k + 1) fa fd ps (spD K f) := by
  obtain ⟨oc, od, dV, kV, doc, pm, an, cdv, ct, osl, rfl, lk, hcd, _⟩ := F.ex
  refine fnq_of lk hcd S (spD_len len) fun A outer s H vs Q E hr hg hsp => ?_
  obtain ⟨t, φ, hd, hf⟩ := hb cdv A outer s H E hr hg (takes_of rfl rfl rfl rfl) (passes_of rfl)
  exact ⟨t, hd.ps, body_run hsp hd.lk hf⟩
end

/-! ### an own == -/
section
variable {X : Cx} {W : WX} {K : PySem.W.Frag}
/-- the class at C tells == by its own def -/
structure EqK (P : Program) (w : World) (K : PySem.W.Frag) (mg : Str → Option Value) (base : Heap) (k : Nat) (C : Addr) (f : Fsp) : Prop where
  ex : ∃ (a : Addr) (fd : FuncData) (ps : List Str), FnQ P w K mg base (L2.CX P w) k a fd ps (spD K f) ∧ PySem.W.findIn K (.ref C) "__eq__" = some (some (.ref a)) ∧ PySem.W.isFn K (.ref a) = true ∧ L2.Binds K fd ps [] ∧ Cls K C ∧ PySem.W.notFirst K C (.ref C) = true
def rEqO (K : PySem.W.Frag) (C : Addr) (f : Fsp) : R2 := fun x y H Q => ∃ a b dx dy fs gs, x = .ref a ∧ y = .ref b ∧ H a = some (.ins C dx fs) ∧ H b = some (.ins C dy gs) ∧ spD K f [x, y] H (fun v H' => ∃ c, v = .bl c ∧ Q v H') (fun _ _ _ => False)
def oEqO (C : Addr) (f : Fsp) : O2
  | .obj C1 fs, .obj C2 gs, P => C1 = C ∧ C2 = C ∧ ∀ m, f [.obj C1 fs, .obj C2 gs] m (fun z m' => m' = m ∧ (∃ c, z = .bl c) ∧ P z) fun _ _ => False
  | _, _, _ => False
theorem opr_eqO {k : Nat} {C : Addr} {f : Fsp} (G : EqK X.prog X.w X.K X.mg X.base k C f) (hr : Room k X.A) (gd : X.A.guards = some []) : OpR X (compareOp .Eq) (rEqO X.K C f) := by
  intro pins s σ H x y v u Q I rx ry hq
  obtain ⟨fa, fd, ps, F, hs, hf, hb, cl, nf⟩ := G.ex
  obtain ⟨a, b, dx, dy, fs, gs, rfl, rfl, ha, hb', hsp⟩ := hq
  cases rx
  cases ry
  show wpAny (model X.prog X.w) X.A (richCompare .Eq (.ref a) (.ref b)) (EP X pins σ Q) X.xe s
  obtain ⟨mA, J, _⟩ := ins_get I.hok ha
  obtain ⟨mB, J', _⟩ := ins_get I.hok hb'
  obtain ⟨od, J, _⟩ := J.look
  obtain ⟨od', J', _⟩ := J'.look
  obtain ⟨m, hF⟩ := I.fr
  refine PySem.W.cmp_K (op := .Eq) (tb := .ref C) hr.units0 hF I.ok.mod.kin J J'.type (by simp [PySem.W.notFirst]) hs hf ?_
  have hl := F.len _ _ _ _ hsp
  have r2 : Vals [V.ref a, V.ref b] [Value.ref a, Value.ref b] := .cons rfl (.cons rfl .nil)
  refine wpAny_call (codeAny_mono (F.run X.A X.stack s H ⟨[.ref a, .ref b], []⟩ [.ref a, .ref b] [.ref a, .ref b] _ _ hr gd I.env0 (by
    have := hb s [.ref a, .ref b] I.kIn (by simpa using hl)
    simpa using this) r2 hsp) fun r s' hq => ?_)
  cases r with
  | error e =>
    obtain ⟨_, _, _, _, _, _, _, _, _, _, _, _, z⟩ := hq
    exact z.elim
  | ok fl =>
    cases fl with
    | ret w =>
      obtain ⟨z, H', I', rz, c, ez, q⟩ := I.after hq
      subst ez
      cases rz
      exact ⟨.bl c, H', I', rfl, q⟩
    | next => exact False.elim hq
    | brk => exact False.elim hq
    | cont => exact False.elim hq
theorem ol_eqO {C : Addr} {f : Fsp} : OLk K (rEqO K C f) (oEqO C f) := fun g σ δ A H x y d e P Q R dx dy h hQ => by
  cases dx <;> cases dy <;> try exact h.elim
  rename_i a C1 dx fs es k1 k2 b C2 dy gs hs k3 k4
  obtain ⟨rfl, rfl, h⟩ := h
  refine ⟨a, b, dx, dy, fs, gs, rfl, rfl, R.sub _ _ k1, R.sub _ _ k3, A, δ.m, _, _, _, R.sub, R.tabs, R.mr, .cons (.obj k1 k2) (.cons (.obj k3 k4) .nil), h δ.m, fun v d A' H' m' F dv q => ?_, fun er cls dd A' H' m' F x q => q.elim⟩
  obtain ⟨rfl, ⟨c, rfl⟩, q⟩ := q
  cases dv
  exact ⟨c, rfl, hQ _ _ A' H' (R.fin F) F.old (.bl c) q⟩
end
end RL
set_option Elab.async false
set_option linter.all false
set_option maxRecDepth 100000
set_option maxHeartbeats 4000000
/-! R16: the end of a law row whose law keeps a promise over data. -/
namespace RL
open PySem PySem.Spec PyProof.Rows L2 RZ NdefX LamX

/-- the law's call, its promise told by FnQ: cs, the code objects and their tables -/
theorem law_callQ {P : Program} {w : World} {K : PySem.W.Frag} {mg mb : Str → Option Value} {CX : CXT} {k : Nat} {fa a : Addr} {cs : List (Addr × Addr)} {fd : FuncData} {x : Str} {sp : Sp} {s₁ : Shared} {vs : List Value} {ns : List Int}
    (KX : K.In s₁.heap) (hns : s₁.heap.Ns mainGlobals mg) (hb : s₁.heap.Ns builtinsNs mb) (hbb : ∀ x : Str, x ≠ "__name__" → mb x = bootBuiltins x) (hlim : s₁.heap.NoLimit) (hg : s₁.gens = #[])
    (hT : ∀ p ∈ cs, s₁.heap.get? p.2 = some { cls := .none, data := .fields #[] }) (nT : ∀ p ∈ cs, K.lookup p.2 = none) (C : ∀ p ∈ cs, PySem.W.CodeHd s₁.heap p.1 p.2)
    (hbm : ∃ (bm : Addr) (ob : Obj), mg "__builtins__" = some (.ref bm) ∧ bm ≠ builtinsNs ∧ s₁.heap.get? bm = some ob ∧ ob.cls = .type "module" ∧ ob.dict = some builtinsNs ∧ ob.data = .plain)
    (ha : s₁.heap.get? a = some { cls := .type "list", data := .seq vs.toArray }) (hi : IntsAre vs ns) (hl : ns.length ≤ sizeLine) (hr : Room k callerA)
    (F : ∀ base : Heap, K.In base → base.Ns mainGlobals mg → (∀ p ∈ cs, TabB base mg p.1 p.2) → FnQ P w K mg base CX k fa fd [x] sp) (hbind : ∀ (s : Shared) (u : Value), BindsTo s fd ⟨[u], []⟩ [(x, u)])
    (hsp : ∀ H : Hp, (∀ p ∈ cs, H p.2 = some (.tbl #[])) → SqL K H a (ns.map V.int) → sp [.ref a] H (fun v _ => v = .bl true) fun _ _ _ => False)
    (hCX : ∀ H e s', CX [] H s₁ (fun _ _ _ => False) e s' → False) :
    codeAny (model P w) callerA (.call (.ref fa) ⟨[.ref a], []⟩) (fun r s' => r = .ok (.ret (.bool true)) ∧ OldK s₁.heap s'.heap ∧ s'.os = s₁.os ∧ AllBare s'.gens) s₁ := by
  have rv := vals_ints hi
  have lenV := hi.length
  have isT : ∀ b : Addr, b ∈ cs.map (·.2) → s₁.heap.get? b = some { cls := .none, data := .fields #[] } := fun b hb => by
    obtain ⟨p, hp, e⟩ := List.mem_map.mp hb
    rw [← e]
    exact hT p hp
  have aT : a ∉ cs.map (·.2) := fun z => by
    have q := isT a z
    rw [ha] at q
    have z' : Data.seq vs.toArray _ = Data.fields #[] := congrArg Obj.data (Option.some.inj q)
    cases z'
  have memT : ∀ p ∈ cs, p.2 ∈ cs.map (·.2) := fun p hp => List.mem_map.mpr ⟨p, hp, rfl⟩
  -- from an abstract heap in which nothing but the script and the tables may be tracked
  have core : ∀ H : Hp, (∀ p ∈ cs, H p.2 = some (.tbl #[])) → (∀ b, H b = none ∨ b ∈ cs.map (·.2) ∨ ∃ o xs, H b = some (.frz o (.lst xs))) → SqL K H a (ns.map V.int) → HOk P w H s₁.heap → (∀ b, H b ≠ none → b = a ∨ b ∈ cs.map (·.2)) → (H a ≠ none → K.lookup a = none) →
      codeAny (model P w) callerA (.call (.ref fa) ⟨[.ref a], []⟩) (fun r s' => r = .ok (.ret (.bool true)) ∧ OldK s₁.heap s'.heap ∧ s'.os = s₁.os ∧ AllBare s'.gens) s₁ := by
    intro H hH hO hS hok hA hK
    have base_of : ∀ {b : Addr} {o : Obj}, s₁.heap.get? b = some o → H b = none → (hidT s₁.heap H).get? b = some o := fun e n => hidT_get e n
    have noD : ∀ {b : Addr} {o : Obj}, s₁.heap.get? b = some o → (∀ vs n, o.data ≠ .seq vs n) → o.data ≠ .fields #[] → H b = none := fun {b o} e h1 h2 => by
      cases q : H b with
      | none => rfl
      | some u =>
        rcases hA b (by rw [q]; simp) with e' | e'
        · rw [e', ha] at e
          cases e
          exact (h1 _ _ rfl).elim
        · rw [isT b e'] at e
          cases e
          exact (h2 rfl).elim
    have noA : ∀ {b : Addr} {o : Obj} {es : Array DictEntry} {ep : Nat}, s₁.heap.get? b = some o → o.data = .dict es ep → H b = none := fun {b o es ep} e d => by
      refine noD e (fun vs n z => ?_) fun z => ?_
      · rw [d] at z
        cases z
      · rw [d] at z
        cases z
    have nsK : ∀ {b : Addr} {m : Str → Option Value}, s₁.heap.Ns b m → (hidT s₁.heap H).Ns b m := fun {b m} ⟨o, es, ep, e, d, r⟩ => ⟨o, es, ep, base_of e (noA e d), d, r⟩
    have hKb : K.In (hidT s₁.heap H) := fun b o e => base_of (KX b o e) (by
      cases q : H b with
      | none => rfl
      | some u =>
        rcases hA b (by rw [q]; simp) with e' | e'
        · rw [e'] at e q
          rw [hK (by rw [q]; simp)] at e
          cases e
        · obtain ⟨p, hp, ep⟩ := List.mem_map.mp e'
          rw [← ep, nT p hp] at e
          cases e)
    have hM : L2.Mod K mg (hidT s₁.heap H) := ⟨hKb, nsK hns, ⟨mb, nsK hb, hbb⟩, let ⟨mc, h1, h2⟩ := hlim; ⟨mc, nsK h1, h2⟩⟩
    have TB : ∀ p ∈ cs, TabB (hidT s₁.heap H) mg p.1 p.2 := fun p hp => by
      have hTp := hT p hp
      refine ⟨?_, ?_, fun z => ?_⟩
      · obtain ⟨o, us, file, tf, flags, tg, inF, text, tt, e1, r1, r2, r3, r4, r5, r6, r7, r8, hne⟩ := C p hp
        refine ⟨o, us, file, tf, flags, tg, inF, text, tt, base_of e1 (noD e1 (fun vs n z => ?_) fun z => ?_), r1, r2, r3, r4, r5, r6, r7, r8, hne⟩
        · rw [r2] at z
          cases z
        · rw [r2] at z
          cases z
          simp at r3
      · obtain ⟨bm, ob, b1, b2, b3, b4, b5, b6⟩ := hbm
        have nG : bm ≠ mainGlobals := fun q => by
          obtain ⟨o, es, ep, e, hd, _⟩ := hns
          rw [q, e] at b3
          cases b3
          rw [hd] at b6
          cases b6
        have nP : bm ≠ p.2 := fun q => by
          rw [q, hTp] at b3
          cases b3
          cases b6
        refine ⟨bm, ob, b1, b2, nG, nP, base_of b3 (noD b3 (fun vs n z => ?_) fun z => ?_), b4, b5, b6⟩
        · rw [b6] at z
          cases z
        · rw [b6] at z
          cases z
      · obtain ⟨o, es, ep, e, hd, _⟩ := hns
        rw [z, hTp] at e
        cases e
        cases hd
    have e0 : Env0 P w K mg (hidT s₁.heap H) callerA [] s₁ H := ⟨rfl, hM, fun b o e => of_hidT e, Nat.le_of_eq (hidT_size _ _), trivial, fun b hb => absurd (show b ∈ ([] : List Addr) from hb) (by simp), hok, .of_eq hg⟩
    refine codeAny_mono ((F _ hKb (nsK hns) TB).run callerA [] s₁ H ⟨[.ref a], []⟩ [.ref a] [.ref a] _ _ hr rfl e0 (hbind s₁ (.ref a)) (.cons rfl .nil) (hsp H hH hS)) fun r s' h => ?_
    cases r with
    | error e => exact (hCX H e s' h).elim
    | ok fl =>
      cases fl with
      | next => exact False.elim h
      | brk => exact False.elim h
      | cont => exact False.elim h
      | ret u =>
        obtain ⟨v, H', os, bare, un, hok', r', q⟩ := h
        have q' : v = .bl true := q
        subst q'
        obtain rfl : u = Value.bool true := r'
        have key : ∀ b o, b ∉ cs.map (·.2) → s₁.heap.get? b = some o → s'.heap.get? b = some o := fun b o nb e => by
          cases q : H b with
          | none => exact un.keep b o e q (by intro z; exact absurd (show b ∈ ([] : List Addr) from z) (by simp)) (by simp)
          | some u =>
            rcases hO b with z | z | ⟨ob, xs, z⟩
            · rw [q] at z; cases z
            · exact absurd z nb
            · have z2 := un.frzs b ob _ z
              obtain ⟨e1, _⟩ := hok b _ z
              obtain ⟨e2, _⟩ := hok' b _ z2
              rw [e] at e1; cases e1
              exact e2
        have grown : ∀ p ∈ cs, ∃ more : Array Value, s'.heap.get? p.2 = some { cls := .none, data := .fields more } := fun p hp => by
          obtain ⟨more, z⟩ := un.tbls p.2 #[] (hH p hp)
          exact ⟨_, hok' p.2 _ z⟩
        refine ⟨rfl, ⟨fun b o e => ?_, fun b o e => ?_⟩, os, bare⟩
        · by_cases hb : b ∈ cs.map (·.2)
          · obtain ⟨p, hp, ep⟩ := List.mem_map.mp hb
            obtain ⟨more, hm⟩ := grown p hp
            rw [← ep] at e ⊢
            rw [hT p hp] at e
            cases e
            exact .inr (.inl ⟨((C p hp).tab (hT p hp)).isCodeTable, rfl, #[], more, rfl, by rw [Array.empty_append]; exact hm⟩)
          · exact .inl (key b o hb e)
        · by_cases hb : b ∈ cs.map (·.2)
          · obtain ⟨p, hp, ep⟩ := List.mem_map.mp hb
            obtain ⟨more, hm⟩ := grown p hp
            rw [← ep]
            exact ⟨_, hm⟩
          · exact ⟨o, key b o hb e⟩
  cases hk : K.lookup a with
  | some o =>
    have e := KX a o hk
    rw [ha] at e
    cases e
    refine core (fun b => if b ∈ cs.map (·.2) then some (.tbl #[]) else none) (fun p hp => if_pos (memT p hp)) (fun b => ?_) (.inr ⟨_, vs.toArray, _, hk, rfl, rfl, rfl, by rw [List.size_toArray, lenV]; exact hl, by simpa using rv⟩) (fun b u z => ?_) (fun b z => ?_) fun z => absurd (show (if a ∈ cs.map (·.2) then some (HO.tbl #[]) else none) = none from if_neg aT) z
    · by_cases hb : b ∈ cs.map (·.2)
      · exact .inr (.inl hb)
      · exact .inl (if_neg hb)
    · by_cases hb : b ∈ cs.map (·.2)
      · have z' := (if_pos hb).symm.trans z
        cases z'
        exact isT b hb
      · have z' := (if_neg hb).symm.trans z
        cases z'
    · by_cases hb : b ∈ cs.map (·.2)
      · exact .inr hb
      · exact absurd (if_neg hb) z
  | none =>
    refine core (fun b => if b = a then some (.frz { cls := .type "list", data := .seq vs.toArray } (.lst (ns.map V.int))) else if b ∈ cs.map (·.2) then some (.tbl #[]) else none) (fun p hp => (if_neg (show ¬ p.2 = a from fun z => aT (by rw [← z]; exact memT p hp))).trans (if_pos (memT p hp))) (fun b => ?_)
      (.inl (.inr ⟨{ cls := .type "list", data := .seq vs.toArray }, if_pos rfl⟩)) (fun b u z => ?_) (fun b z => ?_) fun _ => hk
    · by_cases hb : b = a
      · exact .inr (.inr ⟨_, _, if_pos hb⟩)
      · by_cases hb2 : b ∈ cs.map (·.2)
        · exact .inr (.inl hb2)
        · exact .inl ((if_neg hb).trans (if_neg hb2))
    · by_cases hb : b = a
      · have z' := (if_pos hb).symm.trans z
        cases z'
        rw [hb]
        exact ⟨ha, by rw [List.length_map]; exact hl, vs, _, rv, ha⟩
      · have z1 := (if_neg hb).symm.trans z
        by_cases hb2 : b ∈ cs.map (·.2)
        · have z' := (if_pos hb2).symm.trans z1
          cases z'
          exact isT b hb2
        · have z' := (if_neg hb2).symm.trans z1
          cases z'
    · by_cases hb : b = a
      · exact .inl hb
      · by_cases hb2 : b ∈ cs.map (·.2)
        · exact .inr hb2
        · exact absurd ((if_neg hb).trans (if_neg hb2)) z

/-- what is not a table -/
def noTab (H : Hp) : Hp := fun b => match H b with
  | some (.tbl _) => none
  | o => o
theorem noTab_same {H : Hp} : Same (noTab H) H := fun b o e => by
  unfold noTab at e
  split at e
  · cases e
  · exact e
theorem noTab_at {H : Hp} {b : Addr} {o : HO} (e : H b = some o) (n : ∀ ps, o ≠ .tbl ps) : noTab H b = some o := by
  unfold noTab
  rw [e]
  split
  · rename_i ps z
    exact absurd (Option.some.inj z) (n ps)
  · rfl
theorem noTab_sq {K : PySem.W.Frag} {H : Hp} {a : Addr} {xs : List V} (h : SqL K H a xs) : SqL K (noTab H) a xs := by
  rcases h with (h | ⟨o, h⟩) | h
  · exact .inl (.inl (noTab_at h fun ps z => by cases z))
  · exact .inl (.inr ⟨o, noTab_at h fun ps z => by cases z⟩)
  · exact .inr h
theorem ints_dr {K : PySem.W.Frag} {A : Hp} : ∀ ns : List Int, DrAll K A (ns.map V.int) (ns.map D.int)
  | [] => .nil
  | n :: ns => .cons (.int n) (ints_dr ns)
theorem mr_none {K : PySem.W.Frag} {A H : Hp} : MR K A H (fun _ => none) := ⟨(fun _ _ e => nomatch e), (fun _ _ _ e => nomatch e)⟩
/-- what is known of the law's promise at the head's heap h -/
def LawQ (l : PySem.W.OpenLaw) (w : World) (K : PySem.W.Frag) (k n : Nat) (x : Str) (mg : Str → Option Value) (fa : Addr) (h : Heap) : Prop :=
  ∃ (fd : FuncData) (cs : List (Addr × Addr)) (f : Fsp), (∀ p ∈ cs, h.get? p.2 = some { cls := .none, data := .fields #[] }) ∧ (∀ p ∈ cs, K.lookup p.2 = none) ∧ (∀ p ∈ cs, PySem.W.CodeHd h p.1 p.2) ∧ (∀ (s : Shared) (u : Value), BindsTo s fd ⟨[u], []⟩ [(x, u)]) ∧
    (∀ p ∈ TK K, ∃ q ∈ cs, q.2 = p.1) ∧
    (∀ ns : List Int, ns.length ≤ n → (∀ z ∈ ns, Builtin.Int.intBits z ≤ 1048576) → f [.rol (ns.map D.int)] (fun _ => none) (fun d _ => d = .bl true) fun _ _ => False) ∧
    ∀ base : Heap, K.In base → base.Ns mainGlobals mg → (∀ p ∈ cs, TabB base mg p.1 p.2) → FnQ l.prog w K mg base (L2.CX l.prog w) k fa fd [x] (spD K f)
theorem walk_ofQ {l : PySem.W.OpenLaw} {n k : Nat} {q : Program} {loose : List Str} {XP : (Str → Option Value) → Heap → Prop} {YP : World → Heap → Prop} {d : DefRec} {x : Str}
    (hn : l.most = some n) (hn2 : n ≤ sizeLine) (hdf : d.params.defaults = []) (hr : Room k callerA)
    (F : ∀ (w : World) (mg : Str → Option Value) (fa : Addr) (h : Heap), YP w h → h.Ns mainGlobals mg → mg d.name = some (.ref fa) → ∃ K : PySem.W.Frag, K.In h ∧ LawQ l w K k n x mg fa h) :
    PySem.W.WalkO q loose XP YP l.row.toRowW d [] (fun f vs => PySem.call f vs) := by
  refine Att.attach_callB hn hdf fun w s₀ s₁ mg mb fa o pm cd doc a vs ns G Y ho hd hcd hmg hobj hints hlen hbits hg => ?_
  obtain ⟨K, KX, fd, cs, f, hT, nT, C, hb, hK, hsp, hF⟩ := F w mg fa _ Y G.T.g hmg
  refine law_callQ KX G.T.g G.T.b G.T.builtins G.T.nolimit hg hT nT C G.T.bmain hobj hints (Nat.le_trans hlen hn2) hr hF hb (fun H hH hS => ?_) fun H e s' hx => ?_
  · refine ⟨noTab H, fun _ => none, [.rol (ns.map D.int)], fun d _ => d = .bl true, fun _ _ => False, noTab_same, fun p hp => ?_, mr_none, .cons (.rol (noTab_sq hS) (ints_dr ns)) .nil, hsp ns hlen hbits, fun v d A' H' m' _ dv q => ?_, fun _ _ _ _ _ _ _ _ q => q.elim⟩
    · obtain ⟨r, hr, e⟩ := hK p hp
      have h0 := hH r hr
      rw [e] at h0
      refine ⟨TabS.nil h0, ?_⟩
      unfold noTab
      rw [h0]
    · subst q
      cases dv
      rfl
  · obtain ⟨_, _, _, _, _, _, _, _, _, _, _, _, z⟩ := hx
    exact z.elim
end RL
set_option Elab.async false
set_option linter.all false
set_option maxRecDepth 100000
/-! R17: how the readings over data compute. -/
namespace RL
open PySem PySem.Spec PyProof.Rows L2
section
variable {P : D → Prop} {b c : Bool} {i j : Int} {x y : Str} {l k : List D} {C : Addr} {fs : List (Str × D)} {q : Addr}
theorem d_asB {Q : Bool → Prop} : asB (.bl b) Q = Q b := rfl
theorem d_asI {Q : Int → Prop} : asI (.int i) Q = Q i := rfl
theorem d_asO {α : Type} {a : α} {Q : α → Prop} : asO (some a) Q = Q a := rfl
theorem d_b2 {f : Int → Int → Bool} : oB2 f (.int i) (.int j) P = P (.bl (f i j)) := rfl
theorem d_i2 {A : Int → Int → Prop} {f : Int → Int → Int} : oI2 A f (.int i) (.int j) P = (A i j ∧ P (.int (f i j))) := rfl
theorem d_sub : oSub (.int i) (.int j) P = P (.int (i - j)) := rfl
theorem d_add : oAdd (.int i) (.int j) P = P (.int (i + j)) := rfl
theorem d_addL : oAdd (.lst l) (.lst k) P = (l.length + k.length ≤ sizeLine ∧ P (.lst (l ++ k))) := rfl
theorem d_mul : oMul (.int i) (.int j) P = (CMul i j ∧ P (.int (i * j))) := rfl
theorem d_mulL : oMul (.lst l) (.int j) P = (0 ≤ j ∧ j < 2 ^ 63 ∧ l.length * j.toNat ≤ sizeLine ∧ P (.lst (List.replicate j.toNat l).flatten)) := rfl
theorem d_eqI : oEq (.int i) (.int j) P = P (.bl (decide (i = j))) := rfl
theorem d_eqS : oEq (.str x) (.str y) P = P (.bl (decide (x = y))) := rfl
theorem d_neI : oNe (.int i) (.int j) P = P (.bl (!decide (i = j))) := rfl
theorem d_neS : oNe (.str x) (.str y) P = P (.bl (!decide (x = y))) := rfl
theorem d_eqT : oEq (.tup l) (.tup k) P = ((D.tup l).ok = true ∧ (D.tup k).ok = true ∧ P (.bl ((D.tup l).eqv (.tup k)))) := rfl
theorem d_eqL : oEq (.lst l) (.lst k) P = ((D.lst l).ok = true ∧ (D.lst k).ok = true ∧ P (.bl ((D.lst l).eqv (.lst k)))) := rfl
theorem d_neT : oNe (.tup l) (.tup k) P = ((D.tup l).ok = true ∧ (D.tup k).ok = true ∧ P (.bl (!(D.tup l).eqv (.tup k)))) := rfl
theorem d_neL : oNe (.lst l) (.lst k) P = ((D.lst l).ok = true ∧ (D.lst k).ok = true ∧ P (.bl (!(D.lst l).eqv (.lst k)))) := rfl
theorem d_neNT : oNe .non (.tup k) P = ((D.non).ok = true ∧ (D.tup k).ok = true ∧ P (.bl (!D.non.eqv (.tup k)))) := rfl
theorem d_neNN : oNe .non .non P = ((D.non).ok = true ∧ (D.non).ok = true ∧ P (.bl (!D.non.eqv .non))) := rfl
theorem d_neTN : oNe (.tup k) .non P = ((D.tup k).ok = true ∧ (D.non).ok = true ∧ P (.bl (!(D.tup k).eqv .non))) := rfl
theorem d_lenL : oLen [.lst l] P = P (.int l.length) := rfl
theorem d_lenT : oLen [.tup l] P = P (.int l.length) := rfl
theorem d_lenR : oLen [.rol l] P = P (.int l.length) := rfl
theorem d_ixL : oIx (.lst l) (.int i) P = asO (atI l i) P := rfl
theorem d_ixT : oIx (.tup l) (.int i) P = asO (atI l i) P := rfl
theorem d_ixR : oIx (.rol l) (.int i) P = asO (atI l i) P := rfl
theorem d_int : oInt [.int i] P = P (.int i) := rfl
theorem d_intB : oInt [.bl b] P = P (.int (if b then 1 else 0)) := rfl
theorem d_i1 {f : Int → Int} : oI1 f [.int i] P = P (.int (f i)) := rfl
theorem d_i2a {f : Int → Int → Int} : oI2a f [.int i, .int j] P = P (.int (f i j)) := rfl
theorem d_tupL : oTuple [.lst l] P = P (.tup l) := rfl
theorem d_tupR : oTuple [.rol l] P = P (.tup l) := rfl
theorem d_tupT : oTuple [.tup l] P = P (.tup l) := rfl
theorem d_neg : oNeg (.int i) P = P (.int (-i)) := rfl
theorem d_bls {f : List Bool → Bool} : oBls f [.lst l] P = asO (D.bls l) fun bs => P (.bl (f bs)) := rfl
theorem d_truN {Q : Bool → Prop} : tru .non Q = Q false := rfl
theorem d_truB {Q : Bool → Prop} : tru (.bl b) Q = Q b := rfl
theorem d_truI {Q : Bool → Prop} : tru (.int i) Q = Q (i != 0) := rfl
theorem d_truL {Q : Bool → Prop} : tru (.lst l) Q = Q (!l.isEmpty) := rfl
theorem d_truT {Q : Bool → Prop} : tru (.tup l) Q = Q (!l.isEmpty) := rfl
theorem d_itL : (D.lst l).items = some l := rfl
theorem d_itT : (D.tup l).items = some l := rfl
theorem d_itR : (D.rol l).items = some l := rfl
theorem d_isNN : oIsN .non .non P = P (.bl true) := rfl
theorem d_isNI : oIsN (.int i) .non P = P (.bl false) := rfl
theorem d_isNS : oIsN (.str x) .non P = P (.bl false) := rfl
theorem d_isNT : oIsN (.tup l) .non P = P (.bl false) := rfl
theorem d_isNE : oIsN (.exc C fs) .non P = P (.bl false) := rfl
theorem d_isInt_int : RL.isInt (.int i) = some true := rfl
theorem d_isInt_bl : RL.isInt (.bl b) = some true := rfl
theorem d_isInt_non : RL.isInt .non = some false := rfl
theorem d_isInt_str : RL.isInt (.str x) = some false := rfl
theorem d_isInt_lst : RL.isInt (.lst l) = some false := rfl
theorem d_isInt_rol : RL.isInt (.rol l) = some false := rfl
theorem d_isInt_tup : RL.isInt (.tup l) = some false := rfl
theorem d_isBool_int : RL.isBool (.int i) = some false := rfl
theorem d_isBool_bl : RL.isBool (.bl b) = some true := rfl
theorem d_isBool_non : RL.isBool .non = some false := rfl
theorem d_isBool_str : RL.isBool (.str x) = some false := rfl
theorem d_isBool_lst : RL.isBool (.lst l) = some false := rfl
theorem d_isBool_rol : RL.isBool (.rol l) = some false := rfl
theorem d_isBool_tup : RL.isBool (.tup l) = some false := rfl
theorem d_isStr_int : RL.isStr (.int i) = some false := rfl
theorem d_isStr_bl : RL.isStr (.bl b) = some false := rfl
theorem d_isStr_non : RL.isStr .non = some false := rfl
theorem d_isStr_str : RL.isStr (.str x) = some true := rfl
theorem d_isStr_lst : RL.isStr (.lst l) = some false := rfl
theorem d_isStr_rol : RL.isStr (.rol l) = some false := rfl
theorem d_isStr_tup : RL.isStr (.tup l) = some false := rfl
theorem d_isSeq_int : RL.isSeq (.int i) = some false := rfl
theorem d_isSeq_bl : RL.isSeq (.bl b) = some false := rfl
theorem d_isSeq_non : RL.isSeq .non = some false := rfl
theorem d_isSeq_str : RL.isSeq (.str x) = some false := rfl
theorem d_isSeq_lst : RL.isSeq (.lst l) = some true := rfl
theorem d_isSeq_rol : RL.isSeq (.rol l) = some true := rfl
theorem d_isSeq_tup : RL.isSeq (.tup l) = some true := rfl
theorem atI_nat {α : Type} {l : List α} {k : Nat} (h : k < l.length) : atI l (k : Int) = l[k]? := by
  unfold atI ixN
  rw [if_pos (Int.natCast_nonneg k), if_pos (Int.ofNat_lt.mpr h)]
  rfl
theorem d_at0 {x : D} : atI (x :: l) 0 = some x := atI_nat (k := 0) (by simp)
theorem d_at1 {x y : D} : atI (x :: y :: l) 1 = some y := atI_nat (k := 1) (by simp)
theorem d_at2 {x y z : D} : atI (x :: y :: z :: l) 2 = some z := atI_nat (k := 2) (by simp)
theorem among_str {s : Str} {ws : List Str} : (D.str s).among (ws.map D.str) = ws.contains s := by
  have key : ∀ ws : List Str, inV (V.str s) ((ws.map D.str).map D.fv) = ws.contains s := by
    intro ws
    induction ws with
    | nil => rfl
    | cons w ws ih =>
      show (eqV (V.str w) (V.str s) || inV (V.str s) ((ws.map D.str).map D.fv)) = _
      rw [ih, List.contains_cons]
      have : eqV (V.str w) (V.str s) = (s == w) := by
        show (w == s) = (s == w)
        by_cases h : w = s
        · rw [h]
        · rw [beq_eq_false_iff_ne.mpr h, beq_eq_false_iff_ne.mpr (Ne.symm h)]
      rw [this]
  exact key ws
theorem flat_strs : ∀ ws : List Str, (ws.map D.str).all D.flat = true
  | [] => rfl
  | w :: ws => by
    show (D.flat (.str w) && (ws.map D.str).all D.flat) = true
    rw [flat_strs ws]
    rfl
theorem d_inS {s : Str} {ws : List Str} : oIn false (.str s) (.tup (ws.map D.str)) P = P (.bl (ws.contains s)) := by
  show ((D.str s).flat = true ∧ (ws.map D.str).all D.flat = true ∧ P (.bl (if (false : Bool) then !(D.str s).among (ws.map D.str) else (D.str s).among (ws.map D.str)))) = _
  rw [among_str, flat_strs]
  exact propext ⟨fun h => h.2.2, fun h => ⟨rfl, rfl, h⟩⟩
end
/-! ### comprehensions, their names first -/
section
variable {X : Cx} {W : WX} {K : PySem.W.Frag}
variable {e a b c o tg iter elt : Expr} {es ifs : List Expr} {ta tb tc to te : TE} {φ φa φb φc φe : DM} {pos p apos p2 pos' : Pos} {wi : TI} {g : TG} {tt : TT} {ψ : DIt} {dg : DG} {τ : DT} {tgs : List Nat}
def blkB (N : List Str) (sc scope : Scope) (own : List (Str × Nat)) : Bool :=
  decide (scope.kind = .function) && (scope.names.all (fun y => decide (scope.names.lookup y.1 = some y.2)) && (own.all (fun p => decide (N[p.2]? = some p.1)) && (scope.names.all (fun y => !decide (y.2 = .free) || (decide (sc.names.lookup y.1 = some .cell) || decide (sc.names.lookup y.1 = some .free))) &&
    scope.names.all (fun y => !(decide (y.2 = .local) || decide (y.2 = .cell)) || (decide (y.1 ∈ own.map (·.1)) || decide (y.1 ∉ N))))))
theorem blk_ok {N : List Str} {sc scope : Scope} {own : List (Str × Nat)} (hN : X.N = N) (hs : X.env.scope = sc) (h : blkB N sc scope own = true) : BlkOk X.N X.env.scope scope own := by
  subst hN hs
  unfold blkB at h
  simp only [Bool.and_eq_true, List.all_eq_true, decide_eq_true_eq, Bool.or_eq_true, Bool.not_eq_true', decide_eq_false_iff_not, Bool.or_eq_false_iff] at h
  obtain ⟨h1, h2, h3, h4, h5⟩ := h
  refine ⟨h1, h2, h3, fun y hy e => (h4 y hy).elim (fun z => absurd e z) id, fun y hy e => (h5 y hy).elim (fun z => ?_) id⟩
  rcases e with e | e
  · exact absurd e z.1
  · exact absurd e z.2
theorem df_compO (own : List (Str × Nat)) {scope : Scope} (hi : DI X W tg iter wi ψ) (ok : BlkOk X.N X.env.scope scope own)
    (hg0 : DGt (X.blk {} (fun _ => none) scope (compEnvC scope [] 0 X.env) []) tg g tgs dg) (ht0 : DPt (X.blk {} (fun _ => none) scope (compEnvC scope [] 0 X.env) []) W0 ifs tt τ) (he0 : DE (X.blk {} (fun _ => none) scope (compEnvC scope [] 0 X.env) []) W0 elt te φe)
    (hg : ∀ (s : Shared) (H : Hp) (C : Addr) (cl : List (Str × Addr)) (fp : List Addr), DGt (X.blk s H scope (compEnvC scope cl C X.env) fp) tg g tgs dg)
    (ht : ∀ (s : Shared) (H : Hp) (C : Addr) (cl : List (Str × Addr)) (fp : List Addr), DPt (X.blk s H scope (compEnvC scope cl C X.env) fp) W0 ifs tt τ)
    (he : ∀ (s : Shared) (H : Hp) (C : Addr) (cl : List (Str × Addr)) (fp : List Addr), DE (X.blk s H scope (compEnvC scope cl C X.env) fp) W0 elt te φe)
    (hN : X.N.Nodup) (hs : ∀ i ∈ tgs, i ∈ own.map (·.2) := by decide) (hc : X.calm = true := by rfl) (hf : ∀ x, foldedSetIterable iter X.env x = pure x := by intro _; rfl) :
    DF X W (.ListComp elt [⟨tg, iter, ifs, 0⟩] scope pos) (tLc wi g tt te (own.map (·.2))) (fComp ψ dg τ φe (own.map (·.2))) := df_comp hi ok hg ht he hN hs hc hf
theorem ds_setLcO (i : Nat) {y : Str} {py : Pos} {scope : Scope} (hN : X.N.Nodup) (own : List (Str × Nat)) (hi : DI X W tg iter wi ψ) (ok : BlkOk X.N X.env.scope scope own)
    (hg0 : DGt (X.blk {} (fun _ => none) scope (compEnvC scope [] 0 X.env) []) tg g tgs dg) (ht0 : DPt (X.blk {} (fun _ => none) scope (compEnvC scope [] 0 X.env) []) W0 ifs tt τ) (he0 : DE (X.blk {} (fun _ => none) scope (compEnvC scope [] 0 X.env) []) W0 elt te φe)
    (hg : ∀ (s : Shared) (H : Hp) (C : Addr) (cl : List (Str × Addr)) (fp : List Addr), DGt (X.blk s H scope (compEnvC scope cl C X.env) fp) tg g tgs dg)
    (ht : ∀ (s : Shared) (H : Hp) (C : Addr) (cl : List (Str × Addr)) (fp : List Addr), DPt (X.blk s H scope (compEnvC scope cl C X.env) fp) W0 ifs tt τ)
    (he : ∀ (s : Shared) (H : Hp) (C : Addr) (cl : List (Str × Addr)) (fp : List Addr), DE (X.blk s H scope (compEnvC scope cl C X.env) fp) W0 elt te φe)
    (hsw : swapsWith (.ListComp elt [⟨tg, iter, ifs, 0⟩] scope pos) (some (.Name y py)) pos'.line X.env = pure true)
    (hs : ∀ i ∈ tgs, i ∈ own.map (·.2) := by decide) (hy : X.N[i]? = some y := by rfl) (hyl : X.env.scope.names.lookup y = some .local := by rfl) (hc : X.calm = true := by rfl) (hf : ∀ x, foldedSetIterable iter X.env x = pure x := by intro _; rfl) :
    DSt X W (.Assign [.Name y py] (.ListComp elt [⟨tg, iter, ifs, 0⟩] scope pos) pos') (tAsg (tLc wi g tt te (own.map (·.2))) (gName i)) (sSetF i (fComp ψ dg τ φe (own.map (·.2)))) := ds_setLc i hN hi ok hg ht he hsw hs hy hyl hc hf
end
/-! ### comprehensions over known data -/
theorem bls_map : ∀ bs : List Bool, D.bls (bs.map D.bl) = some bs
  | [] => rfl
  | b :: bs => by
    show (D.bls (bs.map D.bl)).map (b :: ·) = some (b :: bs)
    rw [bls_map bs]
    rfl
theorem wipeD_get {s : List SD} {k : Nat} : ∀ {vs : List Nat}, (wipeD s vs)[k]? = if k ∈ vs ∧ k < s.length then some .un else s[k]?
  | [] => by simp [wipeD]
  | v :: vs => by
    show ((wipeD s vs).set v .un)[k]? = _
    rw [List.getElem?_set, wipeD_length, wipeD_get (vs := vs)]
    by_cases h : v = k
    · subst h
      by_cases h2 : v < s.length
      · simp [h2]
      · simp [h2]
    · rw [if_neg h]
      simp [Ne.symm h]
theorem restD_get {s0 s : List SD} {k : Nat} : ∀ {vs : List Nat}, (restD s0 s vs)[k]? = if k ∈ vs ∧ k < s.length then some (origD s0 k) else s[k]?
  | [] => by simp [restD]
  | v :: vs => by
    show ((restD s0 s vs).set v (origD s0 v))[k]? = _
    rw [List.getElem?_set, restD_length, restD_get (vs := vs)]
    by_cases h : v = k
    · subst h
      by_cases h2 : v < s.length
      · simp [h2]
      · simp [h2]
    · rw [if_neg h]
      simp [Ne.symm h]
theorem restD_wipe {s0 s : List SD} {vs : List Nat} : restD s0 (wipeD s vs) vs = restD s0 s vs := by
  apply List.ext_getElem?
  intro k
  rw [restD_get, restD_get, wipeD_length, wipeD_get]
  by_cases h : k ∈ vs ∧ k < s.length
  · rw [if_pos h, if_pos h]
  · rw [if_neg h, if_neg h, if_neg h]
/-- a comprehension over xs, its element for x being out x, nothing else touched -/
theorem comp_map {α : Type} {enc out : α → D} {g : DG} {tt : DT} {te : DM} {vs : List Nat} {s0 w : List SD} {m : Mh} {P : List D → Dl → Prop} : ∀ {xs : List α} {acc : List D} {s : List SD}, wipeD s vs = w →
    (∀ x ∈ xs, ∀ (R : D → Dl → Prop) (S : Dl → Prop), (∀ s3, wipeD s3 vs = w → R (out x) ⟨s3, m⟩) → g (enc x) ⟨w, m⟩ fun δ1 => tt δ1 (fun b δ2 => if b = true then te δ2 R (fun _ _ => False) else S δ2) fun _ _ => False) →
    acc.length + xs.length ≤ sizeLine → P (acc ++ xs.map out) ⟨restD s0 w vs, m⟩ → dComp g tt te vs s0 (xs.map enc) acc ⟨s, m⟩ P
  | [], acc, s, hw, _, _, hP => by
    subst hw
    rw [restD_wipe] at hP
    simpa [dComp] using hP
  | x :: xs, acc, s, hw, hs, hl, hP => by
    show g (enc x) ⟨wipeD s vs, m⟩ _
    rw [hw]
    simp only [List.length_cons] at hl
    refine hs x List.mem_cons_self (fun y δ3 => acc.length < sizeLine ∧ dComp g tt te vs s0 (xs.map enc) (acc ++ [y]) δ3 P) _ fun s3 h3 => ⟨by omega, ?_⟩
    exact comp_map h3 (fun z hz => hs z (List.mem_cons_of_mem _ hz)) (by simp only [List.length_append, List.length_singleton]; omega) (by simpa using hP)
/-- a loop over known data, by what holds ahead of the turns to come -/
theorem for_map {α : Type} {enc : α → D} {g : DG} {f : DS} {Dd : Dn} (I : List α → Dl → Prop)
    (hs : ∀ x xs δ (N : Dl → Prop), I (x :: xs) δ → (∀ δ2, I xs δ2 → N δ2) → g (enc x) δ fun δ1 => f δ1 { Dd with nx := N, ct := N, bk := Dd.nx }) (he : ∀ δ, I [] δ → Dd.nx δ) : ∀ {xs : List α} {δ : Dl}, I xs δ → dFor g f (xs.map enc) δ Dd
  | [], δ, h => he δ h
  | x :: xs, δ, h => hs x xs δ _ h fun δ2 h2 => for_map I hs he h2
theorem mup_mup {m : Mh} {a : Addr} {o o' : MO} : mup (mup m a o) a o' = mup m a o' := by
  funext b
  by_cases h : b = a
  · rw [h, mup_same, mup_same]
  · rw [mup_ne h, mup_ne h, mup_ne h]
end RL
set_option Elab.async false
set_option linter.all false
set_option maxRecDepth 100000
/-! R18: a def whose code object is known. -/
namespace RL
open PySem PySem.Spec PyProof.Rows L2
section
variable {P : Program} {w : World} {K : PySem.W.Frag} {mg : Str → Option Value} {base : Heap}
theorem okDC {x qual : Str} {st : Stmt} {fa : Addr} {fd : FuncData} {N ps : List Str} {k : Nat} {f : Fsp} {cd : Value} (F : L2.Fun K x qual st fa fd) (hc : fd.code = cd) (S : FnScope N ps (defScope st)) (len : ∀ ds m P EX, f ds m P EX → ds.length = ps.length)
    (hb : ∀ (A : Around) (outer : List Env) (s : Shared) (H : Hp) (E : XK),
      Room k (cxOf (L2.CX P w) P w K mg base N qual (defScope st) fa cd A outer s H E).A → (cxOf (L2.CX P w) P w K mg base N qual (defScope st) fa cd A outer s H E).A.guards = some [] →
      Takes (cxOf (L2.CX P w) P w K mg base N qual (defScope st) fa cd A outer s H E) (fun cls d _ H' => E cls d H') →
      PassesOwn (model P w) (cxOf (L2.CX P w) P w K mg base N qual (defScope st) fa cd A outer s H E).A (cxOf (L2.CX P w) P w K mg base N qual (defScope st) fa cd A outer s H E).env (cxOf (L2.CX P w) P w K mg base N qual (defScope st) fa cd A outer s H E).xe →
      ∃ t φ, DSs (cxOf (L2.CX P w) P w K mg base N qual (defScope st) fa cd A outer s H E) (fun cls d _ H' => E cls d H') (defBody st) t φ ∧ ∀ ds m Pd EX, f ds m Pd EX → φ ⟨startD N ds, m⟩ (bodyEnds Pd EX)) :
    FnQ P w K mg base (L2.CX P w) (k + 1) fa fd ps (spD K f) := by
  obtain ⟨oc, od, kV, doc, pm, an, cdv, ct, osl, rfl, lk, hcd⟩ := F.ex
  have hc' : cdv = cd := hc
  subst hc'
  refine fnq_of lk hcd S (spD_len len) fun A outer s H vs Q E hr hg hsp => ?_
  obtain ⟨t, φ, hd, hf⟩ := hb A outer s H E hr hg (takes_of rfl rfl rfl rfl) (passes_of rfl)
  exact ⟨t, hd.ps, body_run hsp hd.lk hf⟩
end
end RL
set_option Elab.async false
set_option linter.all false
set_option maxRecDepth 100000
set_option maxHeartbeats 4000000
/-! R19: the head's facts, read by a Hook of our own: tables of the defs that make lambdas left out, defs that close over cells told. -/
namespace RL
open PySem PySem.Spec PyProof.Rows L2 RZ NdefX
abbrev eqO := He.eqO
abbrev ga := He.ga
theorem ba {a b : Bool} (h : (a && b) = true) : a = true ∧ b = true := Bool.and_eq_true_iff.mp h

/-! ### classes -/
def clsB (K : PySem.W.Frag) (C : Addr) : Bool := PySem.W.plainGet K C Str.empty && (PySem.W.hasDictIn K C && (PySem.W.plainOver K C && eqO (PySem.W.findIn K (.ref C) "__setattr__") (some (some (.builtin "object.__setattr__")))))
theorem clsB_ok {K : PySem.W.Frag} {C : Addr} (h : clsB K C = true) : Cls K C := by
  obtain ⟨c1, c⟩ := ba h
  obtain ⟨c2, c⟩ := ba c
  obtain ⟨c3, c4⟩ := ba c
  exact ⟨c1, c2, c3, He.eqO_ok c4⟩
def noB (K : PySem.W.Frag) (C : Addr) (f : Str) : Bool := eqO (PySem.W.findIn K (.ref C) f) (some none)
theorem noB_ok {K : PySem.W.Frag} {C : Addr} {f : Str} (h : noB K C f = true) : PySem.W.findIn K (.ref C) f = some none := He.eqO_ok h
theorem fldB_ok {K : PySem.W.Frag} {C : Addr} {f : Str} (h : clsB K C = true) (h2 : noB K C f = true) : FldOk K f C := ⟨clsB_ok h, noB_ok h2⟩
def askB (K : PySem.W.Frag) (C : Addr) : Bool := eqO (PySem.W.findIn K (.ref C) "__class__") (some (some (.builtin "object.__class__"))) && (eqO (PySem.W.specialIn K (.builtin "object.__class__") "__get__") (some (some (.builtin "getset_descriptor.__get__"))) &&
  (decide (PySem.W.takesIn K (.builtin "object.__class__") = some true) && decide (PySem.W.mroIn K C (.type "object") = some true)))
def kitB (K : PySem.W.Frag) (t c : Value) (b : Bool) : Bool := decide (PySem.W.kitOne K t c = some b)
def nonOwn : List String := ["NoneType", "bool", "int", "str", "list", "tuple"]
def ownB (K : PySem.W.Frag) (C : Addr) : Bool := clsB K C && (askB K C && nonOwn.all fun T => kitB K (.type T) (.ref C) false)
theorem ownB_ok {K : PySem.W.Frag} {C : Addr} (h : ownB K C = true) : OwnC K C := by
  obtain ⟨h1, h⟩ := ba h
  obtain ⟨h2, h3⟩ := ba h
  obtain ⟨a1, a⟩ := ba h2
  obtain ⟨a2, a⟩ := ba a
  obtain ⟨a3, a4⟩ := ba a
  exact ⟨⟨clsB_ok h1, He.eqO_ok a1, He.eqO_ok a2, of_decide_eq_true a3, of_decide_eq_true a4⟩, fun T hT => of_decide_eq_true (List.all_eq_true.mp h3 T hT)⟩
def mkB (K : PySem.W.Frag) (C : Addr) : Bool := PySem.W.makesIn K C && (eqO (PySem.W.findIn K (.ref C) "__init__") (some (some (.ref (He.ma K C "__init__")))) && (PySem.W.isFn K (.ref (He.ma K C "__init__")) && PySem.W.keepIn K (.ref C)))
theorem mkB_ok {K : PySem.W.Frag} {C : Addr} (h : mkB K C = true) : Mk K C (He.ma K C "__init__") := by
  obtain ⟨c1, c⟩ := ba h
  obtain ⟨c2, c⟩ := ba c
  obtain ⟨c3, c4⟩ := ba c
  exact ⟨c1, He.eqO_ok c2, c3, c4⟩
def methB (K : PySem.W.Frag) (C : Addr) (m : Str) : Bool := eqO (PySem.W.findIn K (.ref C) m) (some (some (.ref (He.ma K C m)))) && (PySem.W.isFn K (.ref (He.ma K C m)) && PySem.W.keepIn K (.ref (He.ma K C m)))
theorem methB_ok {K : PySem.W.Frag} {C : Addr} {m : Str} (h : methB K C m = true) : PySem.W.findIn K (.ref C) m = some (some (.ref (He.ma K C m))) ∧ PySem.W.isFn K (.ref (He.ma K C m)) = true ∧ PySem.W.keepIn K (.ref (He.ma K C m)) = true := by
  obtain ⟨c1, c⟩ := ba h
  obtain ⟨c2, c3⟩ := ba c
  exact ⟨He.eqO_ok c1, c2, c3⟩

/-! ### classes of exceptions -/
def oexB (K : PySem.W.Frag) (C : Addr) : Bool := (match K.lookup C with
  | some ⟨.type "type", _, .cls cd, sl⟩ => (match cd.mro, sl.toList with
    | .ref C' :: bm, [_, _, _, _, some (.builtin n), _] => decide (C' = C) && (decide (n = "ValueError.__new__") && (!cd.hasDel && (cd.hasDict && PySem.HandSPX.refsVE bm)))
    | _, _ => false)
  | _ => false) && (eqO (PySem.W.findIn K (.ref C) "__setattr__") (some (some (.builtin "object.__setattr__"))) && (decide (PySem.W.subIn K (.ref C) (.type "BaseException") = some true) && (decide (PySem.W.typeIn K (.ref C) = some (.type "type")) && PySem.W.keepIn K (.ref C))))
theorem oexB_ok {K : PySem.W.Frag} {C : Addr} (h : oexB K C = true) : OexC K C := by
  obtain ⟨h0, h⟩ := ba h
  obtain ⟨h1, h⟩ := ba h
  obtain ⟨h2, h⟩ := ba h
  obtain ⟨h3, h4⟩ := ba h
  refine ⟨?_, He.eqO_ok h1, of_decide_eq_true h2, of_decide_eq_true h3, h4⟩
  split at h0
  · rename_i dd cd sl ho
    split at h0
    · rename_i C' bm k0 k1 k2 k3 n k5 hm hs
      obtain ⟨q1, q⟩ := ba h0
      obtain ⟨q2, q⟩ := ba q
      obtain ⟨q3, q⟩ := ba q
      obtain ⟨q4, q5⟩ := ba q
      have e1 := of_decide_eq_true q1
      have e2 := of_decide_eq_true q2
      subst e1 e2
      obtain ⟨nm, bs, mro, ns, qn, hd, sn, sub, ab, col, del⟩ := cd
      simp only [Bool.not_eq_true'] at q3
      dsimp only at hm q3 q4
      subst hm q3 q4
      have hsl : sl = #[k0, k1, k2, k3, some (.builtin "ValueError.__new__"), k5] := by
        obtain ⟨l⟩ := sl
        simp only at hs
        rw [hs]
      subst hsl
      exact ⟨_, _, _, _, _, _, _, _, _, _, _, _, _, _, _, ho, q5⟩
    · cases h0
  · cases h0
def baseEB (K : PySem.W.Frag) (C : Addr) : Bool := eqO (PySem.W.findIn K (.ref C) "__getattribute__") (some (some (.builtin "BaseException.__getattribute__"))) && (eqO (PySem.W.findIn K (.ref C) "__getattr__") (some none) && (decide (PySem.W.subIn K (.ref C) (.type "BaseException") = some true) && PySem.W.hasDictIn K C))
def exccB (K : PySem.W.Frag) (C : Addr) : Bool := baseEB K C && askB K C
theorem exccB_ok {K : PySem.W.Frag} {C : Addr} (h : exccB K C = true) : ExcC K C := by
  obtain ⟨h1, h2⟩ := ba h
  obtain ⟨b1, b⟩ := ba h1
  obtain ⟨b2, b⟩ := ba b
  obtain ⟨b3, b4⟩ := ba b
  obtain ⟨a1, a⟩ := ba h2
  obtain ⟨a2, a⟩ := ba a
  obtain ⟨a3, a4⟩ := ba a
  exact ⟨He.eqO_ok b1, He.eqO_ok b2, of_decide_eq_true b3, b4, He.eqO_ok a1, He.eqO_ok a2, of_decide_eq_true a3, of_decide_eq_true a4⟩
theorem xfcB_ok {K : PySem.W.Frag} {C : Addr} (h : exccB K C = true) : XfC K C := by
  obtain ⟨h1, _⟩ := ba h
  obtain ⟨b1, b⟩ := ba h1
  obtain ⟨b2, b⟩ := ba b
  obtain ⟨b3, b4⟩ := ba b
  exact ⟨He.eqO_ok b1, He.eqO_ok b2, of_decide_eq_true b3, b4⟩
theorem xfOkB {K : PySem.W.Frag} {C : Addr} {f : Str} (h : exccB K C = true) (h2 : noB K C f = true) : XfOk K f C := ⟨xfcB_ok h, noB_ok h2⟩
def nmcB (K : PySem.W.Frag) (C : Addr) (nm : Str) : Bool := (match PySem.W.findObj K C none "__class__" with
  | some (.bind (.builtin a) (.builtin b)) => decide (a = "getset_descriptor.__get__") && decide (b = "object.__class__")
  | _ => false) && (PySem.W.readsIn K C (.type "type") && ((match PySem.W.findCls K (.ref C) (.type "type") "__name__" with
  | some (.get (.builtin a) (.builtin b) (.ref c) (.type d)) => decide (a = "getset_descriptor.__get__") && (decide (b = "type.__name__") && (decide (c = C) && decide (d = "type")))
  | _ => false) && (match K.lookup C with
  | some oC => decide (oC.cls = .type "type") && (match (oC.slots[2]? : Option (Option Value)) with
    | some (some (Value.str x _)) => decide (x = nm)
    | _ => false)
  | none => false)))
theorem nmcB_ok {K : PySem.W.Frag} {C : Addr} {nm : Str} (h0 : exccB K C = true) (h : nmcB K C nm = true) : NmC K C nm := by
  have e := exccB_ok h0
  obtain ⟨h1, h⟩ := ba h
  obtain ⟨h2, h⟩ := ba h
  obtain ⟨h3, h4⟩ := ba h
  refine ⟨e.hg, e.hk, e.hs, ?_, e.hm, h2, ?_, ?_⟩
  · split at h1
    · rename_i a b q
      obtain ⟨q1, q2⟩ := ba h1
      have e1 := of_decide_eq_true q1
      have e2 := of_decide_eq_true q2
      subst e1 e2
      exact q
    · cases h1
  · split at h3
    · rename_i a b c d q
      obtain ⟨q1, q0⟩ := ba h3
      obtain ⟨q2, q0⟩ := ba q0
      obtain ⟨q3, q4⟩ := ba q0
      have e1 := of_decide_eq_true q1
      have e2 := of_decide_eq_true q2
      have e3 := of_decide_eq_true q3
      have e4 := of_decide_eq_true q4
      subst e1 e2 e3 e4
      exact q
    · cases h3
  · split at h4
    · rename_i oC q
      obtain ⟨q1, q2⟩ := ba h4
      split at q2
      · rename_i x t y
        have e1 := of_decide_eq_true q2
        subst e1
        exact ⟨oC, t, q, of_decide_eq_true q1, y⟩
      · cases q2
    · cases h4

/-! ### defs that close over cells: __init__ with super() -/
def closAt (K : PySem.W.Frag) (a : Addr) : List (Str × Addr) := match K.lookup a with
  | some ⟨_, _, .func fd, _⟩ => fd.closure
  | _ => []
def cellAt (K : PySem.W.Frag) (a : Addr) : Addr := match closAt K a with
  | (_, c) :: _ => c
  | _ => 0
def codeAt (K : PySem.W.Frag) (a : Addr) : Addr := match K.lookup a with
  | some ⟨_, _, .func fd, _⟩ => (match fd.code with
    | .ref c => c
    | _ => 0)
  | _ => 0
/-- a def at an address, its words, the names of its cells -/
structure CloD where
  ad : PySem.W.Frag → Addr
  name : Str
  qual : Str
  params : Arguments
  body : List Stmt
  scope : Scope
  fr : List Str
abbrev FnC : Type := Option (Str × Str × Arguments × FuncBody × Scope × Addr × List Str × Value × Addr)
def fnC (K : PySem.W.Frag) (a : Addr) : FnC := match K.lookup a with
  | some ⟨_, _, .func fd, _⟩ => some (fd.name, fd.qualname, fd.params, fd.body, fd.scope, fd.globals, fd.closure.map (·.1), fd.defaults, fd.builtins)
  | _ => none
def CloD.val (d : CloD) : FnC := some (d.name, d.qual, d.params, .stmts d.body, d.scope, mainGlobals, d.fr, .none, builtinsNs)
def CloD.ok (K : PySem.W.Frag) (d : CloD) : Bool := match K.lookup (d.ad K) with
  | some ⟨_, _, .func fd, _⟩ => PySem.W.codeIn K fd.code d.qual
  | _ => false
theorem CloD.fun {K : PySem.W.Frag} {d : CloD} (e : fnC K (d.ad K) = d.val) (c : d.ok K = true) : ∃ (oc : Value) (od : Option Addr) (cl : List (Str × Addr)) (kV doc pm : Value) (an : Option Addr) (ct : Value) (osl : Array (Option Value)),
    cl.map (·.1) = d.fr ∧ cl = closAt K (d.ad K) ∧ K.lookup (d.ad K) = some ⟨oc, od, .func (PySem.W.fnX d.name d.qual d.params d.body d.scope cl .none kV doc pm an (.ref (codeAt K (d.ad K))) ct), osl⟩ ∧ PySem.W.codeIn K (.ref (codeAt K (d.ad K))) d.qual = true := by
  unfold fnC at e
  unfold CloD.ok at c
  unfold closAt codeAt
  cases q : K.lookup (d.ad K) with
  | none => rw [q] at c; cases c
  | some o =>
    obtain ⟨oc, od, dt, osl⟩ := o
    rw [q] at c e
    cases dt with
    | func fd =>
      obtain ⟨n1, n2, n3, n4, n5, n6, n7, n8, n9, n10, n11, n12, n13, n14, n15⟩ := fd
      have e2 : (some (n1, n2, n3, n4, n5, n6, n7.map (·.1), n8, n15) : FnC) = some (d.name, d.qual, d.params, .stmts d.body, d.scope, mainGlobals, d.fr, .none, builtinsNs) := e
      simp only [Option.some.injEq, Prod.mk.injEq] at e2
      obtain ⟨h1, h2, h3, h4, h5, h6, h7, h8, h9⟩ := e2
      subst h1 h2 h3 h4 h5 h6 h8 h9
      have c2 : PySem.W.codeIn K n13 d.qual = true := c
      obtain ⟨ca, hca⟩ := He.codeIn_ref c2
      subst hca
      exact ⟨oc, od, n7, n9, n10, n11, n12, n14, osl, h7, rfl, rfl, c2⟩
    | _ => cases c
theorem clo_one {K : PySem.W.Frag} {cl : List (Str × Addr)} {a : Addr} {x : Str} (h : cl.map (·.1) = [x]) (h2 : cl = closAt K a) : cl = [(x, cellAt K a)] := by
  unfold cellAt
  rw [← h2]
  cases cl with
  | nil => cases h
  | cons p r =>
    cases r with
    | nil =>
      obtain ⟨y, c⟩ := p
      have e : y = x := (List.cons.inj h).1
      rw [e]
    | cons q r => cases h
theorem isFn_ty {K : PySem.W.Frag} {v : Value} (h : PySem.W.isFn K v = true) : PySem.W.typeIn K v = some (.type "function") := eq_of_beq h
def supB (P : Program) (K : PySem.W.Frag) (C fI : Addr) : Bool := (match K.lookup (cellAt K fI) with
  | some ⟨_, _, .cell (some (.ref C')), _⟩ => decide (C' = C)
  | _ => false) && ((match K.lookup (codeAt K fI) with
  | some ⟨_, _, .fields vs, _⟩ => (match (vs[2]? : Option Value) with
    | some (Value.str file _) => (P.main.file : Str) == file
    | _ => false)
  | _ => false) && (decide (PySem.W.mroIn K C (.ref C) = some true) && (eqO (PySem.W.nsIn K cStatics "thirdparty.any") (some none) && (eqO (PySem.W.ks_superIn K C C "__init__") (some (some (.builtin "ValueError.__init__"))) && decide (PySem.W.subIn K (.ref C) (.type "ValueError") = some true)))))
theorem supB_ok {P : Program} {K : PySem.W.Frag} {mg : Str → Option Value} {C fI : Addr} (h : supB P K C fI = true) (ht : (P.main.scope.names.lookup ("super" : Str)).isSome = false) (hs : mg "super" = none) : SupK P K mg C fI (cellAt K fI) (codeAt K fI) := by
  obtain ⟨h1, h⟩ := ba h
  obtain ⟨h2, h⟩ := ba h
  obtain ⟨h3, h⟩ := ba h
  obtain ⟨h4, h⟩ := ba h
  obtain ⟨h5, h6⟩ := ba h
  refine ⟨?_, ?_, ht, hs, of_decide_eq_true h3, He.eqO_ok h4, He.eqO_ok h5, of_decide_eq_true h6⟩
  · split at h1
    · rename_i cl cld C' csl q
      have e := of_decide_eq_true h1
      subst e
      exact ⟨_, _, _, q⟩
    · cases h1
  · split at h2
    · rename_i ccl cdd vs ccs q
      split at h2
      · rename_i file tf y
        exact ⟨_, _, _, _, _, _, q, y, h2⟩
      · cases h2
    · cases h2

/-! ### constants -/
section
variable {K : PySem.W.Frag} {h : Heap} {mg : Str → Option Value}
theorem cst_int (X : K.In h) (G : h.Ns mainGlobals mg) {x : Str} {i : Int} (c : (He.Fa.int x i).ok K = true) : Cst K mg x (.int i) (.int i) := by
  obtain ⟨t, e⟩ := He.int_ok X G c
  exact ⟨⟨_, e, t, rfl⟩, fun _ => .int i⟩
theorem cst_str (X : K.In h) (G : h.Ns mainGlobals mg) {x z : Str} (c : (He.Fa.str x z).ok K = true) : Cst K mg x (.str z) (.str z) := by
  obtain ⟨t, e⟩ := He.str_ok X G c
  exact ⟨⟨_, e, t, rfl⟩, fun _ => .str z⟩
theorem cst_tup (X : K.In h) (G : h.Ns mainGlobals mg) {x : Str} {vs : List He.Dv} {ds : List D} (c : (He.Fa.glo x).ok K = true) (c2 : He.tupB K x vs = true) (hd : ∀ A, DrAll K A (vs.map (He.Dv.v K)) ds) : Cst K mg x (.ref (ga K x)) (.tup ds) :=
  ⟨⟨_, He.glo_ok X G c, rfl⟩, fun A => .tup (He.tupB_ok c2 A) (hd A)⟩
end
theorem strs_dr {K : PySem.W.Frag} {A : Hp} : ∀ ws : List Str, DrAll K A ((ws.map He.Dv.str).map (He.Dv.v K)) (ws.map D.str)
  | [] => .nil
  | w :: ws => .cons (.str w) (strs_dr ws)
theorem ints_dr' {K : PySem.W.Frag} {A : Hp} : ∀ ws : List Int, DrAll K A ((ws.map He.Dv.int).map (He.Dv.v K)) (ws.map D.int)
  | [] => .nil
  | w :: ws => .cons (.int w) (ints_dr' ws)

/-! ### the Hook -/
/-- a def that makes lambdas: where, the name of its lambdas -/
abbrev Lm : Type := (Str × Option Str) × Str
def lmT (K : PySem.W.Frag) (tf : List Lm) : List (Addr × Str) := tf.map fun p => ((He.cT K p.1).2, p.2)
def adL (g : Addr → Option Obj) (n : Nat) : List Addr := cStatics :: He.asD g n
def frL (g : Addr → Option Obj) (as : List Addr) (tf : List Lm) : PySem.W.Frag := (He.frG g as).filter fun q => !((lmT (He.frG g as) tf).map (·.1)).contains q.1
theorem frL_mem {g : Addr → Option Obj} {as : List Addr} {tf : List Lm} {a : Addr} {o : Obj} (h : (frL g as tf).lookup a = some o) : g a = some o := (He.frG_mem (List.mem_filter.mp (He.lookup_mem h)).1)
structure SaysL (fa : List He.Fa) (fn : List He.DefD) (ts : List He.Tab) (tf : List Lm) (cs : List CloD) (ex : PySem.W.Frag → Bool) (w : World) (h : Heap) (K : PySem.W.Frag) : Prop where
  t : He.SaysT fa fn ts w K
  more : ex K = true
  hd : ∀ p ∈ tf, PySem.W.codeHdIn K (He.cT K p.1).1 (He.cT K p.1).2 = true
  out : ∀ p ∈ tf, K.lookup (He.cT K p.1).2 = none
  empty : ∀ p ∈ tf, h.get? (He.cT K p.1).2 = some { cls := .none, data := .fields #[] }
  tk : ∀ q ∈ TK K, q ∈ lmT K tf
  tk2 : ∀ q ∈ lmT K tf, q ∈ TK K
  one : ∀ p ∈ lmT K tf, ∀ q ∈ lmT K tf, p.1 = q.1 → p.2 = q.2
  clo : ∀ d ∈ cs, fnC K (d.ad K) = d.val ∧ d.ok K = true
def lmB (g : Addr → Option Obj) (tf : List Lm) (cs : List CloD) (K : PySem.W.Frag) : Bool := (tf.all fun p => PySem.W.codeHdIn K (He.cT K p.1).1 (He.cT K p.1).2 && ((K.lookup (He.cT K p.1).2).isNone && (match g (He.cT K p.1).2 with
  | some o => He.emptyTab o
  | none => false))) && (decide (∀ q ∈ TK K, q ∈ lmT K tf) && (decide (∀ q ∈ lmT K tf, q ∈ TK K) && ((decide (∀ p ∈ lmT K tf, ∀ q ∈ lmT K tf, p.1 = q.1 → p.2 = q.2)) && cs.all fun d => d.ok K)))
abbrev AlL : Type := (He.AlT × List FnC) × Bool
def obsL0 (fa : List He.Fa) (fn : List He.DefD) (ts : List He.Tab) (tf : List Lm) (cs : List CloD) (ex : PySem.W.Frag → Bool) (g : Addr → Option Obj) (K : PySem.W.Frag) : AlL := ((He.obsT fa fn ts K, cs.map fun d => fnC K (d.ad K)), ex K && lmB g tf cs K)
def obsL (n : Nat) (fa : List He.Fa) (fn : List He.DefD) (ts : List He.Tab) (tf : List Lm) (cs : List CloD) (ex : PySem.W.Frag → Bool) (g : Addr → Option Obj) : AlL := obsL0 fa fn ts tf cs ex g (frL g (adL g n) tf)
def valL (fn : List He.DefD) (ts : List He.Tab) (cs : List CloD) (w : World) : AlL := ((He.valT fn ts w, cs.map CloD.val), true)
theorem saysL_of {n : Nat} {fa : List He.Fa} {fn : List He.DefD} {ts : List He.Tab} {tf : List Lm} {cs : List CloD} {ex : PySem.W.Frag → Bool} {w : World} {h : Heap} (e : obsL n fa fn ts tf cs ex h.get? = valL fn ts cs w) :
    SaysL fa fn ts tf cs ex w h (frL h.get? (adL h.get? n) tf) := by
  unfold obsL at e
  generalize frL h.get? (adL h.get? n) tf = K at e ⊢
  have e1 : He.obsT fa fn ts K = He.valT fn ts w := congrArg (fun z : AlL => z.1.1) e
  have e2 : (cs.map fun d => fnC K (d.ad K)) = cs.map CloD.val := congrArg (fun z : AlL => z.1.2) e
  have e3 : (ex K && lmB h.get? tf cs K) = true := congrArg (fun z : AlL => z.2) e
  obtain ⟨h1, h2⟩ := ba e3
  obtain ⟨b1, b⟩ := ba h2
  obtain ⟨b2, b⟩ := ba b
  obtain ⟨b3, b⟩ := ba b
  obtain ⟨b4, b5⟩ := ba b
  have key : ∀ p ∈ tf, PySem.W.codeHdIn K (He.cT K p.1).1 (He.cT K p.1).2 = true ∧ K.lookup (He.cT K p.1).2 = none ∧ ∃ o, h.get? (He.cT K p.1).2 = some o ∧ He.emptyTab o = true := fun p hp => by
    obtain ⟨h3, h4⟩ := ba (List.all_eq_true.mp b1 p hp)
    obtain ⟨h4, h5⟩ := ba h4
    refine ⟨h3, Option.isNone_iff_eq_none.mp h4, ?_⟩
    cases q : h.get? (He.cT K p.1).2 with
    | none =>
      rw [q] at h5
      cases h5
    | some o =>
      rw [q] at h5
      exact ⟨o, rfl, h5⟩
  refine ⟨e1, h1, fun p hp => (key p hp).1, fun p hp => (key p hp).2.1, fun p hp => ?_, of_decide_eq_true b2, of_decide_eq_true b3, of_decide_eq_true b4, fun d hd => ⟨?_, List.all_eq_true.mp b5 d hd⟩⟩
  · obtain ⟨_, _, o, q, z⟩ := key p hp
    rw [q, He.emptyTab_eq z]
  · obtain ⟨i, hi, ei⟩ := List.mem_iff_getElem.mp hd
    have e4 : (cs.map fun d => fnC K (d.ad K))[i]? = (cs.map CloD.val)[i]? := by rw [e2]
    rw [List.getElem?_map, List.getElem?_map, List.getElem?_eq_getElem hi, ei] at e4
    exact Option.some.inj e4
def hookL (n : Nat) (fa : List He.Fa) (fn : List He.DefD) (ts : List He.Tab) (tf : List Lm) (cs : List CloD) (ex : PySem.W.Frag → Bool) : PySem.W.Hook where
  α := AlL
  obs := fun s => obsL n fa fn ts tf cs ex s.heap.get?
  val := fun w => valL fn ts cs w
  says := fun w h => ∃ K : PySem.W.Frag, K.In h ∧ SaysL fa fn ts tf cs ex w h K
  of := fun _ _ e => ⟨_, fun _ _ q => frL_mem q, saysL_of e⟩
  keeps := fun _ _ _ ⟨K, hK, c⟩ k => ⟨K, PySem.W.Frag.In.keeps hK k, ⟨c.t, c.more, c.hd, c.out, fun p hp => k _ _ (c.empty p hp), c.tk, c.tk2, c.one, c.clo⟩⟩
theorem obsL_eq {n : Nat} {fa : List He.Fa} {fn : List He.DefD} {ts : List He.Tab} {tf : List Lm} {cs : List CloD} {ex : PySem.W.Frag → Bool} {g : Addr → Option Obj} {s : Shared} (h : ∀ a, g a = s.heap.get? a) : obsL n fa fn ts tf cs ex g = (hookL n fa fn ts tf cs ex).obs s := by
  have e : g = s.heap.get? := funext h
  rw [e] <;> rfl
/-- what LawQ asks of the tables -/
theorem SaysL.cs {fa : List He.Fa} {fn : List He.DefD} {ts : List He.Tab} {tf : List Lm} {cs : List CloD} {ex : PySem.W.Frag → Bool} {w : World} {h : Heap} {K : PySem.W.Frag} (S : SaysL fa fn ts tf cs ex w h K) (X : K.In h) :
    (∀ p ∈ tf.map (fun p => He.cT K p.1), h.get? p.2 = some { cls := .none, data := .fields #[] }) ∧ (∀ p ∈ tf.map (fun p => He.cT K p.1), K.lookup p.2 = none) ∧ (∀ p ∈ tf.map (fun p => He.cT K p.1), PySem.W.CodeHd h p.1 p.2) ∧ (∀ p ∈ TK K, ∃ q ∈ tf.map (fun p => He.cT K p.1), q.2 = p.1) := by
  refine ⟨fun p hp => ?_, fun p hp => ?_, fun p hp => ?_, fun p hp => ?_⟩
  · obtain ⟨q, hq, rfl⟩ := List.mem_map.mp hp
    exact S.empty q hq
  · obtain ⟨q, hq, rfl⟩ := List.mem_map.mp hp
    exact S.out q hq
  · obtain ⟨q, hq, rfl⟩ := List.mem_map.mp hp
    exact PySem.W.codeHd_of_K X (S.hd q hq)
  · obtain ⟨q, hq, e⟩ := List.mem_map.mp (S.tk p hp)
    exact ⟨_, List.mem_map.mpr ⟨q, hq, rfl⟩, by rw [← e]⟩
/-- of the def p of tf: its code object, its table -/
theorem SaysL.lam {fa : List He.Fa} {fn : List He.DefD} {ts : List He.Tab} {tf : List Lm} {cs : List CloD} {ex : PySem.W.Frag → Bool} {w : World} {h : Heap} {K : PySem.W.Frag} (S : SaysL fa fn ts tf cs ex w h K) {p : Lm} (hp : p ∈ tf) :
    ((He.cT K p.1).2, p.2) ∈ TK K ∧ (∀ q ∈ TK K, q.1 = (He.cT K p.1).2 → q.2 = p.2) ∧ He.cT K p.1 ∈ tf.map (fun p => He.cT K p.1) := by
  have h1 : ((He.cT K p.1).2, p.2) ∈ lmT K tf := List.mem_map.mpr ⟨p, hp, rfl⟩
  exact ⟨S.tk2 _ h1, fun q hq e => S.one q (S.tk q hq) _ h1 e, List.mem_map.mpr ⟨p, hp, rfl⟩⟩
/-- a def's code object -/
theorem funD_code {K : PySem.W.Frag} {x qual : Str} {params : Arguments} {body : List Stmt} {scope : Scope} {dvs : List V} {kws : List (Str × V)} {p : Str × Option Str} {fd : FuncData} (F : L2.FunD K x qual params body scope dvs kws (He.fAd K p) fd) : fd.code = .ref (He.codeOf K p) := by
  obtain ⟨oc, od, dV, kV, doc, pm, an, cdv, ct, osl, rfl, lk, hcd, _, _⟩ := F.ex
  obtain ⟨c, rfl⟩ := He.codeIn_ref hcd
  exact congrArg Value.ref (He.codeOf_eq lk rfl).symm
/-- a def without defaults -/
theorem funD_fun {K : PySem.W.Frag} {x qual : Str} {st : Stmt} {f : Addr} {fd : FuncData} (F : L2.FunD K x qual (defArgs st) (defBody st) (defScope st) [] [] f fd) : L2.Fun K x qual st f fd := by
  obtain ⟨oc, od, dV, kV, doc, pm, an, cdv, ct, osl, e, lk, hcd, hD, _⟩ := F.ex
  rcases hD with ⟨_, rfl⟩ | ⟨n, _⟩
  · exact ⟨⟨oc, od, kV, doc, pm, an, cdv, ct, osl, e, lk, hcd⟩, F.kp⟩
  · exact absurd rfl n
end RL
set_option Elab.async false
set_option linter.all false
set_option maxRecDepth 100000
set_option maxHeartbeats 4000000
/-! K65a: deeds and tangles. -/
namespace K65
open PySem PySem.Spec PyProof.Rows L2 RL
def topS (i : Nat) : Stmt := PySem.Challenge.pw_ropesays_k65_images_and_closed_tangles.main.body.getD i (.Pass ⟨0, 0, 0, 0⟩)
abbrev TG (K : PySem.W.Frag) : Addr := He.ga K "Tangle"
def words : List Str := ["over", "under", "join", "open", "turn"]
def wordsD : List D := words.map D.str
theorem d_words {x : Str} {P : D → Prop} : oIn false (.str x) (.tup wordsD) P = P (.bl (words.contains x)) := d_inS
/-- what isinstance and except say of the two kinds that are kept -/
def catM (K : PySem.W.Frag) (C : Addr) : Option Bool := if C = He.ga K "TooMany" then some true else if C = He.ga K "Misfit" then some false else none
def catF (K : PySem.W.Frag) (C : Addr) : Option Bool := if C = He.ga K "Misfit" then some true else none
def catR (K : PySem.W.Frag) (C : Addr) : Option Bool := if C = He.ga K "TooMany" then some true else if C = He.ga K "Misfit" then some true else none
/-- what the walk asks of the module -/
structure Txt (K : PySem.W.Frag) (mg : Str → Option Value) : Prop where
  isinstance : mg "isinstance" = none
  int : mg "int" = none
  bool : mg "bool" = none
  str : mg "str" = none
  list : mg "list" = none
  tuple : mg "tuple" = none
  len : mg "len" = none
  all : mg "all" = none
  max : mg "max" = none
  zip : mg "zip" = none
  abs : mg "abs" = none
  repr : mg "repr" = none
  range : mg "range" = none
  c_MOST_RING : Cst K mg "MOST_RING" (.int 24) (.int 24)
  c_MOST_RIM : Cst K mg "MOST_RIM" (.int 16) (.int 16)
  c_MOST_DEEDS : Cst K mg "MOST_DEEDS" (.int 4000) (.int 4000)
  c_JOIN : Cst K mg "JOIN" (.str "join") (.str "join")
  c_OPEN : Cst K mg "OPEN" (.str "open") (.str "open")
  c_TURN : Cst K mg "TURN" (.str "turn") (.str "turn")
  c_OVER : Cst K mg "OVER" (.str "over") (.str "over")
  c_WORDS : Cst K mg "WORDS" (.ref (He.ga K "WORDS")) (.tup wordsD)
  m_Tangle : mg "Tangle" = some (.ref (TG K))
  own_Tangle : OwnC K (TG K)
  f_ends : FldOk K "ends" (TG K)
  f_deeds : FldOk K "deeds" (TG K)
  m_RopeError : mg "RopeError" = some (.ref (He.ga K "RopeError"))
  m_TooMany : mg "TooMany" = some (.ref (He.ga K "TooMany"))
  m_Misfit : mg "Misfit" = some (.ref (He.ga K "Misfit"))
  isE_TooMany : ∀ d b, isExc (catM K) d = some b → IsiE K (.ref (He.ga K "TooMany")) d b
  isE_Misfit : ∀ d b, isExc (catF K) d = some b → IsiE K (.ref (He.ga K "Misfit")) d b
  ex_Rope : ∀ C b, catR K C = some b → PySem.W.exmOne K (.ref C) (.ref (He.ga K "RopeError")) = some b
  ne_kinds : (He.ga K "Misfit" = He.ga K "TooMany") = False
  x_what : XfOk K "what" (He.ga K "TooMany")
  x_most : XfOk K "most" (He.ga K "TooMany")
  x_part : XfOk K "part" (He.ga K "Misfit")
theorem d_sqL {l : List D} : (D.lst l).seq = some l := rfl
theorem d_sqT {l : List D} : (D.tup l).seq = some l := rfl
theorem n_ends_deeds : ((Str.ofString "ends" = Str.ofString "deeds") = False) := eq_false (by decide)
theorem n_deeds_ends : ((Str.ofString "deeds" = Str.ofString "ends") = False) := eq_false (by decide)
theorem b_deeds_ends : (Str.ofString "deeds" == Str.ofString "ends") = false := by decide
theorem b_deeds_deeds : (Str.ofString "deeds" == Str.ofString "deeds") = true := by decide
theorem b_ends_ends : (Str.ofString "ends" == Str.ofString "ends") = true := by decide
theorem n_over_under : ((Str.ofString "over" = Str.ofString "under") = False) := eq_false (by decide)
theorem n_over_join : ((Str.ofString "over" = Str.ofString "join") = False) := eq_false (by decide)
theorem n_over_open : ((Str.ofString "over" = Str.ofString "open") = False) := eq_false (by decide)
theorem n_over_turn : ((Str.ofString "over" = Str.ofString "turn") = False) := eq_false (by decide)
theorem n_under_over : ((Str.ofString "under" = Str.ofString "over") = False) := eq_false (by decide)
theorem n_under_join : ((Str.ofString "under" = Str.ofString "join") = False) := eq_false (by decide)
theorem n_under_open : ((Str.ofString "under" = Str.ofString "open") = False) := eq_false (by decide)
theorem n_under_turn : ((Str.ofString "under" = Str.ofString "turn") = False) := eq_false (by decide)
theorem n_join_over : ((Str.ofString "join" = Str.ofString "over") = False) := eq_false (by decide)
theorem n_join_under : ((Str.ofString "join" = Str.ofString "under") = False) := eq_false (by decide)
theorem n_join_open : ((Str.ofString "join" = Str.ofString "open") = False) := eq_false (by decide)
theorem n_join_turn : ((Str.ofString "join" = Str.ofString "turn") = False) := eq_false (by decide)
theorem n_open_over : ((Str.ofString "open" = Str.ofString "over") = False) := eq_false (by decide)
theorem n_open_under : ((Str.ofString "open" = Str.ofString "under") = False) := eq_false (by decide)
theorem n_open_join : ((Str.ofString "open" = Str.ofString "join") = False) := eq_false (by decide)
theorem n_open_turn : ((Str.ofString "open" = Str.ofString "turn") = False) := eq_false (by decide)
theorem n_turn_over : ((Str.ofString "turn" = Str.ofString "over") = False) := eq_false (by decide)
theorem n_turn_under : ((Str.ofString "turn" = Str.ofString "under") = False) := eq_false (by decide)
theorem n_turn_join : ((Str.ofString "turn" = Str.ofString "join") = False) := eq_false (by decide)
theorem n_turn_open : ((Str.ofString "turn" = Str.ofString "open") = False) := eq_false (by decide)
abbrev Deed := Str × Int
def dd (x : Deed) : D := .tup [.str x.1, .int x.2]
def tg (K : PySem.W.Frag) (e : Int) (ds : List Deed) : D := .obj (TG K) [("ends", .int e), ("deeds", .tup (ds.map dd))]
section
variable {P : Program} {w : World} {K : PySem.W.Frag} {mg : Str → Option Value} {base : Heap}
local macro_rules | `(tactic| walk_at "dl") => `(tactic| try simp only [sSeq2, sIf, dB, mOp, mVar, mC, sRet, sRetN, mIf, mChain, sNil, mCB, aCons, aNil, startD, bodyEnds, dNot, dAnd, dOr, mAnd, mOr, mNot, mIsi, dTru, mCall, sRaise, mFld, sExpr, sSet, mTup, mLenN, mIxN, mF, fLst, fComp, dYes, restD, origD, wipeD, List.nil_append, sSetF, sAsg, gN, gSeq, gsCons, gsNil, sFor, sSeq, sFldD, RL.known, mup_same, mup_mup, putD, sParL, sItem, sPar, sPar3, fRev, d_sqL, d_sqT,
    d_asB, d_asI, d_asO, d_b2, d_i2, d_sub, d_add, d_addL, d_mul, d_mulL, d_eqI, d_eqS, d_neI, d_neS, d_eqT, d_eqL, d_neT, d_neL, d_neNT, d_neNN, d_neTN, d_lenL, d_lenT, d_lenR, d_ixL, d_ixT, d_ixR, d_int, d_intB, d_i1, d_i2a, d_tupL, d_tupR, d_tupT, d_neg, d_bls, d_truN, d_truB, d_truI, d_truL, d_truT, d_itL, d_itT, d_itR, d_isNN, d_isNI, d_isNS, d_isNT, d_isNE,
    n_ends_deeds, n_deeds_ends, n_over_under, n_over_join, n_over_open, n_over_turn, n_under_over, n_under_join, n_under_open, n_under_turn, n_join_over, n_join_under, n_join_open, n_join_turn, n_open_over, n_open_under, n_open_join, n_open_turn, n_turn_over, n_turn_under, n_turn_join, n_turn_open, d_isInt_int, d_isInt_bl, d_isInt_non, d_isInt_str, d_isInt_lst, d_isInt_rol, d_isInt_tup, d_isBool_int, d_isBool_bl, d_isBool_non, d_isBool_str, d_isBool_lst, d_isBool_rol, d_isBool_tup, d_isStr_int, d_isStr_bl, d_isStr_non, d_isStr_str, d_isStr_lst, d_isStr_rol, d_isStr_tup, d_isSeq_int, d_isSeq_bl, d_isSeq_non, d_isSeq_str, d_isSeq_lst, d_isSeq_rol, d_isSeq_tup, d_at0, d_at1, d_at2, d_words, reduceCtorEq, if_true, if_false, Bool.not_true, Bool.not_false, Bool.false_eq_true, and_true, true_and, decide_true, decide_false, List.length_singleton,
    List.map_cons, List.map_nil, List.length_cons, List.length_nil, List.replicate, List.append_nil, List.nil_append, List.cons_append, List.getElem?_cons_zero, List.getElem?_cons_succ, Nat.sub_self, List.set_cons_zero, List.set_cons_succ, Nat.add_sub_cancel, Nat.zero_add, Nat.reduceAdd, Nat.reduceSub])
abbrev s_is_integer : Stmt := topS 8
theorem sc_is_integer : FnScope ["value"] ["value"] (defScope s_is_integer) := ⟨rfl, rfl, rfl, by decide +kernel, rfl, by decide +kernel, by decide +kernel⟩
def sp_is_integer : Fsp
  | [.int _], m, P, _ => P (.bl true) m
  | _, _, _, _ => False
def Q_is_integer (P : Program) (w : World) (K : PySem.W.Frag) (mg : Str → Option Value) (base : Heap) : Prop := Ok P w K mg base 1 "is_integer" [] sp_is_integer
theorem ok_is_integer {f : Addr} {fd : FuncData} (F : L2.Fun K "is_integer" "is_integer" s_is_integer f fd) (T : Txt K mg)  : FnQ P w K mg base (L2.CX P w) 1 f fd ["value"] (spD K sp_is_integer) := by
  refine okD F sc_is_integer (fun ds m P EX h => by unfold sp_is_integer at h; split at h <;> first | rfl | exact h.elim) fun cdv A outer s H E hr gd tk po => ⟨_, _,
    (dss_one (ds_ret (de_and (de_isiT (fun _ _ h => isInt_ok h) T.isinstance T.int (de_var 0) (by decide +kernel)) (de_one (de_not (de_isiT (fun _ _ h => isBool_ok h) T.isinstance T.bool (de_var 0) (by decide +kernel))))))), fun ds m P EX h => ?_⟩
  unfold sp_is_integer at h
  split at h
  · walk_at "dl"
    simpa using h
  · exact h.elim
abbrev s_is_within : Stmt := topS 9
theorem sc_is_within : FnScope ["value", "least", "most"] ["value", "least", "most"] (defScope s_is_within) := ⟨rfl, rfl, rfl, by decide +kernel, rfl, by decide +kernel, by decide +kernel⟩
def sp_is_within : Fsp
  | [.int i, .int a, .int b], m, P, _ => P (.bl (decide (a ≤ i) && decide (i ≤ b))) m
  | _, _, _, _ => False
def Q_is_within (P : Program) (w : World) (K : PySem.W.Frag) (mg : Str → Option Value) (base : Heap) : Prop := Ok P w K mg base 2 "is_within" [] sp_is_within
theorem ok_is_within {f : Addr} {fd : FuncData} (F : L2.Fun K "is_within" "is_within" s_is_within f fd) (T : Txt K mg) (G_is_integer : Q_is_integer P w K mg base) : FnQ P w K mg base (L2.CX P w) 2 f fd ["value", "least", "most"] (spD K sp_is_within) := by
  refine okD F sc_is_within (fun ds m P EX h => by unfold sp_is_within at h; split at h <;> first | rfl | exact h.elim) fun cdv A outer s H E hr gd tk po => ⟨_, _,
    (dss_cons (ds_if (dt_not (dt_val (de_call G_is_integer (hr.mono (j := 1) (by decide)) gd tk (fun _ => .nil) (da_cons (de_var 0) da_nil)))) (dss_one (ds_ret de_bl)) dss_nil)
      (dss_one (ds_ret (de_and (de_or (de_cmp op_isN ol_isN (de_var 1) de_non) (de_one (de_cmp op_le ol_b2 (de_var 1) (de_var 0)))) (de_one (de_or (de_cmp op_isN ol_isN (de_var 2) de_non) (de_one (de_cmp op_le ol_b2 (de_var 0) (de_var 2))))))))), fun ds m P EX h => ?_⟩
  unfold sp_is_within at h
  split at h
  · rename_i i a b
    walk_at "dl"
    simp only [sp_is_integer]
    walk_at "dl"
    by_cases h1 : a ≤ i
    · by_cases h2 : i ≤ b <;> simpa [h1, h2] using h
    · simpa [h1] using h
  · exact h.elim
def okDeed (x : Deed) : Bool := words.contains x.1 && (decide (0 ≤ x.2) && decide (x.2 ≤ 23))
abbrev s_is_deed : Stmt := topS 26
theorem sc_is_deed : FnScope ["value"] ["value"] (defScope s_is_deed) := ⟨rfl, rfl, rfl, by decide +kernel, rfl, by decide +kernel, by decide +kernel⟩
def sp_is_deed : Fsp
  | [.tup [.str w, .int g]], m, P, _ => P (.bl (okDeed (w, g))) m
  | _, _, _, _ => False
def Q_is_deed (P : Program) (w : World) (K : PySem.W.Frag) (mg : Str → Option Value) (base : Heap) : Prop := Ok P w K mg base 3 "is_deed" [] sp_is_deed
theorem ok_is_deed {f : Addr} {fd : FuncData} (F : L2.Fun K "is_deed" "is_deed" s_is_deed f fd) (T : Txt K mg) (G_is_within : Q_is_within P w K mg base) : FnQ P w K mg base (L2.CX P w) 3 f fd ["value"] (spD K sp_is_deed) := by
  refine okD F sc_is_deed (fun ds m P EX h => by unfold sp_is_deed at h; split at h <;> first | rfl | exact h.elim) fun cdv A outer s H E hr gd tk po => ⟨_, _,
    (dss_cons (ds_if (dt_w (dw_or (dt_not (dt_val (de_isiSeq T.isinstance T.list T.tuple (de_var 0)))) (dw_or (dt_cmp (opr_ne hr.units) ol_ne (de_lenN 0 T.len) de_int) (dw_or1 (dt_not (dt_val (de_isiT (fun _ _ h => isStr_ok h) T.isinstance T.str (de_ixN 0 de_int) (by decide +kernel)))))))) (dss_one (ds_ret de_bl)) dss_nil)
      (dss_one (ds_ret (de_and (de_cmp opr_in ol_in (de_ixN 0 de_int) (de_glob T.c_WORDS)) (de_one (de_call G_is_within (hr.mono (j := 2) (by decide)) gd tk (fun _ => .nil) (da_cons (de_ixN 0 de_int) (da_cons de_int (da_cons (de_op op_sub ol_sub (de_glob T.c_MOST_RING) de_int) da_nil))))))))), fun ds m P EX h => ?_⟩
  unfold sp_is_deed at h
  split at h
  · rename_i wd g
    walk_at "dl"
    cases h1 : words.contains wd with
    | true =>
      rw [if_neg (by decide), if_pos rfl]
      simp only [okDeed, h1, Bool.true_and] at h
      exact h
    | false =>
      rw [if_neg (by decide), if_neg (by decide)]
      simp only [okDeed, h1, Bool.false_and] at h
      exact h
  · exact h.elim
def fits (e : Int) (w : Str) (g : Int) : Bool := if w = "join" then (if e = 2 then decide (g = 1) else decide (1 ≤ g) && decide (g ≤ e - 2)) else decide (g < (if w = "open" then (if e > 1 then e else 1) else e))
def then_ (e : Int) (w : Str) : Int := if w = "join" then e - 2 else if w = "open" then e + 2 else e
abbrev s_fits : Stmt := topS 27
theorem sc_fits : FnScope ["ends", "word", "gap"] ["ends", "word", "gap"] (defScope s_fits) := ⟨rfl, rfl, rfl, by decide +kernel, rfl, by decide +kernel, by decide +kernel⟩
def sp_fits : Fsp
  | [.int e, .str w, .int g], m, P, _ => P (.bl (fits e w g)) m
  | _, _, _, _ => False
def Q_fits (P : Program) (w : World) (K : PySem.W.Frag) (mg : Str → Option Value) (base : Heap) : Prop := Ok P w K mg base 1 "fits" [] sp_fits
theorem ok_fits {f : Addr} {fd : FuncData} (F : L2.Fun K "fits" "fits" s_fits f fd) (T : Txt K mg)  : FnQ P w K mg base (L2.CX P w) 1 f fd ["ends", "word", "gap"] (spD K sp_fits) := by
  refine okD F sc_fits (fun ds m P EX h => by unfold sp_fits at h; split at h <;> first | rfl | exact h.elim) fun cdv A outer s H E hr gd tk po => ⟨_, _,
    (dss_cons (ds_if (dt_cmp (opr_eq hr.units) ol_eq (de_var 1) (de_glob T.c_JOIN)) (dss_one (ds_ret (de_if (dt_cmp (opr_eq hr.units) ol_eq (de_var 0) de_int) (de_cmp (opr_eq hr.units) ol_eq (de_var 2) de_int) (de_chain op_le ol_b2 op_le ol_b2 de_int (de_var 2) (de_op op_sub ol_sub (de_var 0) de_int))))) dss_nil)
      (dss_one (ds_ret (de_cmp op_lt ol_b2 (de_var 2) (de_if (dt_cmp (opr_eq hr.units) ol_eq (de_var 1) (de_glob T.c_OPEN)) (de_max2 T.max (da_cons de_int (da_cons (de_var 0) da_nil))) (de_var 0)))))), fun ds m P EX h => ?_⟩
  unfold sp_fits at h
  split at h
  · rename_i e wd g
    walk_at "dl"
    unfold K65.fits at h
    by_cases h1 : wd = "join"
    · by_cases h2 : e = 2
      · simpa [h1, h2] using h
      · by_cases h3 : 1 ≤ g <;> simpa [h1, h2, h3] using h
    · by_cases h2 : wd = "open" <;> simpa [h1, h2, n_open_join] using h
  · exact h.elim
abbrev s_ends_then : Stmt := topS 28
theorem sc_ends_then : FnScope ["ends", "word"] ["ends", "word"] (defScope s_ends_then) := ⟨rfl, rfl, rfl, by decide +kernel, rfl, by decide +kernel, by decide +kernel⟩
def sp_ends_then : Fsp
  | [.int e, .str w], m, P, _ => P (.int (then_ e w)) m
  | _, _, _, _ => False
def Q_ends_then (P : Program) (w : World) (K : PySem.W.Frag) (mg : Str → Option Value) (base : Heap) : Prop := Ok P w K mg base 1 "ends_then" [] sp_ends_then
theorem ok_ends_then {f : Addr} {fd : FuncData} (F : L2.Fun K "ends_then" "ends_then" s_ends_then f fd) (T : Txt K mg)  : FnQ P w K mg base (L2.CX P w) 1 f fd ["ends", "word"] (spD K sp_ends_then) := by
  refine okD F sc_ends_then (fun ds m P EX h => by unfold sp_ends_then at h; split at h <;> first | rfl | exact h.elim) fun cdv A outer s H E hr gd tk po => ⟨_, _,
    (dss_cons (ds_if (dt_cmp (opr_eq hr.units) ol_eq (de_var 1) (de_glob T.c_JOIN)) (dss_one (ds_ret (de_op op_sub ol_sub (de_var 0) de_int))) dss_nil)
      (dss_one (ds_ret (de_if (dt_cmp (opr_eq hr.units) ol_eq (de_var 1) (de_glob T.c_OPEN)) (de_op opr_add ol_add (de_var 0) de_int) (de_var 0))))), fun ds m P EX h => ?_⟩
  unfold sp_ends_then at h
  split at h
  · rename_i e wd
    walk_at "dl"
    unfold then_ at h
    by_cases h1 : wd = "join"
    · simpa [h1] using h
    · by_cases h2 : wd = "open" <;> simpa [h1, h2, n_open_join] using h
  · exact h.elim
/-- what of a list of deeds is known: each can be one, they are not too many -/
def toldOk (ds : List Deed) : Prop := ds.length ≤ 4000 ∧ ∀ x ∈ ds, okDeed x = true
def Q_BadTangle (P : Program) (w : World) (K : PySem.W.Frag) (mg : Str → Option Value) (base : Heap) : Prop := ExK P w K mg base 1 "BadTangle" (He.ga K "BadTangle") ["part"]
def Q_Misfit (P : Program) (w : World) (K : PySem.W.Frag) (mg : Str → Option Value) (base : Heap) : Prop := ExK P w K mg base 1 "Misfit" (He.ga K "Misfit") ["part"]
def Q_TooMany (P : Program) (w : World) (K : PySem.W.Frag) (mg : Str → Option Value) (base : Heap) : Prop := ExK P w K mg base 1 "TooMany" (He.ga K "TooMany") ["what", "most"]
abbrev s_told_deeds : Stmt := topS 29
theorem sc_told_deeds : FnScope ["value", "deed", "word", "gap"] ["value"] (defScope s_told_deeds) := ⟨rfl, rfl, rfl, by decide +kernel, rfl, by decide +kernel, by decide +kernel⟩
def sp_told_deeds : Fsp
  | [.lst l], m, P, _ => ∃ ds, l = List.map dd ds ∧ toldOk ds ∧ P (.tup (ds.map dd)) m
  | _, _, _, _ => False
def Q_told_deeds (P : Program) (w : World) (K : PySem.W.Frag) (mg : Str → Option Value) (base : Heap) : Prop := Ok P w K mg base 5 "told_deeds" [] sp_told_deeds
theorem ok_told_deeds {f : Addr} {fd : FuncData} (F : L2.Fun K "told_deeds" "told_deeds" s_told_deeds f fd) (T : Txt K mg) (G_is_deed : Q_is_deed P w K mg base) (X_BadTangle : Q_BadTangle P w K mg base) : FnQ P w K mg base (L2.CX P w) 5 f fd ["value"] (spD K sp_told_deeds) := by
  refine okD F sc_told_deeds (fun ds m P EX h => by unfold sp_told_deeds at h; split at h <;> first | rfl | exact h.elim) fun cdv A outer s H E hr gd tk po => ⟨_, _,
    (dss_cons (ds_if (dt_w (dw_or (dt_not (dt_val (de_isiSeq T.isinstance T.list T.tuple (de_var 0)))) (dw_or (dt_cmp op_gt ol_b2 (de_lenN 0 T.len) (de_glob T.c_MOST_DEEDS)) (dw_or1 (dt_not (dt_val (de_all T.all (da_cons (de_f (df_compO [("deed", 1)] (di_seq (de_var 0)) (blk_ok (N := ["value", "deed", "word", "gap"]) (sc := defScope s_told_deeds) rfl rfl (by decide +kernel)) (dg_name 1 sc_told_deeds.nd) dp_nil (de_call G_is_deed (hr.mono (j := 3) (by decide)) gd LamX.takes0 (fun _ => .nil) (da_cons (de_var 1) da_nil)) (fun _ _ _ _ _ => (dg_name 1 sc_told_deeds.nd)) (fun _ _ _ _ _ => dp_nil) (fun _ _ _ _ _ => (de_call G_is_deed (hr.mono (j := 3) (by decide)) gd LamX.takes0 (fun _ => .nil) (da_cons (de_var 1) da_nil))) sc_told_deeds.nd)) da_nil)))))))) (dss_one (ds_raise X_BadTangle (hr.mono (by decide)) tk (da_cons de_str da_nil))) dss_nil)
      (dss_one (ds_ret (de_tuple T.tuple (da_cons (de_f (df_compO [("word", 2), ("gap", 3)] (di_seq (de_var 0)) (blk_ok (N := ["value", "deed", "word", "gap"]) (sc := defScope s_told_deeds) rfl rfl (by decide +kernel)) (dg_tup (n := 2) (dgs_cons (dg_name 2 sc_told_deeds.nd) (dgs_cons (dg_name 3 sc_told_deeds.nd) dgs_nil))) dp_nil (de_tup (da_cons (de_var 2) (da_cons (de_var 3) da_nil))) (fun _ _ _ _ _ => (dg_tup (n := 2) (dgs_cons (dg_name 2 sc_told_deeds.nd) (dgs_cons (dg_name 3 sc_told_deeds.nd) dgs_nil)))) (fun _ _ _ _ _ => dp_nil) (fun _ _ _ _ _ => (de_tup (da_cons (de_var 2) (da_cons (de_var 3) da_nil)))) sc_told_deeds.nd)) da_nil))))), fun ds m P EX h => ?_⟩
  unfold sp_told_deeds at h
  split at h
  · obtain ⟨ds, rfl, hok, h⟩ := h
    have hz : (4000 : Nat) ≤ sizeLine := by decide
    have hl := hok.1
    walk_at "dl"
    rw [if_neg (by simp only [List.length_map, decide_eq_true_eq]; omega)]
    refine comp_map (enc := dd) (out := fun x => .bl (okDeed x)) rfl (fun x hx R S hR => ?_) (by simp only [List.length_nil]; omega) ?_
    · walk_at "dl"
      simp only [dd, sp_is_deed]
      exact hR _ rfl
    · have e1 : ds.map (fun x => D.bl (okDeed x)) = (ds.map okDeed).map D.bl := by rw [List.map_map]; rfl
      have e2 : (ds.map okDeed).all id = true := by
        rw [List.all_eq_true]
        intro b hb
        obtain ⟨x, hx, rfl⟩ := List.mem_map.mp hb
        exact hok.2 x hx
      walk_at "dl"
      rw [e1, bls_map]
      walk_at "dl"
      rw [e2, if_neg (by decide)]
      refine comp_map (enc := dd) (out := dd) rfl (fun x hx R S hR => ?_) (by simp only [List.length_nil]; omega) ?_
      · walk_at "dl"
        simp only [dd]
        walk_at "dl"
        exact ⟨by decide, hR _ rfl⟩
      · walk_at "dl"
        exact h
  · exact h.elim
/-- the ends behind deeds that fit, no ring too great -/
def run : Int → List Deed → Option Int
  | e, [] => some e
  | e, x :: r => if fits e x.1 x.2 = true ∧ ¬ (x.1 = "open" ∧ e = 24) then run (then_ e x.1) r else none
abbrev s_ends_behind : Stmt := topS 30
theorem sc_ends_behind : FnScope ["ends", "deeds", "word", "gap"] ["ends", "deeds"] (defScope s_ends_behind) := ⟨rfl, rfl, rfl, by decide +kernel, rfl, by decide +kernel, by decide +kernel⟩
def sp_ends_behind : Fsp
  | [.int e, .tup l], m, P, _ => ∃ ds e', l = List.map dd ds ∧ run e ds = some e' ∧ P (.int e') m
  | _, _, _, _ => False
def Q_ends_behind (P : Program) (w : World) (K : PySem.W.Frag) (mg : Str → Option Value) (base : Heap) : Prop := Ok P w K mg base 3 "ends_behind" [] sp_ends_behind
theorem ok_ends_behind {f : Addr} {fd : FuncData} (F : L2.Fun K "ends_behind" "ends_behind" s_ends_behind f fd) (T : Txt K mg) (G_ends_then : Q_ends_then P w K mg base) (G_fits : Q_fits P w K mg base) (X_Misfit : Q_Misfit P w K mg base) (X_TooMany : Q_TooMany P w K mg base) : FnQ P w K mg base (L2.CX P w) 3 f fd ["ends", "deeds"] (spD K sp_ends_behind) := by
  refine okD F sc_ends_behind (fun ds m P EX h => by unfold sp_ends_behind at h; split at h <;> first | rfl | exact h.elim) fun cdv A outer s H E hr gd tk po => ⟨_, _,
    (dss_cons (ds_for (di_seq (de_var 1)) (dg_tup (n := 2) (dgs_cons (dg_name 2 sc_ends_behind.nd) (dgs_cons (dg_name 3 sc_ends_behind.nd) dgs_nil))) (dss_cons (ds_if (dt_not (dt_val (de_call G_fits (hr.mono (j := 1) (by decide)) gd tk (fun _ => .nil) (da_cons (de_var 0) (da_cons (de_var 2) (da_cons (de_var 3) da_nil)))))) (dss_one (ds_raise X_Misfit (hr.mono (by decide)) tk (da_cons de_str da_nil))) dss_nil)
      (dss_cons (ds_if (dt_w (dw_and (dt_cmp (opr_eq hr.units) ol_eq (de_var 2) (de_glob T.c_OPEN)) (dw_and1 (dt_cmp (opr_eq hr.units) ol_eq (de_var 0) (de_glob T.c_MOST_RING))))) (dss_one (ds_raise X_TooMany (hr.mono (by decide)) tk (da_cons de_str (da_cons (de_glob T.c_MOST_RING) da_nil)))) dss_nil)
      (dss_one (ds_set 0 sc_ends_behind.nd (de_call G_ends_then (hr.mono (j := 1) (by decide)) gd tk (fun _ => .nil) (da_cons (de_var 0) (da_cons (de_var 2) da_nil))))))) po)
      (dss_one (ds_ret (de_var 0)))), fun ds m P EX h => ?_⟩
  unfold sp_ends_behind at h
  split at h
  · obtain ⟨ds, e', rfl, hr1, h⟩ := h
    rename_i e0 _ 
    walk_at "dl"
    refine for_map (enc := dd) (fun xs δ => ∃ e s2 s3, run e xs = some e' ∧ δ = ⟨[.im (.int e), .im (.tup (ds.map dd)), s2, s3], m⟩) (fun x xs δ N hI hN => ?_) (fun δ hI => ?_) ⟨_, _, _, hr1, rfl⟩
    · obtain ⟨e, s2, s3, h1, rfl⟩ := hI
      unfold run at h1
      split at h1
      · rename_i hc
        obtain ⟨c1, c2⟩ := hc
        walk_at "dl"
        simp only [dd]
        walk_at "dl"
        simp only [sp_fits]
        walk_at "dl"
        rw [c1, if_neg (by decide)]
        have key : sp_ends_then ([.int e, .str x.1] ++ []) m (fun d m' => N ⟨[.im d, .im (.tup (ds.map dd)), .im (.str x.1), .im (.int x.2)], m'⟩) fun er m' => EX er m' := hN _ ⟨_, _, _, h1, rfl⟩
        by_cases h2 : x.1 = "open"
        · have h3 : ¬ e = 24 := fun z => c2 ⟨h2, z⟩
          simpa [h2, h3] using key
        · simpa [h2] using key
      · cases h1
    · obtain ⟨e, s2, s3, h1, rfl⟩ := hI
      cases h1
      walk_at "dl"
      exact h
  · exact h.elim
abbrev s_Tangle_init : Stmt := inClass (topS 34) 0
theorem sc_Tangle_init : FnScope ["self", "ends", "deeds"] ["self", "ends", "deeds"] (defScope s_Tangle_init) := ⟨rfl, rfl, rfl, by decide +kernel, rfl, by decide +kernel, by decide +kernel⟩
/-- ends and deeds that make a tangle -/
def good (e : Int) (ds : List Deed) : Prop := toldOk ds ∧ 0 ≤ e ∧ e ≤ 16 ∧ e % 2 = 0 ∧ run e ds = some 0
def sp_Tangle_init (K : PySem.W.Frag) : Fsp
  | [.ptr x, .int e, .lst l], m, P, _ => ∃ ds, l = List.map dd ds ∧ good e ds ∧ m x = some (.ob (TG K) []) ∧ P .non (mup m x (.ob (TG K) [("ends", .int e), ("deeds", .tup (ds.map dd))]))
  | _, _, _, _ => False
def Q_Tangle (P : Program) (w : World) (K : PySem.W.Frag) (mg : Str → Option Value) (base : Heap) : Prop := OkC P w K mg base 6 "Tangle" (TG K) [] (sp_Tangle_init K)
theorem ok_Tangle_init {f : Addr} {fd : FuncData} (F : L2.Fun K "__init__" "Tangle.__init__" s_Tangle_init f fd) (T : Txt K mg) (G_ends_behind : Q_ends_behind P w K mg base) (G_is_within : Q_is_within P w K mg base) (G_told_deeds : Q_told_deeds P w K mg base) (X_BadTangle : Q_BadTangle P w K mg base) (X_Misfit : Q_Misfit P w K mg base) : FnQ P w K mg base (L2.CX P w) 6 f fd ["self", "ends", "deeds"] (spD K (sp_Tangle_init K)) := by
  refine okD F sc_Tangle_init (fun ds m P EX h => by unfold sp_Tangle_init at h; split at h <;> first | rfl | exact h.elim) fun cdv A outer s H E hr gd tk po => ⟨_, _,
    (dss_cons (ds_if (dt_w (dw_or (dt_not (dt_val (de_call G_is_within (hr.mono (j := 2) (by decide)) gd tk (fun _ => .nil) (da_cons (de_var 1) (da_cons de_int (da_cons (de_glob T.c_MOST_RIM) da_nil)))))) (dw_or1 (dt_cmp (opr_eq hr.units) ol_eq (de_op op_mod ol_mod (de_var 1) de_int) de_int)))) (dss_one (ds_raise X_BadTangle (hr.mono (by decide)) tk (da_cons de_str da_nil))) dss_nil)
      (dss_cons (ds_fld (de_var 0) (de_var 1))
      (dss_cons (ds_fld (de_var 0) (de_call G_told_deeds (hr.mono (j := 5) (by decide)) gd tk (fun _ => .nil) (da_cons (de_var 2) da_nil)))
      (dss_one (ds_if (dt_cmp op_gt ol_b2 (de_call G_ends_behind (hr.mono (j := 3) (by decide)) gd tk (fun _ => .nil) (da_cons (de_var 1) (da_cons (de_fld (de_var 0)) da_nil))) de_int) (dss_one (ds_raise X_Misfit (hr.mono (by decide)) tk (da_cons de_str da_nil))) dss_nil))))), fun ds m P EX h => ?_⟩
  unfold sp_Tangle_init at h
  split at h
  · rename_i x e l
    obtain ⟨ds, rfl, ⟨ht, e1, e2, e3, hr1⟩, hm, h⟩ := h
    walk_at "dl"
    simp only [sp_is_within]
    walk_at "dl"
    rw [if_neg (by simp [e1, e2])]
    refine ⟨by decide, ?_⟩
    rw [if_neg (by simp [e3])]
    simp only [hm]
    refine ⟨T.f_ends, by decide, ?_⟩
    simp only [sp_told_deeds]
    refine ⟨ds, rfl, ht, ?_⟩
    walk_at "dl"
    refine ⟨T.f_deeds, by decide, T.f_deeds, ?_⟩
    simp only [List.lookup, b_deeds_ends, b_deeds_deeds]
    walk_at "dl"
    simp only [sp_ends_behind]
    refine ⟨ds, 0, rfl, hr1, ?_⟩
    walk_at "dl"
    rw [if_neg (by decide)]
    exact h
  · exact h.elim
theorem ok_word {x : Str} (h : words.contains x = true) : PyData.strOk x = true := by
  have h1 : words.all (fun y => PyData.strOk y) = true := by decide +kernel
  exact List.all_eq_true.mp h1 x (List.contains_iff_mem.mp h)
theorem dd_lay {x : Deed} (h : okDeed x = true) : (dd x).dat = true ∧ (dd x).py.canLay0 = true ∧ (dd x).py.depth ≤ 1 := by
  have h1 : words.contains x.1 = true := (Bool.and_eq_true_iff.mp h).1
  refine ⟨rfl, ?_, Nat.le_refl _⟩
  show (PyData.strOk x.1 && (true && true)) = true
  rw [ok_word h1]
  rfl
theorem dds_lay : ∀ {ds : List Deed}, (∀ x ∈ ds, okDeed x = true) → datAll (ds.map dd) = true ∧ PyData.canLayAll0 (pyAll (ds.map dd)) = true ∧ PyData.depthAll (pyAll (ds.map dd)) ≤ 1
  | [], _ => ⟨rfl, rfl, Nat.zero_le _⟩
  | x :: xs, h => by
    obtain ⟨a1, a2, a3⟩ := dd_lay (h x List.mem_cons_self)
    obtain ⟨b1, b2, b3⟩ := dds_lay (ds := xs) fun z hz => h z (List.mem_cons_of_mem _ hz)
    refine ⟨?_, ?_, ?_⟩
    · show ((dd x).dat && datAll (xs.map dd)) = true
      rw [a1, b1]; rfl
    · show ((dd x).py.canLay0 && PyData.canLayAll0 (pyAll (xs.map dd))) = true
      rw [a2, b2]; rfl
    · show max (dd x).py.depth (PyData.depthAll (pyAll (xs.map dd))) ≤ 1
      omega
theorem deeds_ok {ds : List Deed} (h : ∀ x ∈ ds, okDeed x = true) : (D.tup (ds.map dd)).ok = true ∧ (D.lst (ds.map dd)).ok = true := by
  obtain ⟨b1, b2, b3⟩ := dds_lay h
  have e : decide (PyData.depthAll (pyAll (ds.map dd)) + 1 ≤ 64) = true := decide_eq_true (by omega)
  constructor
  · show (datAll (ds.map dd) && (PyData.canLayAll0 (pyAll (ds.map dd)) && decide (PyData.depthAll (pyAll (ds.map dd)) + 1 ≤ 64))) = true
    rw [b1, b2, e]; rfl
  · show (datAll (ds.map dd) && (PyData.canLayAll0 (pyAll (ds.map dd)) && decide (PyData.depthAll (pyAll (ds.map dd)) + 1 ≤ 64))) = true
    rw [b1, b2, e]; rfl
theorem eqv_self {d : D} (h : d.ok = true) : d.eqv d = true := SeqAt.eqv_refl d.py (SeqAt.canLay_of_shaped (Bool.and_eq_true_iff.mp h).2)
abbrev s_Tangle_eq : Stmt := inClass (topS 34) 1
theorem sc_Tangle_eq : FnScope ["self", "other"] ["self", "other"] (defScope s_Tangle_eq) := ⟨rfl, rfl, rfl, by decide +kernel, rfl, by decide +kernel, by decide +kernel⟩
def sp_Tangle_eq (K : PySem.W.Frag) : Fsp
  | [.obj C1 f1, .obj C2 f2], m, P, _ => ∃ e ds e' ds', D.obj C1 f1 = tg K e ds ∧ D.obj C2 f2 = tg K e' ds' ∧ (∀ x ∈ ds, okDeed x = true) ∧ (∀ x ∈ ds', okDeed x = true) ∧ P (.bl (decide (e = e') && (D.tup (ds.map dd)).eqv (.tup (ds'.map dd)))) m
  | _, _, _, _ => False
def Q_eq (P : Program) (w : World) (K : PySem.W.Frag) (mg : Str → Option Value) (base : Heap) : Prop := EqK P w K mg base 1 (TG K) (sp_Tangle_eq K)
theorem ok_Tangle_eq {f : Addr} {fd : FuncData} (F : L2.Fun K "__eq__" "Tangle.__eq__" s_Tangle_eq f fd) (T : Txt K mg)  : FnQ P w K mg base (L2.CX P w) 1 f fd ["self", "other"] (spD K (sp_Tangle_eq K)) := by
  refine okD F sc_Tangle_eq (fun ds m P EX h => by unfold sp_Tangle_eq at h; split at h <;> first | rfl | exact h.elim) fun cdv A outer s H E hr gd tk po => ⟨_, _,
    (dss_one (ds_ret (de_and (de_isiC (fun _ _ h => isOwn_ok T.own_Tangle h) T.isinstance T.m_Tangle (de_var 1)) (de_and (de_cmp (opr_eq hr.units) ol_eq (de_fld (de_var 0)) (de_fld (de_var 1))) (de_one (de_cmp (opr_eq hr.units) ol_eq (de_fld (de_var 0)) (de_fld (de_var 1)))))))), fun ds m P EX h => ?_⟩
  unfold sp_Tangle_eq at h
  split at h
  · obtain ⟨e, ds, e', ds', h1, h2, o1, o2, h⟩ := h
    unfold tg at h1 h2
    cases h1
    cases h2
    walk_at "dl"
    simp only [isOwn, if_true, d_asO]
    walk_at "dl"
    simp only [List.lookup, b_ends_ends, b_deeds_ends, b_deeds_deeds]
    walk_at "dl"
    refine ⟨T.f_ends, T.f_ends, ?_⟩
    by_cases h3 : e = e'
    · simp only [h3, decide_true, if_true]
      refine ⟨T.f_deeds, T.f_deeds, (deeds_ok o1).1, (deeds_ok o2).1, ?_⟩
      simpa [h3] using h
    · simpa [h3] using h
  · exact h.elim
abbrev s_need_tangle : Stmt := topS 35
theorem sc_need_tangle : FnScope ["value", "part"] ["value", "part"] (defScope s_need_tangle) := ⟨rfl, rfl, rfl, by decide +kernel, rfl, by decide +kernel, by decide +kernel⟩
def sp_need_tangle (K : PySem.W.Frag) : Fsp
  | [.obj C fs, .str _], m, P, _ => C = TG K ∧ P .non m
  | _, _, _, _ => False
def Q_need_tangle (P : Program) (w : World) (K : PySem.W.Frag) (mg : Str → Option Value) (base : Heap) : Prop := Ok P w K mg base 3 "need_tangle" [] (sp_need_tangle K)
def Q_need_tangle1 (P : Program) (w : World) (K : PySem.W.Frag) (mg : Str → Option Value) (base : Heap) : Prop := Ok P w K mg base 3 "need_tangle" [.str "tangle"] (sp_need_tangle K)
theorem G_need_tangle1d {K : PySem.W.Frag} : ∀ A, DrAll K A [V.str "tangle"] [D.str "tangle"] := fun _ => .cons (.str _) .nil
theorem ok_need_tangle {f : Addr} {fd : FuncData} (F : L2.FunD K "need_tangle" "need_tangle" (defArgs s_need_tangle) (defBody s_need_tangle) (defScope s_need_tangle) [.str "tangle"] [] f fd) (T : Txt K mg) (X_BadTangle : Q_BadTangle P w K mg base) : FnQ P w K mg base (L2.CX P w) 3 f fd ["value", "part"] (spD K (sp_need_tangle K)) := by
  refine okDD F sc_need_tangle (fun ds m P EX h => by unfold sp_need_tangle at h; split at h <;> first | rfl | exact h.elim) fun cdv A outer s H E hr gd tk po => ⟨_, _,
    (dss_one (ds_if (dt_not (dt_val (de_isiC (fun _ _ h => isOwn_ok T.own_Tangle h) T.isinstance T.m_Tangle (de_var 0)))) (dss_one (ds_raise X_BadTangle (hr.mono (by decide)) tk (da_cons (de_var 1) da_nil))) dss_nil)), fun ds m P EX h => ?_⟩
  unfold sp_need_tangle at h
  split at h
  · obtain ⟨rfl, h⟩ := h
    walk_at "dl"
    simp only [isOwn, if_true, d_asO]
    walk_at "dl"
    exact h
  · exact h.elim
def sizes : Int → List Deed → List Int
  | _, [] => []
  | e, x :: r => e :: sizes (then_ e x.1) r
theorem sizes_len : ∀ {ds : List Deed} {e : Int}, (sizes e ds).length = ds.length
  | [], _ => rfl
  | x :: r, e => by show (sizes (then_ e x.1) r).length + 1 = r.length + 1; rw [sizes_len]
abbrev s_ring_sizes : Stmt := topS 38
theorem sc_ring_sizes : FnScope ["ends", "deeds", "found", "word", "_"] ["ends", "deeds"] (defScope s_ring_sizes) := ⟨rfl, rfl, rfl, by decide +kernel, rfl, by decide +kernel, by decide +kernel⟩
def sp_ring_sizes : Fsp
  | [.int e, .tup l], m, P, _ => ∃ ds, l = List.map dd ds ∧ ds.length ≤ 4000 ∧ P (.lst ((sizes e ds).map .int)) m
  | _, _, _, _ => False
def Q_ring_sizes (P : Program) (w : World) (K : PySem.W.Frag) (mg : Str → Option Value) (base : Heap) : Prop := Ok P w K mg base 2 "ring_sizes" [] sp_ring_sizes
theorem ok_ring_sizes {f : Addr} {fd : FuncData} (F : L2.Fun K "ring_sizes" "ring_sizes" s_ring_sizes f fd) (T : Txt K mg) (G_ends_then : Q_ends_then P w K mg base) : FnQ P w K mg base (L2.CX P w) 2 f fd ["ends", "deeds"] (spD K sp_ring_sizes) := by
  refine okD F sc_ring_sizes (fun ds m P EX h => by unfold sp_ring_sizes at h; split at h <;> first | rfl | exact h.elim) fun cdv A outer s H E hr gd tk po => ⟨_, _,
    (dss_cons (ds_setF 2 sc_ring_sizes.nd (df_lst da_nil))
      (dss_cons (ds_for (di_seq (de_var 1)) (dg_tup (n := 2) (dgs_cons (dg_name 3 sc_ring_sizes.nd) (dgs_cons (dg_name 4 sc_ring_sizes.nd) dgs_nil))) (dss_cons (ds_append 2 (de_var 0))
      (dss_one (ds_set 0 sc_ring_sizes.nd (de_call G_ends_then (hr.mono (j := 1) (by decide)) gd tk (fun _ => .nil) (da_cons (de_var 0) (da_cons (de_var 3) da_nil)))))) po)
      (dss_one (ds_ret (de_var 2))))), fun ds m P EX h => ?_⟩
  unfold sp_ring_sizes at h
  split at h
  · rename_i e0 l0
    obtain ⟨ds, rfl, hl, h⟩ := h
    have hz : (4000 : Nat) ≤ sizeLine := by decide
    walk_at "dl"
    refine ⟨by decide, ?_⟩
    refine for_map (enc := dd) (fun xs δ => ∃ e acc s3 s4, acc ++ (sizes e xs).map D.int = (sizes e0 ds).map D.int ∧ δ = ⟨[.im (.int e), .im (.tup (ds.map dd)), .ow acc, s3, s4], m⟩) (fun x xs δ N hI hN => ?_) (fun δ hI => ?_) ⟨_, [], _, _, rfl, rfl⟩
    · obtain ⟨e, acc, s3, s4, h1, rfl⟩ := hI
      have hlen := congrArg List.length h1
      simp only [List.length_append, List.length_map, sizes_len, List.length_cons] at hlen
      walk_at "dl"
      simp only [dd]
      walk_at "dl"
      simp only [sAppend]
      walk_at "dl"
      refine ⟨by omega, ?_⟩
      exact hN _ ⟨then_ e x.1, acc ++ [.int e], _, _, by rw [← h1]; simp [sizes], rfl⟩
    · obtain ⟨e, acc, s3, s4, h1, rfl⟩ := hI
      walk_at "dl"
      have h2 : acc = (sizes e0 ds).map D.int := by simpa [sizes] using h1
      rw [h2]
      exact h
  · exact h.elim

end
end K65
set_option Elab.async false
set_option linter.all false
set_option maxRecDepth 100000
set_option maxHeartbeats 4000000
/-! K65b: images, closed tangles. -/
namespace K65
open PySem PySem.Spec PyProof.Rows L2 RL
section
variable {P : Program} {w : World} {K : PySem.W.Frag} {mg : Str → Option Value} {base : Heap}
local macro_rules | `(tactic| walk_at "dl") => `(tactic| try simp only [sSeq2, sIf, dB, mOp, mVar, mC, sRet, sRetN, mIf, mChain, sNil, mCB, aCons, aNil, startD, bodyEnds, dNot, dAnd, dOr, mAnd, mOr, mNot, mIsi, dTru, mCall, sRaise, mFld, sExpr, sSet, mTup, mLenN, mIxN, mF, fLst, fComp, dYes, restD, origD, wipeD, List.nil_append, sSetF, sAsg, gN, gSeq, gsCons, gsNil, sFor, sSeq, sFldD, RL.known, mup_same, mup_mup, putD, sParL, sItem, sPar, sPar3, fRev, d_sqL, d_sqT,
    d_asB, d_asI, d_asO, d_b2, d_i2, d_sub, d_add, d_addL, d_mul, d_mulL, d_eqI, d_eqS, d_neI, d_neS, d_eqT, d_eqL, d_neT, d_neL, d_neNT, d_neNN, d_neTN, d_lenL, d_lenT, d_lenR, d_ixL, d_ixT, d_ixR, d_int, d_intB, d_i1, d_i2a, d_tupL, d_tupR, d_tupT, d_neg, d_bls, d_truN, d_truB, d_truI, d_truL, d_truT, d_itL, d_itT, d_itR, d_isNN, d_isNI, d_isNS, d_isNT, d_isNE,
    n_ends_deeds, n_deeds_ends, n_over_under, n_over_join, n_over_open, n_over_turn, n_under_over, n_under_join, n_under_open, n_under_turn, n_join_over, n_join_under, n_join_open, n_join_turn, n_open_over, n_open_under, n_open_join, n_open_turn, n_turn_over, n_turn_under, n_turn_join, n_turn_open, d_isInt_int, d_isInt_bl, d_isInt_non, d_isInt_str, d_isInt_lst, d_isInt_rol, d_isInt_tup, d_isBool_int, d_isBool_bl, d_isBool_non, d_isBool_str, d_isBool_lst, d_isBool_rol, d_isBool_tup, d_isStr_int, d_isStr_bl, d_isStr_non, d_isStr_str, d_isStr_lst, d_isStr_rol, d_isStr_tup, d_isSeq_int, d_isSeq_bl, d_isSeq_non, d_isSeq_str, d_isSeq_lst, d_isSeq_rol, d_isSeq_tup, d_at0, d_at1, d_at2, d_words, reduceCtorEq, if_true, if_false, Bool.not_true, Bool.not_false, Bool.false_eq_true, and_true, true_and, decide_true, decide_false, List.length_singleton,
    List.map_cons, List.map_nil, List.length_cons, List.length_nil, List.replicate, List.append_nil, List.nil_append, List.cons_append, List.getElem?_cons_zero, List.getElem?_cons_succ, Nat.sub_self, List.set_cons_zero, List.set_cons_succ, Nat.add_sub_cancel, Nat.zero_add, Nat.reduceAdd, Nat.reduceSub])

/-- the image of a deed told on so many ends -/
def img (x : Deed) (e : Int) : Deed :=
  if x.1 = "turn" then ("turn", (e - x.2) % e) else if x.1 = "join" then ("open", x.2 - 1) else if x.1 = "open" then ("join", x.2 + 1) else (if x.1 = "over" then "under" else "over", x.2)
abbrev s_image_of : Stmt := topS 40
theorem sc_image_of : FnScope ["deed", "ends", "word", "gap"] ["deed", "ends"] (defScope s_image_of) := ⟨rfl, rfl, rfl, by decide +kernel, rfl, by decide +kernel, by decide +kernel⟩
def sp_image_of : Fsp
  | [.tup [.str x, .int g], .int e], m, P, _ => (x = "turn" → 0 < e) ∧ P (dd (img (x, g) e)) m
  | _, _, _, _ => False
def Q_image_of (P : Program) (w : World) (K : PySem.W.Frag) (mg : Str → Option Value) (base : Heap) : Prop := Ok P w K mg base 1 "image_of" [] sp_image_of
theorem ok_image_of {f : Addr} {fd : FuncData} (F : L2.Fun K "image_of" "image_of" s_image_of f fd) (T : Txt K mg)  : FnQ P w K mg base (L2.CX P w) 1 f fd ["deed", "ends"] (spD K sp_image_of) := by
  refine okD F sc_image_of (fun ds m P EX h => by unfold sp_image_of at h; split at h <;> first | rfl | exact h.elim) fun cdv A outer s H E hr gd tk po => ⟨_, _,
    (dss_cons (ds_asg (de_var 0) (dg_tup (n := 2) (dgs_cons (dg_name 2 sc_image_of.nd) (dgs_cons (dg_name 3 sc_image_of.nd) dgs_nil))))
      (dss_cons (ds_if (dt_cmp (opr_eq hr.units) ol_eq (de_var 2) (de_glob T.c_TURN)) (dss_one (ds_ret (de_tup (da_cons (de_glob T.c_TURN) (da_cons (de_op op_mod ol_mod (de_op op_sub ol_sub (de_var 1) (de_var 3)) (de_var 1)) da_nil))))) dss_nil)
      (dss_cons (ds_if (dt_cmp (opr_eq hr.units) ol_eq (de_var 2) (de_glob T.c_JOIN)) (dss_one (ds_ret (de_tup (da_cons (de_glob T.c_OPEN) (da_cons (de_op op_sub ol_sub (de_var 3) de_int) da_nil))))) dss_nil)
      (dss_cons (ds_if (dt_cmp (opr_eq hr.units) ol_eq (de_var 2) (de_glob T.c_OPEN)) (dss_one (ds_ret (de_tup (da_cons (de_glob T.c_JOIN) (da_cons (de_op opr_add ol_add (de_var 3) de_int) da_nil))))) dss_nil)
      (dss_one (ds_ret (de_tup (da_cons (de_if (dt_cmp (opr_eq hr.units) ol_eq (de_var 2) (de_glob T.c_OVER)) de_str (de_glob T.c_OVER)) (da_cons (de_var 3) da_nil))))))))), fun ds m P EX h => ?_⟩
  unfold sp_image_of at h
  split at h
  · rename_i x g e
    obtain ⟨hp, h⟩ := h
    have z2 : (2 : Nat) ≤ sizeLine := by decide
    unfold img dd at h
    walk_at "dl"
    by_cases h1 : x = "turn"
    · simp only [h1, decide_true, if_true] at h ⊢
      exact ⟨hp h1, z2, h⟩
    · by_cases h2 : x = "join"
      · simp only [h2, n_join_turn, decide_true, decide_false, if_true, if_false, Bool.false_eq_true] at h ⊢
        exact ⟨z2, h⟩
      · by_cases h3 : x = "open"
        · simp only [h3, n_open_turn, n_open_join, decide_true, decide_false, if_true, if_false, Bool.false_eq_true] at h ⊢
          exact ⟨z2, h⟩
        · by_cases h4 : x = "over"
          · simp only [h4, n_over_turn, n_over_join, n_over_open, decide_true, decide_false, if_true, if_false, Bool.false_eq_true] at h ⊢
            exact ⟨z2, h⟩
          · simp only [h1, h2, h3, h4, decide_true, decide_false, if_true, if_false, Bool.false_eq_true] at h ⊢
            exact ⟨z2, h⟩
  · exact h.elim
/-- the deeds with the ends on which they are told -/
def told (e : Int) (ds : List Deed) : List (Deed × Int) := ds.zip (sizes e ds)
def imgs (e : Int) (ds : List Deed) : List Deed := (told e ds).reverse.map fun p => img p.1 p.2
def pd (p : Deed × Int) : D := .tup [dd p.1, .int p.2]
theorem zip_told : ∀ {ds : List Deed} {e : Int}, zipD (ds.map dd) ((sizes e ds).map D.int) = (told e ds).map pd
  | [], _ => rfl
  | x :: r, e => by
    show D.tup [dd x, .int e] :: zipD (r.map dd) ((sizes (then_ e x.1) r).map D.int) = pd (x, e) :: (told (then_ e x.1) r).map pd
    rw [zip_told]
    rfl
/-- on a turn the ring has ends -/
def turnsOk (e : Int) (ds : List Deed) : Prop := ∀ p ∈ told e ds, p.1.1 = "turn" → 0 < p.2
abbrev s_leading_in : Stmt := topS 41
theorem sc_leading_in : FnScope ["tangle", "pairs", "deed", "ends"] ["tangle"] (defScope s_leading_in) := ⟨rfl, rfl, rfl, by decide +kernel, rfl, by decide +kernel, by decide +kernel⟩
def sp_leading_in (K : PySem.W.Frag) : Fsp
  | [.obj C fs], m, P, _ => ∃ e ds, D.obj C fs = tg K e ds ∧ ds.length ≤ 4000 ∧ turnsOk e ds ∧ P (.tup ((imgs e ds).map dd)) m
  | _, _, _, _ => False
def Q_leading_in (P : Program) (w : World) (K : PySem.W.Frag) (mg : Str → Option Value) (base : Heap) : Prop := Ok P w K mg base 3 "leading_in" [] (sp_leading_in K)
theorem ok_leading_in {f : Addr} {fd : FuncData} (F : L2.Fun K "leading_in" "leading_in" s_leading_in f fd) (T : Txt K mg) (G_image_of : Q_image_of P w K mg base) (G_ring_sizes : Q_ring_sizes P w K mg base) : FnQ P w K mg base (L2.CX P w) 3 f fd ["tangle"] (spD K (sp_leading_in K)) := by
  refine okD F sc_leading_in (fun ds m P EX h => by unfold sp_leading_in at h; split at h <;> first | rfl | exact h.elim) fun cdv A outer s H E hr gd tk po => ⟨_, _,
    (dss_cons (ds_setF 1 sc_leading_in.nd (df_lzip T.list T.zip (da_cons (de_fld (de_var 0)) (da_cons (de_call G_ring_sizes (hr.mono (j := 2) (by decide)) gd tk (fun _ => .nil) (da_cons (de_fld (de_var 0)) (da_cons (de_fld (de_var 0)) da_nil))) da_nil))))
      (dss_one (ds_ret (de_tuple T.tuple (da_cons (de_f (df_compO [("deed", 2), ("ends", 3)] (di_seq (de_f (df_rev (de_var 1)))) (blk_ok (N := ["tangle", "pairs", "deed", "ends"]) (sc := defScope s_leading_in) rfl rfl (by decide +kernel)) (dg_tup (n := 2) (dgs_cons (dg_name 2 sc_leading_in.nd) (dgs_cons (dg_name 3 sc_leading_in.nd) dgs_nil))) dp_nil (de_call G_image_of (hr.mono (j := 1) (by decide)) gd LamX.takes0 (fun _ => .nil) (da_cons (de_var 2) (da_cons (de_var 3) da_nil))) (fun _ _ _ _ _ => (dg_tup (n := 2) (dgs_cons (dg_name 2 sc_leading_in.nd) (dgs_cons (dg_name 3 sc_leading_in.nd) dgs_nil)))) (fun _ _ _ _ _ => dp_nil) (fun _ _ _ _ _ => (de_call G_image_of (hr.mono (j := 1) (by decide)) gd LamX.takes0 (fun _ => .nil) (da_cons (de_var 2) (da_cons (de_var 3) da_nil)))) sc_leading_in.nd)) da_nil))))), fun ds m P EX h => ?_⟩
  unfold sp_leading_in at h
  split at h
  · obtain ⟨e, ds, h1, hl, ht, h⟩ := h
    have hz : (4000 : Nat) ≤ sizeLine := by decide
    unfold tg at h1
    cases h1
    walk_at "dl"
    simp only [fLzip]
    walk_at "dl"
    simp only [List.lookup, b_ends_ends, b_deeds_ends, b_deeds_deeds]
    walk_at "dl"
    refine ⟨T.f_deeds, T.f_ends, T.f_deeds, ?_⟩
    simp only [sp_ring_sizes]
    refine ⟨ds, rfl, hl, ?_⟩
    walk_at "dl"
    rw [zip_told]
    rw [← List.map_reverse]
    refine comp_map (enc := pd) (out := fun p => dd (img p.1 p.2)) rfl (fun p hp R S hR => ?_) (by simp only [List.length_nil, List.length_reverse, told, List.length_zip, sizes_len]; omega) ?_
    · walk_at "dl"
      simp only [pd, dd]
      walk_at "dl"
      simp only [sp_image_of]
      exact ⟨ht p (List.mem_reverse.mp hp), hR _ rfl⟩
    · walk_at "dl"
      have e1 : (told e ds).reverse.map (fun p => dd (img p.1 p.2)) = (imgs e ds).map dd := by unfold imgs; rw [List.map_map]; rfl
      rw [e1]
      exact h
  · exact h.elim
abbrev s_need_alike : Stmt := topS 42
theorem sc_need_alike : FnScope ["one", "other"] ["one", "other"] (defScope s_need_alike) := ⟨rfl, rfl, rfl, by decide +kernel, rfl, by decide +kernel, by decide +kernel⟩
def erMisfit (K : PySem.W.Frag) (x : Str) : Er := ⟨He.ga K "Misfit", [("part", .str x)]⟩
def erMany (K : PySem.W.Frag) (x : Str) (n : Int) : Er := ⟨He.ga K "TooMany", [("most", .int n), ("what", .str x)]⟩
def sp_need_alike (K : PySem.W.Frag) : Fsp
  | [.obj C fs, .obj C' fs'], m, P, EX => ∃ e ds e' ds', D.obj C fs = tg K e ds ∧ D.obj C' fs' = tg K e' ds' ∧ if e = e' then P .non m else EX (erMisfit K "other") m
  | _, _, _, _ => False
def Q_need_alike (P : Program) (w : World) (K : PySem.W.Frag) (mg : Str → Option Value) (base : Heap) : Prop := Ok P w K mg base 3 "need_alike" [] (sp_need_alike K)
theorem ok_need_alike {f : Addr} {fd : FuncData} (F : L2.Fun K "need_alike" "need_alike" s_need_alike f fd) (T : Txt K mg) (X_Misfit : Q_Misfit P w K mg base) : FnQ P w K mg base (L2.CX P w) 3 f fd ["one", "other"] (spD K (sp_need_alike K)) := by
  refine okD F sc_need_alike (fun ds m P EX h => by unfold sp_need_alike at h; split at h <;> first | rfl | exact h.elim) fun cdv A outer s H E hr gd tk po => ⟨_, _,
    (dss_one (ds_if (dt_cmp (opr_ne hr.units) ol_ne (de_fld (de_var 0)) (de_fld (de_var 1))) (dss_one (ds_raise X_Misfit (hr.mono (by decide)) tk (da_cons de_str da_nil))) dss_nil)), fun ds m P EX h => ?_⟩
  unfold sp_need_alike at h
  split at h
  · obtain ⟨e, ds, e', ds', h1, h2, h⟩ := h
    unfold tg at h1 h2
    cases h1
    cases h2
    walk_at "dl"
    simp only [List.lookup, b_ends_ends]
    walk_at "dl"
    refine ⟨T.f_ends, T.f_ends, ?_⟩
    by_cases h3 : e = e'
    · simpa [h3] using h
    · simp only [h3, decide_false, Bool.not_false, if_true, if_false] at h ⊢
      exact ⟨by decide, h⟩
  · exact h.elim
abbrev s_lead_in : Stmt := topS 43
theorem sc_lead_in : FnScope ["tangle"] ["tangle"] (defScope s_lead_in) := ⟨rfl, rfl, rfl, by decide +kernel, rfl, by decide +kernel, by decide +kernel⟩
def sp_lead_in (K : PySem.W.Frag) : Fsp
  | [.obj C fs], m, P, EX => sp_leading_in K [.obj C fs] m P EX
  | _, _, _, _ => False
def Q_lead_in (P : Program) (w : World) (K : PySem.W.Frag) (mg : Str → Option Value) (base : Heap) : Prop := Ok P w K mg base 4 "lead_in" [] (sp_lead_in K)
def Q_lead_in_tangle (P : Program) (w : World) (K : PySem.W.Frag) (mg : Str → Option Value) (base : Heap) : Prop := OkK P w K mg base 4 "lead_in" ["tangle"] [0] (sp_lead_in K)
theorem ok_lead_in {f : Addr} {fd : FuncData} (F : L2.Fun K "lead_in" "lead_in" s_lead_in f fd) (T : Txt K mg) (G_leading_in : Q_leading_in P w K mg base) (G_need_tangle1 : Q_need_tangle1 P w K mg base) : FnQ P w K mg base (L2.CX P w) 4 f fd ["tangle"] (spD K (sp_lead_in K)) := by
  refine okD F sc_lead_in (fun ds m P EX h => by unfold sp_lead_in at h; split at h <;> first | rfl | exact h.elim) fun cdv A outer s H E hr gd tk po => ⟨_, _,
    (dss_cons (ds_expr (de_call G_need_tangle1 (hr.mono (j := 3) (by decide)) gd tk G_need_tangle1d (da_cons (de_var 0) da_nil)))
      (dss_one (ds_ret (de_call G_leading_in (hr.mono (j := 3) (by decide)) gd tk (fun _ => .nil) (da_cons (de_var 0) da_nil))))), fun ds m P EX h => ?_⟩
  unfold sp_lead_in at h
  split at h
  · have h' := h
    obtain ⟨e, ds, h1, hl, ht, h0⟩ := h'
    unfold tg at h1
    cases h1
    walk_at "dl"
    simp only [sp_need_tangle, List.append_nil, List.cons_append, List.nil_append, true_and]
    walk_at "dl"
    exact h
  · exact h.elim
/-- ends of a ring inside a tangle -/
def ev (e : Int) : Prop := 0 ≤ e ∧ e ≤ 24 ∧ e % 2 = 0
theorem img_facts {x : Deed} {e : Int} (hv : ev e) (hd : okDeed x = true) (hf : fits e x.1 x.2 = true) (ho : ¬ (x.1 = "open" ∧ e = 24)) :
    okDeed (img x e) = true ∧ fits (then_ e x.1) (img x e).1 (img x e).2 = true ∧ ¬ ((img x e).1 = "open" ∧ then_ e x.1 = 24) ∧ then_ (then_ e x.1) (img x e).1 = e ∧ ev (then_ e x.1) ∧ (x.1 = "turn" → 0 < e) ∧ img (img x e) (then_ e x.1) = x ∧ (x.1 = "turn" → (e - x.2) % e = if x.2 > 0 then e - x.2 else 0) := by
  obtain ⟨w, g⟩ := x
  obtain ⟨v0, v1, v2⟩ := hv
  obtain ⟨hw, hg⟩ := Bool.and_eq_true_iff.mp hd
  obtain ⟨g0, g1⟩ := Bool.and_eq_true_iff.mp hg
  replace g0 : 0 ≤ g := of_decide_eq_true g0
  replace g1 : g ≤ 23 := of_decide_eq_true g1
  simp only at hw hf ho
  have hw2 : w = "over" ∨ w = "under" ∨ w = "join" ∨ w = "open" ∨ w = "turn" := by
    have := List.contains_iff_mem.mp hw
    simpa [words] using this
  have okd : ∀ (z : Str) (i : Int), z = "over" ∨ z = "under" ∨ z = "join" ∨ z = "open" ∨ z = "turn" → 0 ≤ i → i ≤ 23 → okDeed (z, i) = true := fun z i hz h0 h1 => by
    have hc : words.contains z = true := List.contains_iff_mem.mpr (by simpa [words] using hz)
    simp only [okDeed, hc, h0, h1, decide_true, Bool.and_true]
  rcases hw2 with rfl | rfl | rfl | rfl | rfl
  · simp only [fits, n_over_join, n_over_open, if_false, decide_eq_true_eq] at hf
    have hi : img (("over" : Str), g) e = (("under" : Str), g) := by simp only [img, n_over_turn, n_over_join, n_over_open, if_true, if_false]
    have ht : then_ e "over" = e := by simp only [then_, n_over_join, n_over_open, if_false]
    rw [hi, ht]
    refine ⟨okd _ _ (.inr (.inl rfl)) g0 g1, ?_, fun z => n_under_open.mp z.1, ?_, ⟨v0, v1, v2⟩, fun z => (n_over_turn.mp z).elim, ?_, fun z => (n_over_turn.mp z).elim⟩
    · simp only [fits, n_under_join, n_under_open, if_false, hf, decide_true]
    · simp only [then_, n_under_join, n_under_open, if_false]
    · simp only [img, n_under_turn, n_under_join, n_under_open, n_under_over, if_false]
  · simp only [fits, n_under_join, n_under_open, if_false, decide_eq_true_eq] at hf
    have hi : img (("under" : Str), g) e = (("over" : Str), g) := by simp only [img, n_under_turn, n_under_join, n_under_open, n_under_over, if_true, if_false]
    have ht : then_ e "under" = e := by simp only [then_, n_under_join, n_under_open, if_false]
    rw [hi, ht]
    refine ⟨okd _ _ (.inl rfl) g0 g1, ?_, fun z => n_over_open.mp z.1, ?_, ⟨v0, v1, v2⟩, fun z => (n_under_turn.mp z).elim, ?_, fun z => (n_under_turn.mp z).elim⟩
    · simp only [fits, n_over_join, n_over_open, if_false, hf, decide_true]
    · simp only [then_, n_over_join, n_over_open, if_false]
    · simp only [img, n_over_turn, n_over_join, n_over_open, if_true, if_false]
  · have hf' : 1 ≤ g ∧ 2 ≤ e ∧ (e = 2 → g = 1) ∧ (e ≠ 2 → g ≤ e - 2) := by
      simp only [fits, if_true] at hf
      by_cases h2 : e = 2
      · simp [h2] at hf; omega
      · simp [h2] at hf; omega
    obtain ⟨q1, q2, q3, q4⟩ := hf'
    have hi : img (("join" : Str), g) e = (("open" : Str), g - 1) := by simp only [img, n_join_turn, if_true, if_false]
    have ht : then_ e "join" = e - 2 := by simp only [then_, if_true]
    rw [hi, ht]
    refine ⟨okd _ _ (.inr (.inr (.inr (.inl rfl)))) (by omega) (by omega), ?_, fun z => by have := z.2; omega, ?_, ⟨by omega, by omega, by omega⟩, fun z => (n_join_turn.mp z).elim, ?_, fun z => (n_join_turn.mp z).elim⟩
    · simp only [fits, n_open_join, if_true, if_false, decide_eq_true_eq]; split <;> omega
    · simp only [then_, n_open_join, if_true, if_false]; omega
    · simp only [img, n_open_turn, n_open_join, if_true, if_false, Int.sub_add_cancel]
  · have hf' : (g < e ∨ g < 1) ∧ e ≠ 24 := by
      simp only [fits, n_open_join, if_false, if_true, decide_eq_true_eq] at hf
      refine ⟨?_, fun z => ho ⟨rfl, z⟩⟩
      split at hf <;> omega
    obtain ⟨q1, q2⟩ := hf'
    have hi : img (("open" : Str), g) e = (("join" : Str), g + 1) := by simp only [img, n_open_turn, n_open_join, if_true, if_false]
    have ht : then_ e "open" = e + 2 := by simp only [then_, n_open_join, if_true, if_false]
    rw [hi, ht]
    refine ⟨okd _ _ (.inr (.inr (.inl rfl))) (by omega) (by omega), ?_, fun z => n_join_open.mp z.1, ?_, ⟨by omega, by omega, by omega⟩, fun z => (n_open_turn.mp z).elim, ?_, fun z => (n_open_turn.mp z).elim⟩
    · simp only [fits, if_true]
      by_cases h0 : e = 0
      · subst h0; have : g = 0 := by omega
        subst this; decide
      · have h5 : ¬ (e + 2 = 2) := by omega
        have h6 : 1 ≤ g + 1 := by omega
        have h7 : g + 1 ≤ e + 2 - 2 := by omega
        simp only [h5, if_false, h6, h7, decide_true, Bool.and_true]
    · simp only [then_, if_true]; omega
    · simp only [img, n_join_turn, if_true, if_false, Int.add_sub_cancel]
  · simp only [fits, n_turn_join, n_turn_open, if_false, decide_eq_true_eq] at hf
    have hp : 0 < e := by omega
    have m1 : 0 ≤ (e - g) % e := Int.emod_nonneg _ (by omega)
    have m2 : (e - g) % e < e := Int.emod_lt_of_pos _ hp
    have m3 : (e - g) % e = if g > 0 then e - g else 0 := by
      split
      · exact Int.emod_eq_of_lt (by omega) (by omega)
      · have h0 : g = 0 := by omega
        simp [h0]
    have m4 : (e - (e - g) % e) % e = g := by
      rw [m3]
      split
      · rw [show e - (e - g) = g by omega]; exact Int.emod_eq_of_lt (by omega) (by omega)
      · have h0 : g = 0 := by omega
        simp [h0]
    have hi : img (("turn" : Str), g) e = (("turn" : Str), (e - g) % e) := by simp only [img, if_true]
    have ht : then_ e "turn" = e := by simp only [then_, n_turn_join, n_turn_open, if_false]
    rw [hi, ht]
    refine ⟨okd _ _ (.inr (.inr (.inr (.inr rfl)))) m1 (by omega), ?_, fun z => n_turn_open.mp z.1, ?_, ⟨v0, v1, v2⟩, fun _ => hp, ?_, fun _ => m3⟩
    · simp only [fits, n_turn_join, n_turn_open, if_false, m2, decide_true]
    · simp only [then_, n_turn_join, n_turn_open, if_false]
    · simp only [img, if_true, m4]
theorem imgs_cons {x : Deed} {r : List Deed} {e : Int} : imgs e (x :: r) = imgs (then_ e x.1) r ++ [img x e] := by
  show ((x, e) :: told (then_ e x.1) r).reverse.map _ = _
  rw [List.reverse_cons, List.map_append]
  rfl
theorem run_app : ∀ {a b : List Deed} {e f : Int}, run e a = some f → run e (a ++ b) = run f b
  | [], b, e, f, h => by cases h; rfl
  | x :: a, b, e, f, h => by
    unfold run at h
    split at h
    · rename_i c
      show run e (x :: (a ++ b)) = _
      conv => lhs; unfold run
      rw [if_pos c]
      exact run_app h
    · cases h
theorem imgs_len : ∀ {ds : List Deed} {e : Int}, (imgs e ds).length = ds.length
  | [], _ => rfl
  | x :: r, e => by rw [imgs_cons, List.length_append, imgs_len]; rfl
theorem imgs_run : ∀ {ds : List Deed} {e f : Int}, ev e → (∀ x ∈ ds, okDeed x = true) → run e ds = some f → run f (imgs e ds) = some e ∧ (∀ x ∈ imgs e ds, okDeed x = true) ∧ turnsOk e ds
  | [], e, f, hv, hd, h => by
    cases h
    refine ⟨rfl, ?_, ?_⟩
    · intro x hx; exact absurd hx List.not_mem_nil
    · intro p hp; exact absurd hp List.not_mem_nil
  | x :: r, e, f, hv, hd, h => by
    unfold run at h
    split at h
    · rename_i c
      obtain ⟨a1, a2, a3, a4, a5, a6, a7, a8⟩ := img_facts hv (hd x List.mem_cons_self) c.1 c.2
      obtain ⟨b1, b2, b3⟩ := imgs_run a5 (fun z hz => hd z (List.mem_cons_of_mem _ hz)) h
      refine ⟨?_, ?_, ?_⟩
      · rw [imgs_cons, run_app b1]
        unfold run
        rw [if_pos ⟨a2, a3⟩, a4]
        rfl
      · rw [imgs_cons]
        intro z hz
        rcases List.mem_append.mp hz with hz | hz
        · exact b2 z hz
        · cases List.mem_singleton.mp hz; exact a1
      · intro p hp
        rcases List.mem_cons.mp hp with rfl | hp
        · exact a6
        · exact b3 p hp
    · cases h
theorem good_ev {e : Int} {ds : List Deed} (h : good e ds) : ev e := ⟨h.2.1, by have := h.2.2.1; omega, h.2.2.2.1⟩
theorem good_imgs {e : Int} {ds : List Deed} (h : good e ds) : run 0 (imgs e ds) = some e ∧ (∀ x ∈ imgs e ds, okDeed x = true) ∧ turnsOk e ds := imgs_run (good_ev h) h.1.2 h.2.2.2.2
/-- an image closed with a tangle of as many ends -/
theorem good_closed {e : Int} {ds ds' : List Deed} (h : good e ds) (h' : good e ds') (hl : ds.length + ds'.length ≤ 4000) : good 0 (imgs e ds' ++ ds) := by
  obtain ⟨b1, b2, b3⟩ := good_imgs h'
  refine ⟨⟨by rw [List.length_append, imgs_len]; omega, fun x hx => ?_⟩, by decide, by decide, by decide, ?_⟩
  · rcases List.mem_append.mp hx with hx | hx
    · exact b2 x hx
    · exact h.1.2 x hx
  · rw [run_app b1]; exact h.2.2.2.2
theorem mk_tangle {m : Mh} {e : Int} {ds : List Deed} {P : D → Mh → Prop} {EX : Er → Mh → Prop} (hg : good e ds) (h : P (tg K e ds) m) {x : Addr} (hx : m x = none) : sp_Tangle_init K [.ptr x, .int e, .lst (ds.map dd)] (mup m x (.ob (TG K) [])) (fun d m' => d = .non ∧ match m' x with
    | some (.ob C' fs) => C' = TG K ∧ P (.obj (TG K) fs) (mdel m' x)
    | _ => False) EX := by
  unfold sp_Tangle_init
  refine ⟨ds, rfl, hg, mup_same, rfl, ?_⟩
  rw [mup_mup, mup_same, mdel_mup hx]
  exact ⟨rfl, h⟩
abbrev s_closed : Stmt := topS 44
theorem sc_closed : FnScope ["one", "other"] ["one", "other"] (defScope s_closed) := ⟨rfl, rfl, rfl, by decide +kernel, rfl, by decide +kernel, by decide +kernel⟩
def sp_closed (K : PySem.W.Frag) : Fsp
  | [.obj C fs, .obj C' fs'], m, P, EX => ∃ e ds e' ds', D.obj C fs = tg K e ds ∧ D.obj C' fs' = tg K e' ds' ∧ good e ds ∧ good e' ds' ∧ if e = e' then (if ds.length + ds'.length > 4000 then EX (erMany K "deeds" 4000) m else P (tg K 0 (imgs e ds' ++ ds)) m) else EX (erMisfit K "other") m
  | _, _, _, _ => False
def Q_closed (P : Program) (w : World) (K : PySem.W.Frag) (mg : Str → Option Value) (base : Heap) : Prop := Ok P w K mg base 8 "closed" [] (sp_closed K)
def Q_closed_other_one (P : Program) (w : World) (K : PySem.W.Frag) (mg : Str → Option Value) (base : Heap) : Prop := OkK P w K mg base 8 "closed" ["other", "one"] [1, 0] (sp_closed K)
theorem ok_closed {f : Addr} {fd : FuncData} (F : L2.Fun K "closed" "closed" s_closed f fd) (T : Txt K mg) (G_Tangle : Q_Tangle P w K mg base) (G_leading_in : Q_leading_in P w K mg base) (G_need_alike : Q_need_alike P w K mg base) (G_need_tangle : Q_need_tangle P w K mg base) (X_TooMany : Q_TooMany P w K mg base) : FnQ P w K mg base (L2.CX P w) 8 f fd ["one", "other"] (spD K (sp_closed K)) := by
  refine okD F sc_closed (fun ds m P EX h => by unfold sp_closed at h; split at h <;> first | rfl | exact h.elim) fun cdv A outer s H E hr gd tk po => ⟨_, _,
    (dss_cons (ds_expr (de_call G_need_tangle (hr.mono (j := 3) (by decide)) gd tk (fun _ => .nil) (da_cons (de_var 0) (da_cons de_str da_nil))))
      (dss_cons (ds_expr (de_call G_need_tangle (hr.mono (j := 3) (by decide)) gd tk (fun _ => .nil) (da_cons (de_var 1) (da_cons de_str da_nil))))
      (dss_cons (ds_expr (de_call G_need_alike (hr.mono (j := 3) (by decide)) gd tk (fun _ => .nil) (da_cons (de_var 0) (da_cons (de_var 1) da_nil))))
      (dss_cons (ds_if (dt_cmp op_gt ol_b2 (de_op opr_add ol_add (de_len T.len (da_cons (de_fld (de_var 0)) da_nil)) (de_len T.len (da_cons (de_fld (de_var 1)) da_nil))) (de_glob T.c_MOST_DEEDS)) (dss_one (ds_raise X_TooMany (hr.mono (by decide)) tk (da_cons de_str (da_cons (de_glob T.c_MOST_DEEDS) da_nil)))) dss_nil)
      (dss_one (ds_ret (de_make G_Tangle (hr.mono (j := 7) (by decide)) gd tk (fun _ => .nil) (da_cons de_int (da_cons (de_f (df_lst (da_star (de_call G_leading_in (hr.mono (j := 3) (by decide)) gd tk (fun _ => .nil) (da_cons (de_var 1) da_nil)) (da_star (de_fld (de_var 0)) da_nil)))) da_nil))))))))), fun ds m P EX h => ?_⟩
  unfold sp_closed at h
  split at h
  · obtain ⟨e, ds, e', ds', h1, h2, g1, g2, h⟩ := h
    have hz : (4000 : Nat) ≤ sizeLine := by decide
    unfold tg at h1 h2
    cases h1
    cases h2
    walk_at "dl"
    simp only [sp_need_tangle, List.append_nil, List.cons_append, List.nil_append, true_and]
    walk_at "dl"
    simp only [sp_need_alike]
    refine ⟨e, ds, e', ds', rfl, rfl, ?_⟩
    by_cases h3 : e = e'
    · simp only [h3, if_true] at h ⊢
      subst h3
      walk_at "dl"
      simp only [List.lookup, b_ends_ends, b_deeds_ends, b_deeds_deeds]
      walk_at "dl"
      refine ⟨T.f_deeds, T.f_deeds, ?_⟩
      by_cases h4 : ds.length + ds'.length > 4000
      · have h5 : (4000 : Int) < (ds.length : Int) + (ds'.length : Int) := by omega
        simp only [h4, if_true] at h
        simp only [List.length_map, h5, decide_true, if_true]
        exact ⟨by decide, h⟩
      · have h5 : ¬ (4000 : Int) < (ds.length : Int) + (ds'.length : Int) := by omega
        simp only [h4, if_false] at h
        simp only [List.length_map, h5, decide_false, if_false, Bool.false_eq_true]
        unfold mMake
        walk_at "dl"
        unfold aStar
        walk_at "dl"
        simp only [sp_leading_in]
        have hgc := good_closed g1 g2 (by omega)
        refine ⟨e, ds', rfl, g2.1.1, (good_imgs g2).2.2, ?_⟩
        have hitm : ∀ l : List D, (D.tup l).items = some l := fun _ => rfl
        simp only [hitm, d_asO, List.lookup, b_deeds_ends, b_deeds_deeds]
        rw [← List.map_append]
        refine ⟨T.f_deeds, ?_, fun x hx => mk_tangle hgc h hx⟩
        rw [List.length_map]
        exact Nat.le_trans hgc.1.1 hz
    · simp only [h3, if_false] at h ⊢
      exact h
  · exact h.elim

end
end K65
set_option Elab.async false
set_option linter.all false
set_option maxRecDepth 100000
set_option maxHeartbeats 4000000
/-! K65c: the law's pier. -/
namespace K65
open PySem PySem.Spec PyProof.Rows L2 RL
section
variable {P : Program} {w : World} {K : PySem.W.Frag} {mg : Str → Option Value} {base : Heap}
local macro_rules | `(tactic| walk_at "dl") => `(tactic| try simp only [sSeq2, sIf, dB, mOp, mVar, mC, sRet, sRetN, mIf, mChain, sNil, mCB, aCons, aNil, startD, bodyEnds, dNot, dAnd, dOr, mAnd, mOr, mNot, mIsi, dTru, mCall, sRaise, mFld, sExpr, sSet, mTup, mLenN, mIxN, mF, fLst, fComp, dYes, restD, origD, wipeD, List.nil_append, sSetF, sAsg, gN, gSeq, gsCons, gsNil, sFor, sSeq, sFldD, RL.known, mup_same, mup_mup, putD, sParL, sItem, sPar, sPar3, fRev, d_sqL, d_sqT,
    d_asB, d_asI, d_asO, d_b2, d_i2, d_sub, d_add, d_addL, d_mul, d_mulL, d_eqI, d_eqS, d_neI, d_neS, d_eqT, d_eqL, d_neT, d_neL, d_neNT, d_neNN, d_neTN, d_lenL, d_lenT, d_lenR, d_ixL, d_ixT, d_ixR, d_int, d_intB, d_i1, d_i2a, d_tupL, d_tupR, d_tupT, d_neg, d_bls, d_truN, d_truB, d_truI, d_truL, d_truT, d_itL, d_itT, d_itR, d_isNN, d_isNI, d_isNS, d_isNT, d_isNE,
    n_ends_deeds, n_deeds_ends, n_over_under, n_over_join, n_over_open, n_over_turn, n_under_over, n_under_join, n_under_open, n_under_turn, n_join_over, n_join_under, n_join_open, n_join_turn, n_open_over, n_open_under, n_open_join, n_open_turn, n_turn_over, n_turn_under, n_turn_join, n_turn_open, d_isInt_int, d_isInt_bl, d_isInt_non, d_isInt_str, d_isInt_lst, d_isInt_rol, d_isInt_tup, d_isBool_int, d_isBool_bl, d_isBool_non, d_isBool_str, d_isBool_lst, d_isBool_rol, d_isBool_tup, d_isStr_int, d_isStr_bl, d_isStr_non, d_isStr_str, d_isStr_lst, d_isStr_rol, d_isStr_tup, d_isSeq_int, d_isSeq_bl, d_isSeq_non, d_isSeq_str, d_isSeq_lst, d_isSeq_rol, d_isSeq_tup, d_at0, d_at1, d_at2, d_words, reduceCtorEq, if_true, if_false, Bool.not_true, Bool.not_false, Bool.false_eq_true, and_true, true_and, decide_true, decide_false, List.length_singleton,
    List.map_cons, List.map_nil, List.length_cons, List.length_nil, List.replicate, List.append_nil, List.nil_append, List.cons_append, List.getElem?_cons_zero, List.getElem?_cons_succ, Nat.sub_self, List.set_cons_zero, List.set_cons_succ, Nat.add_sub_cancel, Nat.zero_add, Nat.reduceAdd, Nat.reduceSub])

/-- the pier at p: cells, turns so far, a rest -/
def Pier (m : Mh) (p : Addr) (t : Int) : Prop := ∃ (cs : List Int) (t0 r : Int), m p = some (.ls [.lst (cs.map D.int), .int t0, .int r]) ∧ 0 ≤ t0 ∧ t0 ≤ t
theorem Pier.up {m : Mh} {p : Addr} {t t' : Int} (h : Pier m p t) (ht : t ≤ t') : Pier m p t' := by
  obtain ⟨cs, t0, r, h1, h2, h3⟩ := h
  exact ⟨cs, t0, r, h1, h2, by omega⟩
theorem ints_ok (cs : List Int) : (D.lst (cs.map D.int)).ok = true := by
  have key : ∀ cs : List Int, datAll (cs.map D.int) = true ∧ PyData.canLayAll0 (pyAll (cs.map D.int)) = true ∧ PyData.depthAll (pyAll (cs.map D.int)) ≤ 0 := by
    intro cs
    induction cs with
    | nil => exact ⟨rfl, rfl, Nat.le_refl _⟩
    | cons c cs ih =>
      obtain ⟨a, b, d⟩ := ih
      refine ⟨?_, ?_, ?_⟩
      · show (true && datAll (cs.map D.int)) = true
        rw [a]; rfl
      · show (true && PyData.canLayAll0 (pyAll (cs.map D.int))) = true
        rw [b]; rfl
      · show max 0 (PyData.depthAll (pyAll (cs.map D.int))) ≤ 0
        omega
  obtain ⟨b1, b2, b3⟩ := key cs
  have e : decide (PyData.depthAll (pyAll (cs.map D.int)) + 1 ≤ 64) = true := decide_eq_true (by omega)
  show (datAll (cs.map D.int) && (PyData.canLayAll0 (pyAll (cs.map D.int)) && decide (PyData.depthAll (pyAll (cs.map D.int)) + 1 ≤ 64))) = true
  rw [b1, b2, e]; rfl
theorem cut_ints (ns : List Int) : ∃ cs : List Int, cut (ns.map D.int) none (some 60) = cs.map D.int ∧ 0 + cs.length ≤ sizeLine := by
  refine ⟨_, (by unfold cut; rw [← List.map_drop, ← List.map_take]), ?_⟩
  rw [HT.sIx_none, show (some (60 : Int)) = some ((60 : Nat) : Int) from rfl, HT.sIx_nat]
  have hz : (60 : Nat) ≤ sizeLine := by decide
  rw [List.length_take]
  omega
theorem ite_of {p a b : Prop} [Decidable p] (ha : p → a) (hb : ¬ p → b) : if p then a else b := by
  split
  · exact ha ‹_›
  · exact hb ‹_›
theorem ix32 : ixN 3 2 = some 2 := rfl
theorem ix31 : ixN 3 1 = some 1 := rfl
theorem atI_int {cs : List Int} {i : Int} (h0 : 0 ≤ i) (h1 : i < ((cs.map D.int).length : Int)) : ∃ c, atI (cs.map D.int) i = some (D.int c) := by
  obtain ⟨k, rfl⟩ := Int.eq_ofNat_of_zero_le h0
  have hk : k < (cs.map D.int).length := by omega
  refine ⟨cs[k]'(by rw [List.length_map] at hk; exact hk), ?_⟩
  rw [show atI (cs.map D.int) (k : Int) = (cs.map D.int)[k]? from atI_nat hk, List.getElem?_eq_getElem hk, List.getElem_map]
theorem seq_gen {f1 f2 : DS} {δ : Dl} {Dd : Dn} (h : ∀ R, R = f2 → sSeq2 f1 R δ Dd) : sSeq2 f1 f2 δ Dd := h f2 rfl
theorem pick_deed {d : D} (h : d = .str "over" ∨ d = .str "under" ∨ d = .str "turn") : ∃ z : Str, d = D.str z ∧ (z = "over" ∨ z = "under" ∨ z = "turn") := by
  rcases h with rfl | rfl | rfl
  · exact ⟨_, rfl, .inl rfl⟩
  · exact ⟨_, rfl, .inr (.inl rfl)⟩
  · exact ⟨_, rfl, .inr (.inr rfl)⟩
theorem while_ind {t : DT} {f : DS} {Dd : Dn} (I : Nat → Dl → Prop) (hs : ∀ n δ (N : Dl → Prop), I n δ → (∀ δ2 j, j < n → I j δ2 → N δ2) → t δ (fun c δ1 => if c = true then f δ1 { Dd with nx := N, ct := N, bk := Dd.nx } else Dd.nx δ1) Dd.ex) : ∀ n j δ, j ≤ n → I j δ → dWhile t f (n + 1) δ Dd
  | 0, j, δ, hj, hI => hs j δ _ hI fun δ2 i hi _ => by omega
  | n + 1, j, δ, hj, hI => hs j δ _ hI fun δ2 i hi hI2 => while_ind I hs n i δ2 (by omega) hI2
abbrev s__law_pier : Stmt := topS 46
theorem sc__law_pier : FnScope ["_law_script", "_law_cell"] ["_law_script"] (defScope s__law_pier) := ⟨rfl, rfl, rfl, by decide +kernel, rfl, by decide +kernel, by decide +kernel⟩
def sp__law_pier : Fsp
  | [.rol l], m, P, _ => ∃ ns : List Int, l = ns.map D.int ∧ ∀ p m', Pier m' p 0 → P (.ptr p) m'
  | _, _, _, _ => False
def Q__law_pier (P : Program) (w : World) (K : PySem.W.Frag) (mg : Str → Option Value) (base : Heap) : Prop := Ok P w K mg base 1 "_law_pier" [] sp__law_pier
theorem ok__law_pier {f : Addr} {fd : FuncData} (F : L2.Fun K "_law_pier" "_law_pier" s__law_pier f fd) (T : Txt K mg)  : FnQ P w K mg base (L2.CX P w) 1 f fd ["_law_script"] (spD K sp__law_pier) := by
  refine okD F sc__law_pier (fun ds m P EX h => by unfold sp__law_pier at h; split at h <;> first | rfl | exact h.elim) fun cdv A outer s H E hr gd tk po => ⟨_, _,
    (dss_one (ds_ret (de_ptr (df_lst (da_cons (de_f (df_compO [("_law_cell", 1)] (di_seq (de_slice (de_var 0) dp_none (dp_some de_int))) (blk_ok (N := ["_law_script", "_law_cell"]) (sc := defScope s__law_pier) rfl rfl (by decide +kernel)) (dg_name 1 sc__law_pier.nd) dp_nil (de_toInt T.int (da_cons (de_var 1) da_nil)) (fun _ _ _ _ _ => (dg_name 1 sc__law_pier.nd)) (fun _ _ _ _ _ => dp_nil) (fun _ _ _ _ _ => (de_toInt T.int (da_cons (de_var 1) da_nil))) sc__law_pier.nd)) (da_cons de_int (da_cons de_int da_nil))))))), fun ds m P EX h => ?_⟩
  unfold sp__law_pier at h
  split at h
  · obtain ⟨ns, rfl, h⟩ := h
    unfold mPtr
    walk_at "dl"
    unfold mSl
    walk_at "dl"
    simp only [pNone, pSome]
    walk_at "dl"
    obtain ⟨cs, hcs, hle⟩ := cut_ints ns
    rw [hcs]
    refine comp_map (enc := D.int) (out := D.int) rfl (fun x hx R S hR => ?_) (by rw [List.length_nil]; exact hle) ?_
    · walk_at "dl"
      exact hR _ rfl
    · walk_at "dl"
      exact ⟨by decide, fun q hq => h q _ ⟨cs, 0, 0, mup_same, by decide, by decide⟩⟩
  · exact h.elim
abbrev s__law_moor : Stmt := topS 47
theorem sc__law_moor : FnScope ["_law_pier_here", "_law_many", "_law_rest", "_law_turn", "_law_cell", "_law_mixed"] ["_law_pier_here", "_law_many"] (defScope s__law_moor) := ⟨rfl, rfl, rfl, by decide +kernel, rfl, by decide +kernel, by decide +kernel⟩
def sp__law_moor : Fsp
  | [.ptr p, .int n], m, P, _ => ∃ t, Pier m p t ∧ t < 1000000 ∧ 0 < n ∧ n < 1000000 ∧ ∀ v m', 0 ≤ v → v < n → Pier m' p (t + 1) → P (.int v) m'
  | _, _, _, _ => False
def Q__law_moor (P : Program) (w : World) (K : PySem.W.Frag) (mg : Str → Option Value) (base : Heap) : Prop := Ok P w K mg base 1 "_law_moor" [] sp__law_moor
theorem ok__law_moor {f : Addr} {fd : FuncData} (F : L2.Fun K "_law_moor" "_law_moor" s__law_moor f fd) (T : Txt K mg)  : FnQ P w K mg base (L2.CX P w) 1 f fd ["_law_pier_here", "_law_many"] (spD K sp__law_moor) := by
  refine okD F sc__law_moor (fun ds m P EX h => by unfold sp__law_moor at h; split at h <;> first | rfl | exact h.elim) fun cdv A outer s H E hr gd tk po => ⟨_, _,
    (dss_cons (ds_if (dt_cmp op_gt ol_b2 (de_ixN 0 de_int) de_int) (dss_cons (ds_set 2 sc__law_moor.nd (de_ixN 0 de_int))
      (dss_cons (ds_item 0 (de_op op_fdiv ol_fdiv (de_toInt T.int (da_cons (de_var 2) da_nil)) (de_var 1)) de_int)
      (dss_one (ds_ret (de_op op_mod ol_mod (de_toInt T.int (da_cons (de_var 2) da_nil)) (de_var 1)))))) dss_nil)
      (dss_cons (ds_set 3 sc__law_moor.nd (de_ixN 0 de_int))
      (dss_cons (ds_item 0 (de_op opr_add ol_add (de_var 3) de_int) de_int)
      (dss_cons (ds_set 4 sc__law_moor.nd (de_op opr_add ol_add (de_op opr_mul ol_mul de_int (de_var 3)) de_int))
      (dss_cons (ds_if (dt_cmp (opr_ne hr.units) ol_ne (de_ixN 0 de_int) (de_f (df_lst da_nil))) (dss_one (ds_set 4 sc__law_moor.nd (de_ix (de_ixN 0 de_int) (de_op op_mod ol_mod (de_toInt T.int (da_cons (de_var 3) da_nil)) (de_len T.len (da_cons (de_ixN 0 de_int) da_nil)))))) dss_nil)
      (dss_cons (ds_if (dt_w (dw_and (dt_cmp op_lt ol_b2 (de_var 3) (de_len T.len (da_cons (de_ixN 0 de_int) da_nil))) (dw_and1 (dt_cmp op_ge ol_b2 (de_abs T.abs (da_cons (de_var 4) da_nil)) (de_op op_pow ol_pow de_int de_int))))) (dss_cons (ds_set 2 sc__law_moor.nd (de_op opr_add ol_add (de_op opr_mul ol_mul de_int (de_op op_sub ol_sub (de_abs T.abs (da_cons (de_var 4) da_nil)) (de_op op_pow ol_pow de_int de_int))) (de_toInt T.int (da_cons (de_cmp op_lt ol_b2 (de_var 4) de_int) da_nil))))
      (dss_cons (ds_item 0 (de_op op_fdiv ol_fdiv (de_toInt T.int (da_cons (de_var 2) da_nil)) (de_var 1)) de_int)
      (dss_one (ds_ret (de_op op_mod ol_mod (de_toInt T.int (da_cons (de_var 2) da_nil)) (de_var 1)))))) dss_nil)
      (dss_cons (ds_set 5 sc__law_moor.nd (de_op op_mod ol_mod (de_toInt T.int (da_cons (de_op op_pow ol_pow (de_op opr_add ol_add (de_op opr_add ol_add (de_op op_mod ol_mod (de_toInt T.int (da_cons (de_var 4) da_nil)) de_int) (de_op opr_mul ol_mul de_int (de_var 3))) de_int) de_int) da_nil)) de_int))
      (dss_cons (ds_set 5 sc__law_moor.nd (de_op op_mod ol_mod (de_toInt T.int (da_cons (de_op op_pow ol_pow (de_op opr_add ol_add (de_op opr_add ol_add (de_op opr_mul ol_mul (de_var 5) (de_op opr_add ol_add (de_op opr_mul ol_mul de_int (de_var 3)) de_int)) (de_op opr_mul ol_mul (de_op opr_mul ol_mul de_int (de_var 3)) (de_var 3))) de_int) de_int) da_nil)) de_int))
      (dss_one (ds_ret (de_op op_mod ol_mod (de_toInt T.int (da_cons (de_op op_fdiv ol_fdiv (de_var 5) de_int) da_nil)) (de_var 1)))))))))))), fun ds m P EX h => ?_⟩
  unfold sp__law_moor at h
  split at h
  · obtain ⟨t, ⟨cs, t0, r, hm, h0, h1⟩, ht, hn, hn2, h⟩ := h
    rename_i p n
    refine seq_gen fun R hR => ?_
    walk_at "dl"
    simp only [hm]
    walk_at "dl"
    by_cases hr0 : 0 < r
    · simp only [hr0, decide_true, if_true]
      walk_at "dl"
      refine ⟨⟨hn, by omega⟩, ?_⟩
      simp only [hm, ix32]
      walk_at "dl"
      exact ⟨hn, h _ _ (Int.emod_nonneg _ (by omega)) (Int.emod_lt_of_pos _ hn) ⟨cs, t0, _, mup_same, h0, by omega⟩⟩
    · simp only [hr0, decide_false, if_false, Bool.false_eq_true]
      subst hR
      refine seq_gen fun R hR => ?_
      walk_at "dl"
      simp only [hm]
      walk_at "dl"
      subst hR
      refine seq_gen fun R hR => ?_
      walk_at "dl"
      simp only [hm]
      walk_at "dl"
      simp only [ix31]
      walk_at "dl"
      subst hR
      refine seq_gen fun R hR => ?_
      walk_at "dl"
      refine ⟨.inl ⟨by decide, by decide⟩, ?_⟩
      subst hR
      have hpi : ∀ (v : Int) (r' : Int) (m' : Mh), 0 ≤ v → v < n → m' = mup m p (.ls [.lst (cs.map D.int), .int (t0 + 1), .int r']) → P (.int v) m' := fun v r' m' a b c => h v m' a b ⟨cs, t0 + 1, r', by rw [c]; exact mup_same, by omega, by omega⟩
      refine seq_gen fun R hR => ?_
      walk_at "dl"
      suffices key : ∀ c : Int, R { s := [.im (.ptr p), .im (.int n), .un, .im (.int t0), .im (.int c), .un], m := mup m p (.ls [.lst (cs.map D.int), .int (t0 + 1), .int r]) } { nx := fun δ => P D.non δ.m, rt := fun d δ => P d δ.m, bk := fun x => False, ct := fun x => False, ex := fun er δ => EX er δ.m } by
        refine ⟨Nat.zero_le _, ints_ok cs, ints_ok [], ?_⟩
        split
        · rename_i hne
          have hc : cs ≠ [] := fun z => by subst z; rw [show (D.lst (List.map D.int [])).eqv (D.lst []) = true from eqv_self (ints_ok [])] at hne; exact absurd hne (by decide)
          have hl : 0 < cs.length := List.length_pos_iff.mpr hc
          have hl2 : (0 : Int) < ((cs.map D.int).length : Int) := by rw [List.length_map]; omega
          obtain ⟨c, hc2⟩ := atI_int (cs := cs) (i := t0 % ((cs.map D.int).length : Int)) (Int.emod_nonneg _ (by omega)) (Int.emod_lt_of_pos _ hl2)
          refine ⟨hl2, ?_⟩
          rw [hc2]
          exact key c
        · exact key _
      intro c
      subst hR
      refine seq_gen fun R hR => ?_
      walk_at "dl"
      have hpow : CPow 10 18 := ⟨by decide, by decide, by decide⟩
      suffices key2 : R { s := [.im (.ptr p), .im (.int n), .un, .im (.int t0), .im (.int c), .un], m := mup m p (.ls [.lst (cs.map D.int), .int (t0 + 1), .int r]) } { nx := fun δ => P D.non δ.m, rt := fun d δ => P d δ.m, bk := fun x => False, ct := fun x => False, ex := fun er δ => EX er δ.m } by
        refine ite_of (fun _ => ⟨hpow, ite_of (fun _ => ⟨hpow, .inl ⟨by decide, by decide⟩, ⟨hn, by omega⟩, ?_⟩) fun _ => key2⟩) fun _ => key2
        rw [ix32]
        exact ⟨hn, hpi _ _ _ (Int.emod_nonneg _ (by omega)) (Int.emod_lt_of_pos _ hn) rfl⟩
      subst hR
      refine seq_gen fun R hR => ?_
      walk_at "dl"
      have u1 : 0 ≤ c % 2147483587 := Int.emod_nonneg _ (by decide)
      have u2 : c % 2147483587 < 2147483587 := Int.emod_lt_of_pos _ (by decide)
      refine ⟨by decide, .inl ⟨by decide, by decide⟩, ⟨by decide, by decide, by omega⟩, by decide, ?_⟩
      generalize hz : (c % 2147483587 + 63421 * t0 + 4783) ^ Int.toNat 5 % 2147483543 = z
      have u3 : 0 ≤ z := by rw [← hz]; exact Int.emod_nonneg _ (by decide)
      have u4 : z < 2147483543 := by rw [← hz]; exact Int.emod_lt_of_pos _ (by decide)
      subst hR
      refine seq_gen fun R hR => ?_
      walk_at "dl"
      have v1 : 0 ≤ t0 * t0 := Int.mul_nonneg h0 h0
      have v2 : t0 * t0 ≤ 1000000 * 1000000 := Int.mul_le_mul (by omega) (by omega) h0 (by decide)
      have v3 : 94253 * t0 * t0 = 94253 * (t0 * t0) := Int.mul_assoc _ _ _
      have v4 : 0 ≤ z * (2 * t0 + 5021) := Int.mul_nonneg u3 (by omega)
      have v5 : z * (2 * t0 + 5021) ≤ 2147483543 * 2005021 := Int.mul_le_mul (by omega) (by omega) (by omega) (by decide)
      refine ⟨.inl ⟨by decide, by decide⟩, .inl ⟨by omega, by omega⟩, .inl ⟨by decide, by decide⟩, .inr ⟨by omega, by omega⟩, ⟨by decide, by decide, by omega⟩, by decide, ?_⟩
      subst hR
      walk_at "dl"
      exact ⟨⟨by decide, by decide⟩, hn, hpi _ _ _ (Int.emod_nonneg _ (by omega)) (Int.emod_lt_of_pos _ hn) rfl⟩
  · exact h.elim
abbrev s__law_pick : Stmt := topS 48
theorem sc__law_pick : FnScope ["_law_pier_here", "_law_some"] ["_law_pier_here", "_law_some"] (defScope s__law_pick) := ⟨rfl, rfl, rfl, by decide +kernel, rfl, by decide +kernel, by decide +kernel⟩
def sp__law_pick : Fsp
  | [.ptr p, .lst l], m, P, _ => ∃ t, Pier m p t ∧ t < 1000000 ∧ 0 < l.length ∧ l.length < 1000000 ∧ ∀ d ∈ l, ∀ m', Pier m' p (t + 1) → P d m'
  | _, _, _, _ => False
def Q__law_pick (P : Program) (w : World) (K : PySem.W.Frag) (mg : Str → Option Value) (base : Heap) : Prop := Ok P w K mg base 2 "_law_pick" [] sp__law_pick
theorem ok__law_pick {f : Addr} {fd : FuncData} (F : L2.Fun K "_law_pick" "_law_pick" s__law_pick f fd) (T : Txt K mg) (G__law_moor : Q__law_moor P w K mg base) : FnQ P w K mg base (L2.CX P w) 2 f fd ["_law_pier_here", "_law_some"] (spD K sp__law_pick) := by
  refine okD F sc__law_pick (fun ds m P EX h => by unfold sp__law_pick at h; split at h <;> first | rfl | exact h.elim) fun cdv A outer s H E hr gd tk po => ⟨_, _,
    (dss_one (ds_ret (de_ixN 1 (de_call G__law_moor (hr.mono (j := 1) (by decide)) gd tk (fun _ => .nil) (da_cons (de_var 0) (da_cons (de_lenN 1 T.len) da_nil)))))), fun ds m P EX h => ?_⟩
  unfold sp__law_pick at h
  split at h
  · obtain ⟨t, hp, ht, hl, hl2, h⟩ := h
    rename_i p l
    walk_at "dl"
    simp only [sp__law_moor]
    refine ⟨t, hp, ht, by omega, by omega, fun v m' v0 v1 hp' => ?_⟩
    obtain ⟨k, rfl⟩ := Int.eq_ofNat_of_zero_le v0
    have hk : k < l.length := by omega
    rw [d_ixL, show atI l (k : Int) = l[k]? from atI_nat hk, List.getElem?_eq_getElem hk]
    exact h _ (List.getElem_mem hk) m' hp'
  · exact h.elim
abbrev s__law_image : Stmt := topS 50
theorem sc__law_image : FnScope ["_law_ends", "_law_deeds_here", "_law_found", "_law_now", "_law_word", "_law_gap"] ["_law_ends", "_law_deeds_here"] (defScope s__law_image) := ⟨rfl, rfl, rfl, by decide +kernel, rfl, by decide +kernel, by decide +kernel⟩
def sp__law_image : Fsp
  | [.int e, .lst l], m, P, _ => ∃ ds f, l = List.map dd ds ∧ ev e ∧ toldOk ds ∧ run e ds = some f ∧ P (.lst ((imgs e ds).map dd)) m
  | _, _, _, _ => False
def Q__law_image (P : Program) (w : World) (K : PySem.W.Frag) (mg : Str → Option Value) (base : Heap) : Prop := Ok P w K mg base 1 "_law_image" [] sp__law_image
theorem ok__law_image {f : Addr} {fd : FuncData} (F : L2.Fun K "_law_image" "_law_image" s__law_image f fd) (T : Txt K mg)  : FnQ P w K mg base (L2.CX P w) 1 f fd ["_law_ends", "_law_deeds_here"] (spD K sp__law_image) := by
  refine okD F sc__law_image (fun ds m P EX h => by unfold sp__law_image at h; split at h <;> first | rfl | exact h.elim) fun cdv A outer s H E hr gd tk po => ⟨_, _,
    (dss_cons (ds_parL 2 3 sc__law_image.nd (de_var 0) rfl)
      (dss_cons (ds_for (di_seq (de_var 1)) (dg_tup (n := 2) (dgs_cons (dg_name 4 sc__law_image.nd) (dgs_cons (dg_name 5 sc__law_image.nd) dgs_nil))) (dss_one (ds_if (dt_cmp (opr_eq hr.units) ol_eq (de_var 4) de_str) (dss_cons (ds_append 2 (de_tup (da_cons de_str (da_cons (de_op op_sub ol_sub (de_var 5) de_int) da_nil))))
      (dss_one (ds_set 3 sc__law_image.nd (de_op op_sub ol_sub (de_var 3) de_int)))) (dss_one (ds_if (dt_cmp (opr_eq hr.units) ol_eq (de_var 4) de_str) (dss_cons (ds_append 2 (de_tup (da_cons de_str (da_cons (de_op opr_add ol_add (de_var 5) de_int) da_nil))))
      (dss_one (ds_set 3 sc__law_image.nd (de_op opr_add ol_add (de_var 3) de_int)))) (dss_one (ds_if (dt_cmp (opr_eq hr.units) ol_eq (de_var 4) de_str) (dss_one (ds_append 2 (de_tup (da_cons de_str (da_cons (de_if (dt_cmp op_gt ol_b2 (de_var 5) de_int) (de_op op_sub ol_sub (de_var 3) (de_var 5)) de_int) da_nil))))) (dss_one (ds_append 2 (de_tup (da_cons (de_if (dt_cmp (opr_eq hr.units) ol_eq (de_var 4) de_str) de_str de_str) (da_cons (de_var 5) da_nil))))))))))) po)
      (dss_one (ds_ret (de_f (df_rev (de_var 2))))))), fun ds m P EX h => ?_⟩
  unfold sp__law_image at h
  split at h
  · obtain ⟨ds, f, rfl, hv, ht, hr1, h⟩ := h
    rename_i e0
    walk_at "dl"
    have hz : (4000 : Nat) ≤ sizeLine := by decide
    refine for_map (enc := dd) (fun xs δ => ∃ e acc s4 s5, ev e ∧ (∀ x ∈ xs, okDeed x = true) ∧ run e xs = some f ∧ acc ++ (told e xs).map (fun p => dd (img p.1 p.2)) = (told e0 ds).map (fun p => dd (img p.1 p.2)) ∧ δ = ⟨[.im (.int e0), .im (.lst (ds.map dd)), .ow acc, .im (.int e), s4, s5], m⟩) (fun x xs δ N hI hN => ?_) (fun δ hI => ?_) ⟨e0, [], _, _, hv, ht.2, hr1, rfl, rfl⟩
    · obtain ⟨e, acc, s4, s5, hv, hd, h1, h2, rfl⟩ := hI
      have hlen := congrArg List.length h2
      simp only [List.length_append, List.length_map, told, List.length_zip, sizes_len, Nat.min_self, List.length_cons] at hlen
      have hlen2 : acc.length < sizeLine := by have := ht.1; omega
      unfold run at h1
      split at h1
      · rename_i c
        obtain ⟨a1, a2, a3, a4, a5, a6, a7, a8⟩ := img_facts hv (hd x List.mem_cons_self) c.1 c.2
        have key : ∀ s4 s5, N ⟨[.im (.int e0), .im (.lst (ds.map dd)), .ow (acc ++ [dd (img x e)]), .im (.int (then_ e x.1)), s4, s5], m⟩ := fun s4 s5 => hN _ ⟨_, _, s4, s5, a5, fun z hz => hd z (List.mem_cons_of_mem _ hz), h1, by rw [← h2, List.append_assoc]; rfl, rfl⟩
        obtain ⟨w, g⟩ := x
        simp only [dd]
        walk_at "dl"
        simp only [img, then_, dd] at key
        simp only at a8
        by_cases c1 : w = "join"
        · simp only [c1, n_join_turn, decide_true, if_true, if_false] at key ⊢
          simp only [sAppend]
          walk_at "dl"
          exact ⟨by decide, hlen2, key _ _⟩
        · by_cases c2 : w = "open"
          · simp only [c1, c2, n_open_turn, n_open_join, decide_true, decide_false, if_true, if_false, Bool.false_eq_true] at key ⊢
            simp only [sAppend]
            walk_at "dl"
            exact ⟨by decide, hlen2, key _ _⟩
          · by_cases c3 : w = "turn"
            · simp only [c1, c2, c3, n_turn_open, n_turn_join, decide_true, decide_false, if_true, if_false, Bool.false_eq_true] at key ⊢
              simp only [sAppend]
              walk_at "dl"
              simp only [a8 c3] at key
              by_cases g0 : 0 < g
              · simp only [g0, gt_iff_lt, decide_true, if_true] at key ⊢
                exact ⟨by decide, hlen2, key _ _⟩
              · simp only [g0, gt_iff_lt, decide_false, if_false, Bool.false_eq_true] at key ⊢
                exact ⟨by decide, hlen2, key _ _⟩
            · simp only [c1, c2, c3, decide_false, if_false, Bool.false_eq_true] at key ⊢
              simp only [sAppend]
              walk_at "dl"
              by_cases c4 : w = "over"
              · simp only [c4, decide_true, if_true] at key ⊢
                exact ⟨by decide, hlen2, key _ _⟩
              · simp only [c4, decide_false, if_false, Bool.false_eq_true] at key ⊢
                exact ⟨by decide, hlen2, key _ _⟩
      · cases h1
    · obtain ⟨e, acc, s4, s5, hv, hd, h1, h2, rfl⟩ := hI
      walk_at "dl"
      have h3 : acc.reverse = (imgs e0 ds).map dd := by
        have h4 : acc = (told e0 ds).map (fun p => dd (img p.1 p.2)) := by rw [← h2]; exact (List.append_nil _).symm
        rw [h4, ← List.map_reverse]
        unfold imgs
        rw [List.map_map]
        rfl
      rw [h3]
      exact h
  · exact h.elim
/-- deeds of the law's, behind which so many ends are left -/
def laid (e : Int) (ds : List Deed) (f : Int) : Prop := (∀ x ∈ ds, okDeed x = true) ∧ run e ds = some f
theorem laid_nil {e : Int} : laid e [] e := ⟨fun _ h => absurd h List.not_mem_nil, rfl⟩
theorem laid_add {e f : Int} {ds : List Deed} {x : Deed} (h : laid e ds f) (hv : ev f) (hd : okDeed x = true) (hf : fits f x.1 x.2 = true) (ho : ¬ (x.1 = "open" ∧ f = 24)) : laid e (ds ++ [x]) (then_ f x.1) ∧ ev (then_ f x.1) := by
  refine ⟨⟨fun z hz => ?_, ?_⟩, (img_facts hv hd hf ho).2.2.2.2.1⟩
  · rcases List.mem_append.mp hz with hz | hz
    · exact h.1 z hz
    · cases List.mem_singleton.mp hz; exact hd
  · rw [run_app h.2]
    unfold run
    rw [if_pos ⟨hf, ho⟩]
    rfl
theorem okd {z : Str} {i : Int} (hz : z = "over" ∨ z = "under" ∨ z = "join" ∨ z = "open" ∨ z = "turn") (h0 : 0 ≤ i) (h1 : i ≤ 23) : okDeed (z, i) = true := by
  have hc : words.contains z = true := List.contains_iff_mem.mpr (by simpa [words] using hz)
  simp only [okDeed, hc, h0, h1, decide_true, Bool.and_true]
theorem laid_open {e f g : Int} {ds : List Deed} (h : laid e ds f) (hv : ev f) (h0 : 0 ≤ g) (h1 : g < (if f > 1 then f else 1)) (h2 : f ≤ 22) : laid e (ds ++ [((("open" : Str), g) : Deed)]) (f + 2) ∧ ev (f + 2) := by
  have a := laid_add (x := ("open", g)) h hv (okd (.inr (.inr (.inr (.inl rfl)))) h0 (by split at h1 <;> omega)) (by simp only [fits, n_open_join, if_true, if_false]; exact decide_eq_true h1) (fun z => by have := z.2; omega)
  simpa only [then_, n_open_join, if_true, if_false] using a
theorem laid_join {e f g : Int} {ds : List Deed} (h : laid e ds f) (hv : ev f) (h0 : 1 ≤ g) (h1 : if f = 2 then g = 1 else g ≤ f - 2) (h2 : 2 ≤ f) : laid e (ds ++ [((("join" : Str), g) : Deed)]) (f - 2) ∧ ev (f - 2) := by
  have hv1 := hv.2.1
  have a := laid_add (x := ("join", g)) h hv (okd (.inr (.inr (.inl rfl))) (by omega) (by split at h1 <;> omega)) (by
    simp only [fits, if_true]
    split at h1
    · rename_i z; simp only [z, if_true, h1]; rfl
    · rename_i z; simp only [z, if_false, h0, h1, decide_true]; rfl) (fun z => n_join_open.mp z.1)
  simpa only [then_, if_true] using a
theorem laid_else {e f g : Int} {z : Str} {ds : List Deed} (h : laid e ds f) (hv : ev f) (hz : z = "over" ∨ z = "under" ∨ z = "turn") (h0 : 0 ≤ g) (h1 : g < f) : laid e (ds ++ [(z, g)]) f := by
  have hv1 := hv.2.1
  have q1 : (z = "join") = False := eq_false fun y => by subst y; rcases hz with hz | hz | hz <;> exact absurd hz (by decide)
  have q2 : (z = "open") = False := eq_false fun y => by subst y; rcases hz with hz | hz | hz <;> exact absurd hz (by decide)
  have a := (laid_add (x := (z, g)) h hv (okd (by rcases hz with hz | hz | hz; exact .inl hz; exact .inr (.inl hz); exact .inr (.inr (.inr (.inr hz)))) h0 (by omega)) (by simp only [fits, q1, q2, if_false]; exact decide_eq_true h1) (fun y => q2.mp y.1)).1
  simpa only [then_, q1, q2, if_false] using a
abbrev s__law_deeds : Stmt := topS 49
theorem sc__law_deeds : FnScope ["_law_pier_here", "_law_ends", "_law_many", "_law_most", "_law_found", "_law_now", "_law_turn", "_law_way"] ["_law_pier_here", "_law_ends", "_law_many", "_law_most"] (defScope s__law_deeds) := ⟨rfl, rfl, rfl, by decide +kernel, rfl, by decide +kernel, by decide +kernel⟩
def sp__law_deeds : Fsp
  | [.ptr p, .int e, .int n, .int b], m, P, _ => ∃ t, Pier m p t ∧ t < 900000 ∧ ev e ∧ e ≤ 16 ∧ 0 ≤ n ∧ n ≤ 20 ∧ b ≤ 16 ∧ ∀ ds m', laid e ds 0 → ds.length ≤ 60 → Pier m' p (t + 200) → P (.lst (ds.map dd)) m'
  | _, _, _, _ => False
def Q__law_deeds (P : Program) (w : World) (K : PySem.W.Frag) (mg : Str → Option Value) (base : Heap) : Prop := Ok P w K mg base 3 "_law_deeds" [] sp__law_deeds
theorem ok__law_deeds {f : Addr} {fd : FuncData} (F : L2.Fun K "_law_deeds" "_law_deeds" s__law_deeds f fd) (T : Txt K mg) (G__law_moor : Q__law_moor P w K mg base) (G__law_pick : Q__law_pick P w K mg base) : FnQ P w K mg base (L2.CX P w) 3 f fd ["_law_pier_here", "_law_ends", "_law_many", "_law_most"] (spD K sp__law_deeds) := by
  refine okD F sc__law_deeds (fun ds m P EX h => by unfold sp__law_deeds at h; split at h <;> first | rfl | exact h.elim) fun cdv A outer s H E hr gd tk po => ⟨_, _,
    (dss_cons (ds_parL 4 5 sc__law_deeds.nd (de_var 1) rfl)
      (dss_cons (ds_for (di_range1 T.range (da_cons (de_var 2) da_nil)) (dg_name 6 sc__law_deeds.nd) (dss_cons (ds_set 7 sc__law_deeds.nd (de_call G__law_moor (hr.mono (j := 1) (by decide)) gd tk (fun _ => .nil) (da_cons (de_var 0) (da_cons de_int da_nil))))
      (dss_one (ds_if (dt_w (dw_or (dt_cmp (opr_eq hr.units) ol_eq (de_var 5) de_int) (dw_or1 (dt_w (dw_and (dt_cmp (opr_eq hr.units) ol_eq (de_var 7) de_int) (dw_and1 (dt_cmp op_lt ol_b2 (de_var 5) (de_var 3)))))))) (dss_cons (ds_append 4 (de_tup (da_cons de_str (da_cons (de_call G__law_moor (hr.mono (j := 1) (by decide)) gd tk (fun _ => .nil) (da_cons (de_var 0) (da_cons (de_max2 T.max (da_cons de_int (da_cons (de_var 5) da_nil))) da_nil))) da_nil))))
      (dss_one (ds_set 5 sc__law_deeds.nd (de_op opr_add ol_add (de_var 5) de_int)))) (dss_one (ds_if (dt_cmp (opr_eq hr.units) ol_eq (de_var 7) de_int) (dss_cons (ds_append 4 (de_tup (da_cons de_str (da_cons (de_if (dt_cmp (opr_eq hr.units) ol_eq (de_var 5) de_int) de_int (de_op opr_add ol_add de_int (de_call G__law_moor (hr.mono (j := 1) (by decide)) gd tk (fun _ => .nil) (da_cons (de_var 0) (da_cons (de_op op_sub ol_sub (de_var 5) de_int) da_nil))))) da_nil))))
      (dss_one (ds_set 5 sc__law_deeds.nd (de_op op_sub ol_sub (de_var 5) de_int)))) (dss_one (ds_append 4 (de_tup (da_cons (de_call G__law_pick (hr.mono (j := 2) (by decide)) gd tk (fun _ => .nil) (da_cons (de_var 0) (da_cons (de_f (df_lst (da_cons de_str (da_cons de_str (da_cons de_str (da_cons de_str (da_cons de_str da_nil))))))) da_nil))) (da_cons (de_call G__law_moor (hr.mono (j := 1) (by decide)) gd tk (fun _ => .nil) (da_cons (de_var 0) (da_cons (de_var 5) da_nil))) da_nil)))))))))) po)
      (dss_cons (ds_while (dt_cmp op_gt ol_b2 (de_var 5) de_int) (dss_cons (ds_if (dt_cmp (opr_eq hr.units) ol_eq (de_call G__law_moor (hr.mono (j := 1) (by decide)) gd tk (fun _ => .nil) (da_cons (de_var 0) (da_cons de_int da_nil))) de_int) (dss_one (ds_append 4 (de_tup (da_cons (de_call G__law_pick (hr.mono (j := 2) (by decide)) gd tk (fun _ => .nil) (da_cons (de_var 0) (da_cons (de_f (df_lst (da_cons de_str (da_cons de_str da_nil)))) da_nil))) (da_cons (de_call G__law_moor (hr.mono (j := 1) (by decide)) gd tk (fun _ => .nil) (da_cons (de_var 0) (da_cons (de_var 5) da_nil))) da_nil))))) dss_nil)
      (dss_cons (ds_append 4 (de_tup (da_cons de_str (da_cons (de_if (dt_cmp (opr_eq hr.units) ol_eq (de_var 5) de_int) de_int (de_op opr_add ol_add de_int (de_call G__law_moor (hr.mono (j := 1) (by decide)) gd tk (fun _ => .nil) (da_cons (de_var 0) (da_cons (de_op op_sub ol_sub (de_var 5) de_int) da_nil))))) da_nil))))
      (dss_one (ds_set 5 sc__law_deeds.nd (de_op op_sub ol_sub (de_var 5) de_int))))) po)
      (dss_one (ds_ret (de_var 4)))))), fun ds m P EX h => ?_⟩
  unfold sp__law_deeds at h
  split at h
  · obtain ⟨t, hp, ht, hv, he, hn, hn2, hb, h⟩ := h
    rename_i p e n b
    refine seq_gen fun R hR => ?_
    walk_at "dl"
    subst hR
    refine seq_gen fun R hR => ?_
    walk_at "dl"
    simp only [sRange]
    walk_at "dl"
    have hz : (4000 : Nat) ≤ sizeLine := by decide
    refine ⟨by omega, by omega, ?_⟩
    unfold rangeD
    refine for_map (enc := fun i : Nat => D.int (0 + (i : Int))) (fun xs δ => ∃ (ds : List Deed) (f : Int) (m' : Mh) (k : Nat) (s6 s7 : SD), Pier m' p (t + 3 * (k : Int)) ∧ k + xs.length = n.toNat ∧ laid e ds f ∧ ev f ∧ f ≤ 16 ∧ ds.length = k ∧ δ = ⟨[.im (.ptr p), .im (.int e), .im (.int n), .im (.int b), .ow (ds.map dd), .im (.int f), s6, s7], m'⟩) (fun x xs δ N hI hN => ?_) (fun δ hI => ?_) ⟨[], e, m, 0, _, _, hp.up (by omega), by rw [List.length_range]; omega, laid_nil, hv, he, rfl, rfl⟩
    · obtain ⟨ds, f, m', k, s6, s7, hp, hk, hl, hv, hf, hd, rfl⟩ := hI
      rw [List.length_cons] at hk
      walk_at "dl"
      simp only [sp__law_moor]
      refine ⟨_, hp, by omega, by decide, by decide, fun v m1 v0 v1 hp1 => ?_⟩
      have hds : (ds.map dd).length < sizeLine := by rw [List.length_map]; omega
      have fin : ∀ (x : Deed) (f' : Int) (s6 s7 : SD) (m2 : Mh), laid e (ds ++ [x]) f' → ev f' → f' ≤ 16 → Pier m2 p (t + 3 * ((k + 1 : Nat) : Int)) → N ⟨[.im (.ptr p), .im (.int e), .im (.int n), .im (.int b), .ow (ds.map dd ++ [dd x]), .im (.int f'), s6, s7], m2⟩ := fun x f' s6 s7 m2 q1 q2 q3 q4 => hN _ ⟨ds ++ [x], f', m2, k + 1, s6, s7, q4, by omega, q1, q2, q3, by rw [List.length_append, hd]; rfl, by rw [List.map_append]; rfl⟩
      obtain ⟨w0, w1, w2⟩ := id hv
      walk_at "dl"
      by_cases hop : f = 0 ∨ (f ≠ 0 ∧ v = 0 ∧ f < b)
      · rcases hop with f0 | ⟨f0, ve, fb⟩
        · rw [if_pos (decide_eq_true f0)]
          simp only [sAppend]
          walk_at "dl"
          simp only [sp__law_moor]
          refine ⟨_, hp1, by omega, ?_, ?_, fun g m2 g0 g1 hp2 => ?_⟩
          · split <;> omega
          · split <;> omega
          · have q := laid_open hl hv g0 g1 (by omega)
            exact ⟨by decide, hds, fin _ _ _ _ _ q.1 q.2 (by omega) (hp2.up (by omega))⟩
        · rw [if_neg (fun z => f0 (of_decide_eq_true z)), if_pos (decide_eq_true ve), if_pos (decide_eq_true fb)]
          simp only [sAppend]
          walk_at "dl"
          simp only [sp__law_moor]
          refine ⟨_, hp1, by omega, ?_, ?_, fun g m2 g0 g1 hp2 => ?_⟩
          · split <;> omega
          · split <;> omega
          · have q := laid_open hl hv g0 g1 (by omega)
            exact ⟨by decide, hds, fin _ _ _ _ _ q.1 q.2 (by omega) (hp2.up (by omega))⟩
      · have n0 : ¬ f = 0 := fun z => hop (.inl z)
        have n1 : v = 0 → ¬ f < b := fun z y => hop (.inr ⟨n0, z, y⟩)
        rw [if_neg (fun z => n0 (of_decide_eq_true z))]
        by_cases v1' : v = 1
        · rw [if_neg (fun z => by have := of_decide_eq_true z; omega), if_pos (decide_eq_true v1')]
          simp only [sAppend]
          walk_at "dl"
          by_cases f2 : f = 2
          · rw [if_pos (decide_eq_true f2)]
            have q := laid_join (g := 1) hl hv (by decide) (by rw [if_pos f2]) (by omega)
            exact ⟨by decide, hds, fin _ _ _ _ _ q.1 q.2 (by omega) (hp1.up (by omega))⟩
          · rw [if_neg (fun z => f2 (of_decide_eq_true z))]
            simp only [sp__law_moor]
            refine ⟨_, hp1, by omega, by omega, by omega, fun g m2 g0 g1 hp2 => ?_⟩
            walk_at "dl"
            have q := laid_join (g := 1 + g) hl hv (by omega) (by rw [if_neg f2]; omega) (by omega)
            exact ⟨by decide, hds, fin _ _ _ _ _ q.1 q.2 (by omega) (hp2.up (by omega))⟩
        · rw [if_neg (fun z => v1' (of_decide_eq_true z))]
          refine ite_of (fun z => ?_) fun _ => ?_
          rw [if_neg (fun y => n1 (of_decide_eq_true z) (of_decide_eq_true y))]
          all_goals
            simp only [sAppend]
            walk_at "dl"
            simp only [sp__law_pick]
            refine ⟨by decide, _, hp1, by omega, by decide, by decide, fun d hd2 m2 hp2 => ?_⟩
            obtain ⟨z, rfl, hz3⟩ := pick_deed (by simp only [List.mem_cons, List.not_mem_nil, or_false] at hd2; rcases hd2 with q | q | q | q | q; exact .inl q; exact .inr (.inl q); exact .inl q; exact .inr (.inl q); exact .inr (.inr q))
            walk_at "dl"
            simp only [sp__law_moor]
            refine ⟨_, hp2, by omega, by omega, by omega, fun g m3 g0 g1 hp3 => ?_⟩
            exact ⟨by decide, hds, fin (z, g) f _ _ _ (laid_else hl hv hz3 g0 g1) hv hf (hp3.up (by omega))⟩
    · obtain ⟨ds, f, m', k, s6, s7, hp, hk, hl, hv, hf, hd, rfl⟩ := hI
      walk_at "dl"
      subst hR
      refine seq_gen fun R hR => ?_
      walk_at "dl"
      simp only [List.length_nil] at hk
      refine ⟨8 + 1, while_ind (fun j δ => ∃ (ds : List Deed) (m' : Mh) (t1 : Int), laid e ds (2 * (j : Int)) ∧ j ≤ 8 ∧ Pier m' p t1 ∧ t1 + 4 * (j : Int) ≤ t + 100 ∧ ds.length + 2 * j ≤ 36 ∧ δ = ⟨[.im (.ptr p), .im (.int e), .im (.int n), .im (.int b), .ow (ds.map dd), .im (.int (2 * (j : Int))), s6, s7], m'⟩) (fun j δ N hI hN => ?_) 8 (f / 2).toNat _ (by omega) ⟨ds, m', t + 60, ?_, by have := hv.1; omega, hp.up (by omega), by omega, by have := hv.1; omega, ?_⟩⟩
      · obtain ⟨ds, m', t1, hl, hj, hp, ht1, hd, rfl⟩ := hI
        have hvj : ev (2 * (j : Int)) := ⟨by omega, by omega, by omega⟩
        have fin : ∀ (l : List Deed) (x : Deed) (m3 : Mh) (t3 : Int), laid e (l ++ [x]) (2 * (j : Int) - 2) → l.length ≤ ds.length + 1 → 0 < j → Pier m3 p t3 → t3 ≤ t1 + 4 → N ⟨[.im (.ptr p), .im (.int e), .im (.int n), .im (.int b), .ow (l.map dd ++ [dd x]), .im (.int (2 * (j : Int) - 2)), s6, s7], m3⟩ := fun l x m3 t3 q1 q2 q3 q4 q5 => by
          have e3 : 2 * (j : Int) - 2 = 2 * ((j - 1 : Nat) : Int) := by omega
          rw [e3] at q1 ⊢
          exact hN _ (j - 1) (by omega) ⟨l ++ [x], m3, t3, q1, by omega, q4, by omega, by rw [List.length_append, List.length_singleton]; omega, by rw [List.map_append]; rfl⟩
        walk_at "dl"
        by_cases j0 : 0 < 2 * (j : Int)
        · rw [if_pos (decide_eq_true j0)]
          simp only [sp__law_moor]
          refine ⟨_, hp, by omega, by decide, by decide, fun v m1 v0 v1 hp1 => ?_⟩
          walk_at "dl"
          refine ite_of (fun _ => ?_) fun _ => ?_
          · simp only [sAppend]
            walk_at "dl"
            simp only [sp__law_pick]
            refine ⟨by decide, _, hp1, by omega, by decide, by decide, fun d hd2 m2 hp2 => ?_⟩
            obtain ⟨z, rfl, hz3⟩ := pick_deed (by simp only [List.mem_cons, List.not_mem_nil, or_false] at hd2; rcases hd2 with q | q; exact .inl q; exact .inr (.inl q))
            walk_at "dl"
            simp only [sp__law_moor]
            refine ⟨_, hp2, by omega, by omega, by omega, fun g m3 g0 g1 hp3 => ?_⟩
            have hl' := laid_else hl hvj hz3 g0 g1
            refine ⟨by decide, by rw [List.length_map]; omega, ?_⟩
            rw [show List.map dd ds ++ [D.tup [D.str z, D.int g]] = (ds ++ [(z, g)]).map dd by rw [List.map_append]; rfl]
            have hd' : (ds ++ [(z, g)]).length ≤ ds.length + 1 := by rw [List.length_append]; exact Nat.le_refl _
            generalize ds ++ [(z, g)] = l at hl' hd' ⊢
            by_cases f2 : 2 * (j : Int) = 2
            · rw [if_pos (decide_eq_true f2)]
              have q := laid_join (g := 1) hl' hvj (by decide) (by rw [if_pos f2]) (by omega)
              exact ⟨by decide, by rw [List.length_map]; omega, fin l _ _ _ q.1 hd' (by omega) hp3 (by omega)⟩
            · rw [if_neg (fun z => f2 (of_decide_eq_true z))]
              try simp only [sp__law_moor]
              refine ⟨_, hp3, by omega, by omega, by omega, fun g m4 g0 g1 hp4 => ?_⟩
              walk_at "dl"
              have q := laid_join (g := 1 + g) hl' hvj (by omega) (by rw [if_neg f2]; omega) (by omega)
              exact ⟨by decide, by rw [List.length_map]; omega, fin l _ _ _ q.1 hd' (by omega) hp4 (by omega)⟩
          · simp only [sAppend]
            walk_at "dl"
            have hl' := hl
            have hd' : ds.length ≤ ds.length + 1 := by omega
            by_cases f2 : 2 * (j : Int) = 2
            · rw [if_pos (decide_eq_true f2)]
              have q := laid_join (g := 1) hl' hvj (by decide) (by rw [if_pos f2]) (by omega)
              exact ⟨by decide, by rw [List.length_map]; omega, fin ds _ _ _ q.1 hd' (by omega) hp1 (by omega)⟩
            · rw [if_neg (fun z => f2 (of_decide_eq_true z))]
              simp only [sp__law_moor]
              refine ⟨_, hp1, by omega, by omega, by omega, fun g m4 g0 g1 hp4 => ?_⟩
              walk_at "dl"
              have q := laid_join (g := 1 + g) hl' hvj (by omega) (by rw [if_neg f2]; omega) (by omega)
              exact ⟨by decide, by rw [List.length_map]; omega, fin ds _ _ _ q.1 hd' (by omega) hp4 (by omega)⟩
        · rw [if_neg (fun z => j0 (of_decide_eq_true z))]
          have j1 : j = 0 := by omega
          subst j1
          subst hR
          walk_at "dl"
          exact h ds m' hl (by omega) (hp.up (by omega))
      · have e2 : 2 * (((f / 2).toNat : Nat) : Int) = f := by have := hv.1; have := hv.2.2; omega
        rw [e2]; exact hl
      · have e2 : 2 * (((f / 2).toNat : Nat) : Int) = f := by have := hv.1; have := hv.2.2; omega
        rw [e2]
  · exact h.elim

end
end K65
set_option Elab.async false
set_option linter.all false
set_option maxRecDepth 100000
set_option maxHeartbeats 4000000
/-! K65d: the law. -/
namespace K65
open PySem PySem.Spec PyProof.Rows L2 RL
section
variable {P : Program} {w : World} {K : PySem.W.Frag} {mg : Str → Option Value} {base : Heap}
local macro_rules | `(tactic| walk_at "dl") => `(tactic| try simp only [sSeq2, sIf, dB, mOp, mVar, mC, sRet, sRetN, mIf, mChain, sNil, mCB, aCons, aNil, startD, bodyEnds, dNot, dAnd, dOr, mAnd, mOr, mNot, mIsi, dTru, mCall, sRaise, mFld, sExpr, sSet, mTup, mLenN, mIxN, mF, fLst, fComp, dYes, restD, origD, wipeD, List.nil_append, sSetF, sAsg, gN, gSeq, gsCons, gsNil, sFor, sSeq, sFldD, RL.known, mup_same, mup_mup, putD, sParL, sItem, sPar, sPar3, fRev, d_sqL, d_sqT,
    d_asB, d_asI, d_asO, d_b2, d_i2, d_sub, d_add, d_addL, d_mul, d_mulL, d_eqI, d_eqS, d_neI, d_neS, d_eqT, d_eqL, d_neT, d_neL, d_neNT, d_neNN, d_neTN, d_lenL, d_lenT, d_lenR, d_ixL, d_ixT, d_ixR, d_int, d_intB, d_i1, d_i2a, d_tupL, d_tupR, d_tupT, d_neg, d_bls, d_truN, d_truB, d_truI, d_truL, d_truT, d_itL, d_itT, d_itR, d_isNN, d_isNI, d_isNS, d_isNT, d_isNE,
    n_ends_deeds, n_deeds_ends, n_over_under, n_over_join, n_over_open, n_over_turn, n_under_over, n_under_join, n_under_open, n_under_turn, n_join_over, n_join_under, n_join_open, n_join_turn, n_open_over, n_open_under, n_open_join, n_open_turn, n_turn_over, n_turn_under, n_turn_join, n_turn_open, d_isInt_int, d_isInt_bl, d_isInt_non, d_isInt_str, d_isInt_lst, d_isInt_rol, d_isInt_tup, d_isBool_int, d_isBool_bl, d_isBool_non, d_isBool_str, d_isBool_lst, d_isBool_rol, d_isBool_tup, d_isStr_int, d_isStr_bl, d_isStr_non, d_isStr_str, d_isStr_lst, d_isStr_rol, d_isStr_tup, d_isSeq_int, d_isSeq_bl, d_isSeq_non, d_isSeq_str, d_isSeq_lst, d_isSeq_rol, d_isSeq_tup, d_at0, d_at1, d_at2, d_words, reduceCtorEq, if_true, if_false, Bool.not_true, Bool.not_false, Bool.false_eq_true, and_true, true_and, decide_true, decide_false, List.length_singleton,
    List.map_cons, List.map_nil, List.length_cons, List.length_nil, List.replicate, List.append_nil, List.nil_append, List.cons_append, List.getElem?_cons_zero, List.getElem?_cons_succ, Nat.sub_self, List.set_cons_zero, List.set_cons_succ, Nat.add_sub_cancel, Nat.zero_add, Nat.reduceAdd, Nat.reduceSub])

theorem sh_int : ∀ k : Fin 24, (PyData.int (k.val : Int)).showable = true ∧ PyData.leavesShort 13 (.int (k.val : Int)) = true ∧ (PyData.int (k.val : Int)).weight ≤ 5 := by decide +kernel
theorem sh_word {x : Str} (h : words.contains x = true) : PyData.leavesShort 13 (.str x) = true ∧ (PyData.str x).weight ≤ 5 := by
  have h1 : words.all (fun x => PyData.leavesShort 13 (.str x) && decide ((PyData.str x).weight ≤ 5)) = true := by decide +kernel
  have h2 := List.all_eq_true.mp h1 x (List.contains_iff_mem.mp h)
  rw [Bool.and_eq_true, decide_eq_true_eq] at h2
  exact h2
/-- data whose text can be told, of some weight -/
structure Sh (d : D) (w : Nat) : Prop where
  dat : d.dat = true
  sh : d.py.showable = true
  hd : d.py.hasDict = false
  dp : d.py.depth ≤ 4
  ls : d.py.leavesShort 13 = true
  wt : d.py.weight ≤ w
theorem Sh.okR {d : D} {w : Nat} (h : Sh d w) (hw : w ≤ 100000) : d.okR = true := by
  have h1 : d.py.shown.length ≤ sizeLine := PyData.shown_fits (by decide) (by decide) h.ls (Nat.le_trans h.wt (Nat.le_trans hw (by decide)))
  have h2 : d.py.depth < 90 := Nat.lt_of_le_of_lt h.dp (by decide)
  unfold D.okR
  rw [h.dat, h.sh, h.hd, decide_eq_true h2, decide_eq_true h1]
  rfl
theorem sh_deeds : ∀ {ds : List Deed}, (∀ x ∈ ds, okDeed x = true) → datAll (ds.map dd) = true ∧ PyData.showableAll (pyAll (ds.map dd)) = true ∧ PyData.hasDictAll (pyAll (ds.map dd)) = false ∧ PyData.depthAll (pyAll (ds.map dd)) ≤ 1 ∧ PyData.leavesShortAll 13 (pyAll (ds.map dd)) = true ∧ PyData.weightAll (pyAll (ds.map dd)) ≤ 13 * ds.length
  | [], _ => ⟨rfl, rfl, rfl, Nat.zero_le _, rfl, Nat.zero_le _⟩
  | x :: xs, h => by
    obtain ⟨a1, a2, a3, a4, a5, a6⟩ := sh_deeds (ds := xs) fun z hz => h z (List.mem_cons_of_mem _ hz)
    obtain ⟨w, g⟩ := x
    obtain ⟨hw, hg⟩ := Bool.and_eq_true_iff.mp (h (w, g) List.mem_cons_self)
    obtain ⟨g0, g1⟩ := Bool.and_eq_true_iff.mp hg
    replace g0 : 0 ≤ g := of_decide_eq_true g0
    replace g1 : g ≤ 23 := of_decide_eq_true g1
    obtain ⟨k, rfl⟩ := Int.eq_ofNat_of_zero_le g0
    obtain ⟨i1, i2, i3⟩ := sh_int ⟨k, by omega⟩
    obtain ⟨s1, s2⟩ := sh_word hw
    refine ⟨?_, ?_, ?_, ?_, ?_, ?_⟩
    · show (true && datAll (xs.map dd)) = true
      rw [a1]; rfl
    · show ((true && ((PyData.int (k : Int)).showable && true)) && PyData.showableAll (pyAll (xs.map dd))) = true
      rw [a2, i1]; rfl
    · show (false || PyData.hasDictAll (pyAll (xs.map dd))) = false
      rw [a3]; rfl
    · show max (max 0 (max 0 0) + 1) (PyData.depthAll (pyAll (xs.map dd))) ≤ 1
      omega
    · show ((PyData.leavesShort 13 (.str w) && (PyData.leavesShort 13 (.int (k : Int)) && true)) && PyData.leavesShortAll 13 (pyAll (xs.map dd))) = true
      rw [a5, i2, s1]; rfl
    · show (((PyData.str w).weight + 1 + ((PyData.int (k : Int)).weight + 1 + 0)) + 1 + PyData.weightAll (pyAll (xs.map dd))) ≤ 13 * (xs.length + 1)
      have i3' : (PyData.int (k : Int)).weight ≤ 5 := i3
      have s2' : (PyData.str w).weight ≤ 5 := s2
      omega
theorem sh_tup {ds : List Deed} (h : ∀ x ∈ ds, okDeed x = true) : Sh (.tup (ds.map dd)) (13 * ds.length) := by
  obtain ⟨a1, a2, a3, a4, a5, a6⟩ := sh_deeds h
  exact ⟨a1, a2, a3, show PyData.depthAll (pyAll (ds.map dd)) + 1 ≤ 4 by omega, a5, a6⟩
theorem sh_zero : Sh (.int 0) 5 := ⟨rfl, (sh_int 0).1, rfl, Nat.zero_le _, (sh_int 0).2.1, (sh_int 0).2.2⟩
theorem sh_tup3 {ds : List Deed} (h : ∀ x ∈ ds, okDeed x = true) : (D.tup (ds.map dd)).py.depth ≤ 3 := by
  obtain ⟨a1, a2, a3, a4, a5, a6⟩ := sh_deeds h
  show PyData.depthAll (pyAll (ds.map dd)) + 1 ≤ 3
  omega
theorem sh_two {x y : D} {a b : Nat} (h : Sh x a) (h' : Sh y b) (dx : x.py.depth ≤ 3) (dy : y.py.depth ≤ 3) : Sh (.lst [x, y]) (a + b + 2) := by
  refine ⟨?_, ?_, ?_, ?_, ?_, ?_⟩
  · show (x.dat && (y.dat && true)) = true
    rw [h.dat, h'.dat]; rfl
  · show (x.py.showable && (y.py.showable && true)) = true
    rw [h.sh, h'.sh]; rfl
  · show (x.py.hasDict || (y.py.hasDict || false)) = false
    rw [h.hd, h'.hd]; rfl
  · show max x.py.depth (max y.py.depth 0) + 1 ≤ 4
    omega
  · show (x.py.leavesShort 13 && (y.py.leavesShort 13 && true)) = true
    rw [h.ls, h'.ls]; rfl
  · show x.py.weight + 1 + (y.py.weight + 1 + 0) ≤ _
    have := h.wt; have := h'.wt; omega
theorem imgs_app : ∀ {a b : List Deed} {e f : Int}, run e a = some f → imgs e (a ++ b) = imgs f b ++ imgs e a
  | [], b, e, f, h => by cases h; exact (List.append_nil _).symm
  | x :: a, b, e, f, h => by
    unfold run at h
    split at h
    · rw [List.cons_append, imgs_cons, imgs_cons, imgs_app h, List.append_assoc]
    · cases h
theorem imgs_imgs : ∀ {ds : List Deed} {e f : Int}, ev e → (∀ x ∈ ds, okDeed x = true) → run e ds = some f → imgs f (imgs e ds) = ds
  | [], e, f, hv, hd, h => rfl
  | x :: r, e, f, hv, hd, h => by
    unfold run at h
    split at h
    · rename_i c
      obtain ⟨a1, a2, a3, a4, a5, a6, a7, a8⟩ := img_facts hv (hd x List.mem_cons_self) c.1 c.2
      have hd' : ∀ z ∈ r, okDeed z = true := fun z hz => hd z (List.mem_cons_of_mem _ hz)
      rw [imgs_cons, imgs_app (imgs_run a5 hd' h).1, imgs_imgs a5 hd' h, imgs_cons, a7]
      rfl
    · cases h
abbrev s_heard : Stmt := topS 51
abbrev Nh : List Str := ["_law_ask", "_law_caught", "error"]
theorem sc_heard : FnScope Nh ["_law_ask"] (defScope s_heard) := ⟨rfl, rfl, rfl, by decide +kernel, rfl, by decide +kernel, by decide +kernel⟩
def sp_heard (K : PySem.W.Frag) : Rsp
  | .non, m, P, _ => P .non m
  | .exc C fs, m, P, _ => (C = He.ga K "TooMany" ∧ ∃ x n, fs = (erMany K x n).fs ∧ P (.tup [.str "many", .str x, .int n]) m) ∨ (C = He.ga K "Misfit" ∧ ∃ x, fs = (erMisfit K x).fs ∧ P (.tup [.str "misfit", .str x]) m)
  | _, _, _, _ => False
theorem rest_heard (T : Txt K mg) {k : Nat} : ∀ (ga : Addr) (cdv : Value) (A : Around) (outer : List Env) (s : Shared) (H : Hp) (E : XK), Room (k + 1) (cxOf (L2.CX P w) P w K mg base Nh "_law_heard" (defScope s_heard) ga cdv A outer s H E).A →
      Takes (cxOf (L2.CX P w) P w K mg base Nh "_law_heard" (defScope s_heard) ga cdv A outer s H E) (fun cls d _ H' => E cls d H') →
      ∃ tr fr, DSs (cxOf (L2.CX P w) P w K mg base Nh "_law_heard" (defScope s_heard) ga cdv A outer s H E) (fun cls d _ H' => E cls d H') ((defBody s_heard).drop 2) tr fr ∧ ∀ d m P EX, sp_heard K d m P EX → fr ⟨(List.replicate Nh.length .un).set 1 (.im d), m⟩ (bodyEnds P EX) := by
  intro ga cdv A outer s H E hr tk
  refine ⟨_, _, (dss_cons (ds_if (dt_val (de_isiE T.isE_TooMany T.isinstance T.m_TooMany (de_var 1))) (dss_one (ds_ret (de_tup (da_cons de_str (da_cons (de_xfld (de_var 1)) (da_cons (de_xfld (de_var 1)) da_nil)))))) dss_nil)
    (dss_cons (ds_if (dt_val (de_isiE T.isE_Misfit T.isinstance T.m_Misfit (de_var 1))) (dss_one (ds_ret (de_tup (da_cons de_str (da_cons (de_xfld (de_var 1)) da_nil))))) dss_nil)
    (dss_one (ds_ret (de_if (dt_cmp op_isN ol_isN (de_var 1) de_non) de_non (de_tup (da_cons de_str (da_cons de_non da_nil)))))))), fun d m P EX h => ?_⟩
  unfold sp_heard at h
  split at h
  · walk_at "dl"
    rw [show isExc (catM K) D.non = some false from rfl, show isExc (catF K) D.non = some false from rfl]
    exact h
  · rcases h with ⟨rfl, x, n, rfl, h⟩ | ⟨rfl, x, rfl, h⟩
    · walk_at "dl"
      rw [show ∀ fs, isExc (catM K) (.exc (He.ga K "TooMany") fs) = some true from fun fs => if_pos rfl]
      simp only [d_asO, if_true, mXf, mVar]
      walk_at "dl"
      have e1 : (erMany K x n).fs.lookup ("what" : Str) = some (D.str x) := rfl
      have e2 : (erMany K x n).fs.lookup ("most" : Str) = some (D.int n) := rfl
      rw [e1, e2]
      exact ⟨T.x_what, T.x_most, by decide, h⟩
    · walk_at "dl"
      rw [show ∀ fs, isExc (catM K) (.exc (He.ga K "Misfit") fs) = some false from fun fs => by show catM K _ = _; unfold catM; rw [if_neg (fun z => T.ne_kinds.mp z), if_pos rfl],
        show ∀ fs, isExc (catF K) (.exc (He.ga K "Misfit") fs) = some true from fun fs => if_pos rfl]
      simp only [d_asO, if_true, if_false, Bool.false_eq_true, mXf, mVar]
      walk_at "dl"
      have e1 : (erMisfit K x).fs.lookup ("part" : Str) = some (D.str x) := rfl
      rw [e1]
      exact ⟨T.x_part, by decide, h⟩
  · exact h.elim
abbrev s__law_closed_right : Stmt := topS 52
theorem sc__law_closed_right : FnScope ["_law_ends", "_law_mine", "_law_its", "_law_one", "_law_other", "_law_image_here", "_law_told"] ["_law_ends", "_law_mine", "_law_its"] (defScope s__law_closed_right) := ⟨rfl, rfl, rfl, by decide +kernel, rfl, by decide +kernel, by decide +kernel⟩
def sp__law_closed_right (K : PySem.W.Frag) : Fsp
  | [.int e, .lst l, .lst l'], m, P, _ => ∃ ds ds', l = List.map dd ds ∧ l' = List.map dd ds' ∧ good e ds ∧ good e ds' ∧ ds.length ≤ 60 ∧ ds'.length ≤ 60 ∧ P (.bl true) m
  | _, _, _, _ => False
def Q__law_closed_right (P : Program) (w : World) (K : PySem.W.Frag) (mg : Str → Option Value) (base : Heap) : Prop := Ok P w K mg base 9 "_law_closed_right" [] (sp__law_closed_right K)
theorem ok__law_closed_right {f : Addr} {fd : FuncData} (F : L2.Fun K "_law_closed_right" "_law_closed_right" s__law_closed_right f fd) (T : Txt K mg) (G_Tangle : Q_Tangle P w K mg base) (G__law_image : Q__law_image P w K mg base) (G_closed : Q_closed P w K mg base) (G_closed_other_one : Q_closed_other_one P w K mg base) (G_eq : Q_eq P w K mg base) (G_lead_in : Q_lead_in P w K mg base) (G_lead_in_tangle : Q_lead_in_tangle P w K mg base) : FnQ P w K mg base (L2.CX P w) 9 f fd ["_law_ends", "_law_mine", "_law_its"] (spD K (sp__law_closed_right K)) := by
  refine okD F sc__law_closed_right (fun ds m P EX h => by unfold sp__law_closed_right at h; split at h <;> first | rfl | exact h.elim) fun cdv A outer s H E hr gd tk po => ⟨_, _,
    (dss_cons (ds_par3 3 4 5 sc__law_closed_right.nd (de_make G_Tangle (hr.mono (j := 7) (by decide)) gd tk (fun _ => .nil) (da_cons (de_var 0) (da_cons (de_var 1) da_nil))) (de_make G_Tangle (hr.mono (j := 7) (by decide)) gd tk (fun _ => .nil) (da_cons (de_var 0) (da_cons (de_var 2) da_nil))) (de_call G__law_image (hr.mono (j := 1) (by decide)) gd tk (fun _ => .nil) (da_cons (de_var 0) (da_cons (de_var 2) da_nil))) rfl)
      (dss_cons (ds_if (dt_cmp (opr_ne hr.units) ol_ne (de_repr (by have z := hr.un; omega) gd T.repr (da_cons (de_f (df_lst (da_cons (de_call G_lead_in (hr.mono (j := 4) (by decide)) gd tk (fun _ => .nil) (da_cons (de_var 4) da_nil)) (da_cons (de_callK G_lead_in_tangle (hr.mono (j := 4) (by decide)) gd tk (dk_cons (de_var 4) dk_nil)) da_nil)))) da_nil)) (de_repr (by have z := hr.un; omega) gd T.repr (da_cons (de_op opr_mul ol_mul (de_f (df_lst (da_cons (de_tuple T.tuple (da_cons (de_var 5) da_nil)) da_nil))) de_int) da_nil))) (dss_one (ds_ret de_bl)) dss_nil)
      (dss_cons (ds_set 6 sc__law_closed_right.nd (de_call G_closed (hr.mono (j := 8) (by decide)) gd tk (fun _ => .nil) (da_cons (de_var 3) (da_cons (de_var 4) da_nil))))
      (dss_cons (ds_if (dt_w (dw_or (dt_not (dt_val (de_isiC (fun _ _ h => isOwn_ok T.own_Tangle h) T.isinstance T.m_Tangle (de_var 6)))) (dw_or1 (dt_cmp (opr_ne hr.units) ol_ne (de_repr (by have z := hr.un; omega) gd T.repr (da_cons (de_f (df_lst (da_cons (de_fld (de_var 6)) (da_cons (de_fld (de_var 6)) da_nil)))) da_nil)) (de_repr (by have z := hr.un; omega) gd T.repr (da_cons (de_f (df_lst (da_cons de_int (da_cons (de_tuple T.tuple (da_cons (de_op opr_add ol_add (de_var 5) (de_var 1)) da_nil)) da_nil)))) da_nil)))))) (dss_one (ds_ret de_bl)) dss_nil)
      (dss_one (ds_ret (de_and (de_cmp (opr_eqO G_eq (hr.mono (by decide)) gd) ol_eqO (de_callK G_closed_other_one (hr.mono (j := 8) (by decide)) gd tk (dk_cons (de_var 4) (dk_cons (de_var 3) dk_nil))) (de_var 6)) (de_one (de_or (de_cmp op_gt ol_b2 (de_var 0) de_int) (de_one (de_cmp (opr_eq hr.units) ol_eq (de_call G__law_image (hr.mono (j := 1) (by decide)) gd tk (fun _ => .nil) (da_cons de_int (da_cons (de_f (df_list T.list (da_cons (de_call G_lead_in (hr.mono (j := 4) (by decide)) gd tk (fun _ => .nil) (da_cons (de_var 4) da_nil)) da_nil))) da_nil))) (de_var 2)))))))))))), fun ds m P EX h => ?_⟩
  unfold sp__law_closed_right at h
  split at h
  · obtain ⟨ds, ds', rfl, rfl, g1, g2, l1, l2, h⟩ := h
    rename_i e
    refine seq_gen fun R hR => ?_
    walk_at "dl"
    simp only [mMake]
    walk_at "dl"
    intro x hx
    unfold sp_Tangle_init
    refine ⟨ds, rfl, g1, mup_same, ?_⟩
    simp only [mup_mup, mup_same, mdel_mup hx]
    refine ⟨trivial, trivial, ?_⟩
    intro x hx
    refine ⟨ds', rfl, g2, trivial, ?_⟩
    simp only [mup_mup, mup_same, mdel_mup hx]
    refine ⟨trivial, trivial, ?_⟩
    simp only [sp__law_image]
    refine ⟨ds', 0, rfl, good_ev g2, g2.1, g2.2.2.2.2, ?_⟩
    subst hR
    refine seq_gen fun R hR => ?_
    walk_at "dl"
    have hi := good_imgs g2
    have hl' : ds'.length ≤ 4000 := by omega
    have hz : (200 : Nat) ≤ sizeLine := by decide
    simp only [sp_lead_in, sp_leading_in]
    refine ⟨_, ds', rfl, hl', hi.2.2, ?_⟩
    simp only [mCallK]
    walk_at "dl"
    have hp : ∀ y : D, perm [0] [y] = [y] := fun _ => rfl
    simp only [hp, sp_lead_in, sp_leading_in]
    refine ⟨_, ds', rfl, hl', hi.2.2, ?_⟩
    walk_at "dl"
    have hIM := sh_tup hi.2.1
    have hlen : (imgs e ds').length = ds'.length := imgs_len
    have ok2 := (sh_two hIM hIM (sh_tup3 hi.2.1) (sh_tup3 hi.2.1)).okR (by rw [hlen]; omega)
    have hfl : ∀ y : D, (List.replicate (Int.toNat 2) [y]).flatten = [y, y] := fun _ => rfl
    have hrL : ∀ (y : D) (l : List D) (P : D → Prop), oRepr [.lst (y :: l)] P = ((D.lst (y :: l)).okR = true ∧ P (.str (D.lst (y :: l)).py.shown)) := fun _ _ _ => rfl
    simp only [hfl, hrL]
    refine ⟨by decide, ok2, by decide, by decide, by decide, by decide, ok2, ?_⟩
    simp only [d_neS, d_asB, eq_self, decide_true, Bool.not_true, Bool.false_eq_true, if_false]
    subst hR
    refine seq_gen fun R hR => ?_
    walk_at "dl"
    simp only [sp_closed]
    refine ⟨_, ds, _, ds', rfl, rfl, g1, g2, ?_⟩
    rw [if_pos rfl, if_neg (by omega)]
    subst hR
    refine seq_gen fun R hR => ?_
    unfold tg
    walk_at "dl"
    have hgc := good_closed g1 g2 (by omega)
    have hC := sh_tup hgc.1.2
    have hlenC : (imgs e ds' ++ ds).length ≤ 120 := by rw [List.length_append, hlen]; omega
    have okC := (sh_two sh_zero hC (by show (0 : Nat) ≤ 3; omega) (sh_tup3 hgc.1.2)).okR (by omega)
    simp only [isOwn, if_true, d_asO, List.lookup, b_ends_ends, b_deeds_ends, b_deeds_deeds]
    rw [← List.map_append]
    simp only [Bool.not_true, Bool.false_eq_true, if_false, hrL]
    refine ⟨T.f_ends, T.f_deeds, by decide, okC, ?_, by decide, okC, ?_⟩
    · rw [List.length_map, List.length_map, hlen]; omega
    simp only [d_neS, d_asB, eq_self, decide_true, Bool.not_true, Bool.false_eq_true, if_false]
    subst hR
    walk_at "dl"
    have hp2 : ∀ y z : D, perm [1, 0] [y, z] = [z, y] := fun _ _ => rfl
    simp only [mCallK]
    walk_at "dl"
    simp only [hp2, sp_closed]
    refine ⟨_, ds, _, ds', rfl, rfl, g1, g2, ?_⟩
    rw [if_pos rfl, if_neg (by omega)]
    unfold tg
    walk_at "dl"
    refine ⟨rfl, rfl, fun m1 => ⟨0, _, 0, _, rfl, rfl, hgc.1.2, hgc.1.2, rfl, ⟨_, rfl⟩, ?_⟩⟩
    rw [eqv_self (deeds_ok hgc.1.2).1]
    walk_at "dl"
    refine ite_of (fun _ => ?_) fun z => absurd rfl z
    walk_at "dl"
    refine ite_of (fun _ => h) fun he => ?_
    have he0 : e = 0 := by
      have h1 : ¬ 0 < e := fun z => he (decide_eq_true z)
      have h2 := g2.2.1
      omega
    subst he0
    have has1 : ∀ (y : D) (Q : D → Prop), as1 [y] Q = Q y := fun _ _ => rfl
    unfold fList
    walk_at "dl"
    simp only [sp_lead_in, sp_leading_in]
    refine ⟨_, ds', rfl, hl', hi.2.2, ?_⟩
    simp only [has1, d_itT, d_asO, sp__law_image]
    refine ⟨imgs 0 ds', 0, rfl, ⟨by decide, by decide, by decide⟩, ⟨by omega, hi.2.1⟩, hi.1, ?_⟩
    rw [imgs_imgs ⟨by decide, by decide, by decide⟩ g2.1.2 g2.2.2.2.2]
    walk_at "dl"
    refine ⟨(deeds_ok g2.1.2).2, (deeds_ok g2.1.2).2, ?_⟩
    rw [eqv_self (deeds_ok g2.1.2).2]
    exact h
  · exact h.elim

end
end K65
set_option Elab.async false
set_option linter.all false
set_option maxRecDepth 100000
set_option maxHeartbeats 4000000
/-! K65e: the law. -/
namespace K65
open PySem PySem.Spec PyProof.Rows L2 RL LamX
section
variable {P : Program} {w : World} {K : PySem.W.Frag} {mg : Str → Option Value} {base : Heap}
theorem pick_num {l : List Int} {d : D} (hl : ∀ z ∈ l, 0 ≤ z ∧ z ≤ 20) (h : d ∈ l.map D.int) : ∃ n, d = D.int n ∧ 0 ≤ n ∧ n ≤ 20 := by
  obtain ⟨n, hn, rfl⟩ := List.mem_map.mp h
  exact ⟨n, rfl, hl n hn⟩
theorem de_cast {X : Cx} {W : WX} {e : Expr} {t t' : TE} {φ φ' : DM} (h : DE X W e t φ) (ht : t = t') (hφ : φ = φ') : DE X W e t' φ' := by subst ht hφ; exact h
theorem rep_enc {x y : Deed} : ∀ k : Nat, (List.replicate k [dd x]).flatten ++ [dd y] = (List.replicate k x ++ [y]).map dd
  | 0 => rfl
  | k + 1 => by
    rw [List.replicate_succ, List.flatten_cons, List.append_assoc, rep_enc k]
    rfl
theorem rep_len {x : D} : ∀ k : Nat, (List.replicate k [x]).flatten.length = k
  | 0 => rfl
  | k + 1 => by
    rw [List.replicate_succ, List.flatten_cons, List.length_append, rep_len k, List.length_singleton]
    omega
theorem good_rep {z : Str} {g : Int} {k : Nat} (hz : z = "over" ∨ z = "under") (h0 : 0 ≤ g) (h1 : g < 2) (hk : k ≤ 3999) : good 2 (List.replicate k (z, g) ++ [((("join" : Str), 1) : Deed)]) := by
  have hj : okDeed ((("join" : Str), 1) : Deed) = true := okd (.inr (.inr (.inl rfl))) (by decide) (by decide)
  have hx : okDeed ((z, g) : Deed) = true := okd (by rcases hz with q | q; exact .inl q; exact .inr (.inl q)) h0 (by omega)
  refine ⟨⟨by rw [List.length_append, List.length_replicate, List.length_singleton]; omega, fun y hy => ?_⟩, by decide, by decide, by decide, ?_⟩
  · rcases List.mem_append.mp hy with hy | hy
    · rw [(List.mem_replicate.mp hy).2]; exact hx
    · rw [List.mem_singleton.mp hy]; exact hj
  · have q1 : (z = "join") = False := eq_false fun y => by subst y; rcases hz with hz | hz <;> exact absurd hz (by decide)
    have q2 : (z = "open") = False := eq_false fun y => by subst y; rcases hz with hz | hz <;> exact absurd hz (by decide)
    clear hk
    induction k with
    | zero => rfl
    | succ k ih =>
      rw [List.replicate_succ, List.cons_append]
      unfold run
      have hf : fits 2 z g = true := by simp only [fits, q1, q2, if_false]; exact decide_eq_true h1
      rw [if_pos ⟨hf, fun y => q2.mp y.1⟩]
      have ht : then_ 2 z = 2 := by simp only [then_, q1, q2, if_false]
      show run (then_ 2 z) _ = _
      rw [ht]
      exact ih
local macro_rules | `(tactic| walk_at "dl") => `(tactic| try simp only [sSeq2, sIf, dB, mOp, mVar, mC, sRet, sRetN, mIf, mChain, sNil, mCB, aCons, aNil, startD, bodyEnds, dNot, dAnd, dOr, mAnd, mOr, mNot, mIsi, dTru, mCall, sRaise, mFld, sExpr, sSet, mTup, mLenN, mIxN, mF, fLst, fComp, dYes, restD, origD, wipeD, List.nil_append, sSetF, sAsg, gN, gSeq, gsCons, gsNil, sFor, sSeq, sFldD, RL.known, mup_same, mup_mup, putD, sParL, sItem, sPar, sPar3, fRev, d_sqL, d_sqT,
    d_asB, d_asI, d_asO, d_b2, d_i2, d_sub, d_add, d_addL, d_mul, d_mulL, d_eqI, d_eqS, d_neI, d_neS, d_eqT, d_eqL, d_neT, d_neL, d_neNT, d_neNN, d_neTN, d_lenL, d_lenT, d_lenR, d_ixL, d_ixT, d_ixR, d_int, d_intB, d_i1, d_i2a, d_tupL, d_tupR, d_tupT, d_neg, d_bls, d_truN, d_truB, d_truI, d_truL, d_truT, d_itL, d_itT, d_itR, d_isNN, d_isNI, d_isNS, d_isNT, d_isNE,
    n_ends_deeds, n_deeds_ends, n_over_under, n_over_join, n_over_open, n_over_turn, n_under_over, n_under_join, n_under_open, n_under_turn, n_join_over, n_join_under, n_join_open, n_join_turn, n_open_over, n_open_under, n_open_join, n_open_turn, n_turn_over, n_turn_under, n_turn_join, n_turn_open, d_isInt_int, d_isInt_bl, d_isInt_non, d_isInt_str, d_isInt_lst, d_isInt_rol, d_isInt_tup, d_isBool_int, d_isBool_bl, d_isBool_non, d_isBool_str, d_isBool_lst, d_isBool_rol, d_isBool_tup, d_isStr_int, d_isStr_bl, d_isStr_non, d_isStr_str, d_isStr_lst, d_isStr_rol, d_isStr_tup, d_isSeq_int, d_isSeq_bl, d_isSeq_non, d_isSeq_str, d_isSeq_lst, d_isSeq_rol, d_isSeq_tup, d_at0, d_at1, d_at2, d_words, reduceCtorEq, if_true, if_false, Bool.not_true, Bool.not_false, Bool.false_eq_true, and_true, true_and, decide_true, decide_false, List.length_singleton,
    List.map_cons, List.map_nil, List.length_cons, List.length_nil, List.replicate, List.append_nil, List.nil_append, List.cons_append, List.getElem?_cons_zero, List.getElem?_cons_succ, Nat.sub_self, List.set_cons_zero, List.set_cons_succ, Nat.add_sub_cancel, Nat.zero_add, Nat.reduceAdd, Nat.reduceSub])
abbrev s_law : Stmt := topS 53
theorem sc_law : FnScope ["_law_script", "_law_pier_here", "_law_turn", "_law_ends", "_law_mine", "_law_its", "_law_far", "_law_due", "_law_many", "_law_one", "_law_other", "_law_more"] ["_law_script"] (defScope s_law) := ⟨rfl, rfl, rfl, by decide +kernel, rfl, by decide +kernel, by decide +kernel⟩
def sp_law : Fsp
  | [.rol l], m, P, _ => ∃ ns : List Int, l = ns.map D.int ∧ ∀ m', P (.bl true) m'
  | _, _, _, _ => False
theorem ok_law {f : Addr} {fd : FuncData} (F : L2.Fun K "law" "law" s_law f fd) {cA PA : Addr} (hc : fd.code = .ref cA) (TB : TabB base mg cA PA) (hmT : (PA, ("law" : Str) ++ ".<locals>." ++ "<lambda>") ∈ TK K) (hu : ∀ p ∈ TK K, p.1 = PA → p.2 = ("law" : Str) ++ ".<locals>." ++ "<lambda>") (HK : HeardK K mg "_law_heard" "_law_ask" "error" "_law_caught" "RopeError" s_heard Nh 2 1 (.ref (He.ga K "RopeError")) (catR K)) (T : Txt K mg) (G_Tangle : Q_Tangle P w K mg base) (G__law_closed_right : Q__law_closed_right P w K mg base) (G__law_deeds : Q__law_deeds P w K mg base) (G__law_moor : Q__law_moor P w K mg base) (G__law_pick : Q__law_pick P w K mg base) (G__law_pier : Q__law_pier P w K mg base) (G_closed : Q_closed P w K mg base) : FnQ P w K mg base (L2.CX P w) 11 f fd ["_law_script"] (spD K sp_law) := by
  refine okDC F hc sc_law (fun ds m P EX h => by unfold sp_law at h; split at h <;> first | rfl | exact h.elim) fun A outer s H E hr gd tk po => ⟨_, _,
    (dss_cons (ds_set 1 sc_law.nd (de_call G__law_pier (hr.mono (j := 1) (by decide)) gd tk (fun _ => .nil) (da_cons (de_var 0) da_nil)))
      (dss_cons (ds_for (di_range1 T.range (da_cons de_int da_nil)) (dg_name 2 sc_law.nd) (dss_cons (ds_set 3 sc_law.nd (de_op opr_mul ol_mul de_int (de_call G__law_moor (hr.mono (j := 1) (by decide)) gd tk (fun _ => .nil) (da_cons (de_var 1) (da_cons de_int da_nil)))))
      (dss_cons (ds_asg (de_tup (da_cons (de_call G__law_deeds (hr.mono (j := 3) (by decide)) gd tk (fun _ => .nil) (da_cons (de_var 1) (da_cons (de_var 3) (da_cons (de_call G__law_pick (hr.mono (j := 2) (by decide)) gd tk (fun _ => .nil) (da_cons (de_var 1) (da_cons (de_f (df_lst (da_cons de_int (da_cons de_int (da_cons de_int (da_cons de_int da_nil)))))) da_nil))) (da_cons de_int da_nil))))) (da_cons (de_call G__law_deeds (hr.mono (j := 3) (by decide)) gd tk (fun _ => .nil) (da_cons (de_var 1) (da_cons (de_var 3) (da_cons (de_call G__law_pick (hr.mono (j := 2) (by decide)) gd tk (fun _ => .nil) (da_cons (de_var 1) (da_cons (de_f (df_lst (da_cons de_int (da_cons de_int (da_cons de_int da_nil))))) da_nil))) (da_cons de_int da_nil))))) da_nil))) (dg_tup (n := 2) (dgs_cons (dg_name 4 sc_law.nd) (dgs_cons (dg_name 5 sc_law.nd) dgs_nil))))
      (dss_cons (ds_if (dt_w (dw_or (dt_not (dt_val (de_call G__law_closed_right (hr.mono (j := 9) (by decide)) gd tk (fun _ => .nil) (da_cons (de_var 3) (da_cons (de_var 4) (da_cons (de_var 5) da_nil)))))) (dw_or1 (dt_not (dt_val (de_call G__law_closed_right (hr.mono (j := 9) (by decide)) gd tk (fun _ => .nil) (da_cons (de_var 3) (da_cons (de_var 5) (da_cons (de_var 5) da_nil))))))))) (dss_one (ds_ret de_bl)) dss_nil)
      (dss_cons (ds_set 6 sc_law.nd (de_op opr_mul ol_mul de_int (de_call G__law_moor (hr.mono (j := 1) (by decide)) gd tk (fun _ => .nil) (da_cons (de_var 1) (da_cons de_int da_nil)))))
      (dss_cons (ds_set 7 sc_law.nd (de_if (dt_cmp (opr_eq hr.units) ol_eq (de_var 6) (de_var 3)) de_non (de_tup (da_cons de_str (da_cons de_str da_nil)))))
      (dss_one (ds_if (dt_cmp (opr_ne hr.units) ol_ne (de_heard HK rfl (rest_heard T) TB rfl hmT hu (hr.mono (j := 10) (by decide)) gd tk (by intro A2 outer2 s2 H2 E2 f2 c2 gd hr tk; have hK : ∀ (sc : Scope), (lamCx (cxOf (L2.CX P w) P w K mg base ["_law_script", "_law_pier_here", "_law_turn", "_law_ends", "_law_mine", "_law_its", "_law_far", "_law_due", "_law_many", "_law_one", "_law_other", "_law_more"] "law" (defScope s_law) f (.ref cA) A outer s H E) A2 outer2 s2 H2 E2 sc f2 c2).K = K := fun _ => rfl; refine de_cast ((de_call (X := lamCx (cxOf (L2.CX P w) P w K mg base ["_law_script", "_law_pier_here", "_law_turn", "_law_ends", "_law_mine", "_law_its", "_law_far", "_law_due", "_law_many", "_law_one", "_law_other", "_law_more"] "law" (defScope s_law) f (.ref cA) A outer s H E) A2 outer2 s2 H2 E2 _ f2 c2) G_closed (hr.mono (j := 8) (by decide)) gd tk (fun _ => .nil) (da_cons (de_make (X := lamCx (cxOf (L2.CX P w) P w K mg base ["_law_script", "_law_pier_here", "_law_turn", "_law_ends", "_law_mine", "_law_its", "_law_far", "_law_due", "_law_many", "_law_one", "_law_other", "_law_more"] "law" (defScope s_law) f (.ref cA) A outer s H E) A2 outer2 s2 H2 E2 _ f2 c2) G_Tangle (hr.mono (j := 7) (by decide)) gd tk (fun _ => .nil) (da_cons (de_var 3) (da_cons (de_var 4) da_nil))) (da_cons (de_make (X := lamCx (cxOf (L2.CX P w) P w K mg base ["_law_script", "_law_pier_here", "_law_turn", "_law_ends", "_law_mine", "_law_its", "_law_far", "_law_due", "_law_many", "_law_one", "_law_other", "_law_more"] "law" (defScope s_law) f (.ref cA) A outer s H E) A2 outer2 s2 H2 E2 _ f2 c2) G_Tangle (hr.mono (j := 7) (by decide)) gd tk (fun _ => .nil) (da_cons (de_var 6) (da_cons (de_call (X := lamCx (cxOf (L2.CX P w) P w K mg base ["_law_script", "_law_pier_here", "_law_turn", "_law_ends", "_law_mine", "_law_its", "_law_far", "_law_due", "_law_many", "_law_one", "_law_other", "_law_more"] "law" (defScope s_law) f (.ref cA) A outer s H E) A2 outer2 s2 H2 E2 _ f2 c2) G__law_deeds (hr.mono (j := 3) (by decide)) gd tk (fun _ => .nil) (da_cons (de_var 1) (da_cons (de_var 6) (da_cons de_int (da_cons de_int da_nil))))) da_nil))) da_nil)))) ?_ rfl; simp only [hK]; rfl) (L := lamS_by (sc := defScope s_law) (by decide +kernel))) (de_var 7)) (dss_one (ds_ret de_bl)) dss_nil))))))) po)
      (dss_cons (ds_if (dt_cmp (opr_ne hr.units) ol_ne (de_call G__law_moor (hr.mono (j := 1) (by decide)) gd tk (fun _ => .nil) (da_cons (de_var 1) (da_cons de_int da_nil))) de_int) (dss_one (ds_ret de_bl)) dss_nil)
      (dss_cons (ds_set 8 sc_law.nd (de_call G__law_moor (hr.mono (j := 1) (by decide)) gd tk (fun _ => .nil) (da_cons (de_var 1) (da_cons de_int da_nil))))
      (dss_cons (ds_asg (de_tup (da_cons (de_make G_Tangle (hr.mono (j := 7) (by decide)) gd tk (fun _ => .nil) (da_cons de_int (da_cons (de_op opr_add ol_add (de_op opr_mul ol_mul (de_f (df_lst (da_cons (de_tup (da_cons de_str (da_cons de_int da_nil))) da_nil))) (de_var 8)) (de_f (df_lst (da_cons (de_tup (da_cons de_str (da_cons de_int da_nil))) da_nil)))) da_nil))) (da_cons (de_make G_Tangle (hr.mono (j := 7) (by decide)) gd tk (fun _ => .nil) (da_cons de_int (da_cons (de_op opr_add ol_add (de_op opr_mul ol_mul (de_f (df_lst (da_cons (de_tup (da_cons de_str (da_cons de_int da_nil))) da_nil))) (de_op op_sub ol_sub de_int (de_var 8))) (de_f (df_lst (da_cons (de_tup (da_cons de_str (da_cons de_int da_nil))) da_nil)))) da_nil))) da_nil))) (dg_tup (n := 2) (dgs_cons (dg_name 9 sc_law.nd) (dgs_cons (dg_name 10 sc_law.nd) dgs_nil))))
      (dss_cons (ds_set 11 sc_law.nd (de_make G_Tangle (hr.mono (j := 7) (by decide)) gd tk (fun _ => .nil) (da_cons de_int (da_cons (de_op opr_add ol_add (de_op opr_mul ol_mul (de_f (df_lst (da_cons (de_tup (da_cons de_str (da_cons de_int da_nil))) da_nil))) (de_op op_sub ol_sub de_int (de_var 8))) (de_f (df_lst (da_cons (de_tup (da_cons de_str (da_cons de_int da_nil))) da_nil)))) da_nil))))
      (dss_one (ds_ret (de_and (de_cmp (opr_eq hr.units) ol_eq (de_len T.len (da_cons (de_fld (de_call G_closed (hr.mono (j := 8) (by decide)) gd tk (fun _ => .nil) (da_cons (de_var 9) (da_cons (de_var 10) da_nil)))) da_nil)) de_int) (de_one (de_cmp (opr_eq hr.units) ol_eq (de_heard HK rfl (rest_heard T) TB rfl hmT hu (hr.mono (j := 10) (by decide)) gd tk (by intro A2 outer2 s2 H2 E2 f2 c2 gd hr tk; have hK : ∀ (sc : Scope), (lamCx (cxOf (L2.CX P w) P w K mg base ["_law_script", "_law_pier_here", "_law_turn", "_law_ends", "_law_mine", "_law_its", "_law_far", "_law_due", "_law_many", "_law_one", "_law_other", "_law_more"] "law" (defScope s_law) f (.ref cA) A outer s H E) A2 outer2 s2 H2 E2 sc f2 c2).K = K := fun _ => rfl; refine de_cast ((de_call (X := lamCx (cxOf (L2.CX P w) P w K mg base ["_law_script", "_law_pier_here", "_law_turn", "_law_ends", "_law_mine", "_law_its", "_law_far", "_law_due", "_law_many", "_law_one", "_law_other", "_law_more"] "law" (defScope s_law) f (.ref cA) A outer s H E) A2 outer2 s2 H2 E2 _ f2 c2) G_closed (hr.mono (j := 8) (by decide)) gd tk (fun _ => .nil) (da_cons (de_var 9) (da_cons (de_var 11) da_nil)))) ?_ rfl; simp only [hK]; rfl) (L := lamS_by (sc := defScope s_law) (by decide +kernel))) (de_tup (da_cons de_str (da_cons de_str (da_cons de_int da_nil))))))))))))))), fun ds m P EX h => ?_⟩
  unfold sp_law at h
  split at h
  · obtain ⟨ns, rfl, h⟩ := h
    refine seq_gen fun R hR => ?_
    walk_at "dl"
    simp only [sp__law_pier]
    refine ⟨ns, rfl, fun p m0 hp0 => ?_⟩
    subst hR
    refine seq_gen fun R hR => ?_
    walk_at "dl"
    simp only [sRange]
    walk_at "dl"
    refine ⟨by decide, by decide, ?_⟩
    unfold rangeD
    refine for_map (enc := fun i : Nat => D.int (0 + (i : Int))) (fun xs δ => ∃ (m' : Mh) (k : Nat) (s2 s3 s4 s5 s6 s7 : SD), Pier m' p (1000 * (k : Int)) ∧ k + xs.length = 3 ∧ δ = ⟨[.im (.rol (ns.map D.int)), .im (.ptr p), s2, s3, s4, s5, s6, s7, .un, .un, .un, .un], m'⟩) (fun x xs δ N hI hN => ?_) (fun δ hI => ?_) ⟨m0, 0, _, _, _, _, _, _, hp0.up (by decide), rfl, rfl⟩
    · obtain ⟨m', k, s2, s3, s4, s5, s6, s7, hp, hk, rfl⟩ := hI
      rw [List.length_cons] at hk
      simp only [gN, putD]
      refine seq_gen fun R1 hR1 => ?_
      walk_at "dl"
      simp only [sp__law_moor]
      refine ⟨_, hp, by omega, by decide, by decide, fun v m1 v0 v1 hp1 => ?_⟩
      walk_at "dl"
      refine ⟨.inl ⟨by decide, by decide⟩, ?_⟩
      subst hR1
      refine seq_gen fun R1 hR1 => ?_
      walk_at "dl"
      simp only [sp__law_pick]
      refine ⟨by decide, _, hp1, by omega, by decide, by decide, fun d1 hd1 m2 hp2 => ?_⟩
      obtain ⟨n1, rfl, n10, n11⟩ := pick_num (l := [4, 0, 9, 20]) (by decide) hd1
      try simp only [sp__law_deeds]
      have hv : ev (2 * v) := ⟨by omega, by omega, by omega⟩
      refine ⟨_, hp2, by omega, hv, by omega, n10, n11, by decide, fun ds m3 hl hlen hp3 => ?_⟩
      refine ⟨by decide, _, hp3, by omega, by decide, by decide, fun d2 hd2 m4 hp4 => ?_⟩
      obtain ⟨n2, rfl, n20, n21⟩ := pick_num (l := [3, 0, 11]) (by decide) hd2
      try simp only [sp__law_deeds]
      refine ⟨_, hp4, by omega, hv, by omega, n20, n21, by decide, fun ds' m5 hl' hlen' hp5 => ?_⟩
      have g1 : good (2 * v) ds := ⟨⟨by omega, hl.1⟩, by omega, by omega, by omega, hl.2⟩
      have g2 : good (2 * v) ds' := ⟨⟨by omega, hl'.1⟩, by omega, by omega, by omega, hl'.2⟩
      refine ⟨by decide, ?_⟩
      subst hR1
      refine seq_gen fun R1 hR1 => ?_
      walk_at "dl"
      try simp only [sp__law_closed_right]
      refine ⟨ds, ds', rfl, rfl, g1, g2, hlen, hlen', ?_⟩
      walk_at "dl"
      try simp only [sp__law_closed_right]
      refine ⟨ds', ds', rfl, rfl, g2, g2, hlen', hlen', ?_⟩
      walk_at "dl"
      subst hR1
      refine seq_gen fun R1 hR1 => ?_
      walk_at "dl"
      simp only [sp__law_moor]
      refine ⟨_, hp5, by omega, by decide, by decide, fun u m6 u0 u1 hp6 => ?_⟩
      walk_at "dl"
      refine ⟨.inl ⟨by decide, by decide⟩, ?_⟩
      subst hR1
      refine seq_gen fun R1 hR1 => ?_
      walk_at "dl"
      suffices key : R1 ⟨[.im (.rol (ns.map D.int)), .im (.ptr p), .im (.int (0 + (x : Int))), .im (.int (2 * v)), .im (.lst (ds.map dd)), .im (.lst (ds'.map dd)), .im (.int (2 * u)), .im (if 2 * u = 2 * v then D.non else .tup [.str "misfit", .str "other"]), .un, .un, .un, .un], m6⟩ { nx := N, rt := fun d δ => P d δ.m, bk := fun δ' => R δ' { nx := fun δ => P D.non δ.m, rt := fun d δ => P d δ.m, bk := fun x => False, ct := fun x => False, ex := fun er δ => EX er δ.m }, ct := N, ex := fun er δ => EX er δ.m } by
        refine ite_of (fun z => ?_) fun z => ?_
        · rw [if_pos (of_decide_eq_true z)] at key
          exact key
        · rw [if_neg (fun y => z (decide_eq_true y))] at key
          exact ⟨by decide, key⟩
      subst hR1
      walk_at "dl"
      unfold mHeard
      simp only [List.map_cons, List.map_nil, hid]
      walk_at "dl"
      simp only [mMake]
      walk_at "dl"
      intro q hq
      unfold sp_Tangle_init
      refine ⟨ds, rfl, g1, mup_same, ?_⟩
      simp only [mup_mup, mup_same, mdel_mup hq]
      refine ⟨trivial, trivial, ?_⟩
      simp only [sp__law_deeds]
      refine ⟨_, hp6, by omega, ⟨by omega, by omega, by omega⟩, by omega, by decide, by decide, by decide, fun es m7 hl3 hlen3 hp7 => ?_⟩
      intro q hq
      have g3 : good (2 * u) es := ⟨⟨by omega, hl3.1⟩, by omega, by omega, by omega, hl3.2⟩
      refine ⟨es, rfl, g3, mup_same, ?_⟩
      simp only [mup_mup, mup_same, mdel_mup hq]
      refine ⟨trivial, trivial, ?_⟩
      have fin : ∀ s2 s3 s4 s5 s6 s7 : SD, N ⟨[.im (.rol (ns.map D.int)), .im (.ptr p), s2, s3, s4, s5, s6, s7, .un, .un, .un, .un], m7⟩ := fun s2 s3 s4 s5 s6 s7 => hN _ ⟨m7, k + 1, s2, s3, s4, s5, s6, s7, hp7.up (by omega), by omega, rfl⟩
      simp only [sp_closed]
      refine ⟨_, ds, _, es, rfl, rfl, g1, g3, ?_⟩
      by_cases huv : 2 * v = 2 * u
      · rw [if_pos huv, if_neg (by omega)]
        simp only [sp_heard, if_pos huv.symm]
        refine ⟨rfl, rfl, ?_⟩
        rw [eqv_self (d := .non) rfl]
        exact fin _ _ _ _ _ _
      · rw [if_neg huv]
        simp only [if_neg (fun z => huv (Eq.symm z))]
        have hcR : catR K (erMisfit K "other").C = some true := by
          show catR K (He.ga K "Misfit") = _
          unfold catR
          rw [if_neg (fun z => T.ne_kinds.mp z), if_pos rfl]
        rw [hcR]
        have ok2 : (D.tup [.str "misfit", .str "other"]).ok = true := by decide +kernel
        refine .inr ⟨rfl, "other", rfl, ok2, ok2, ?_⟩
        rw [eqv_self ok2]
        exact fin _ _ _ _ _ _
    · obtain ⟨m', k, s2, s3, s4, s5, s6, s7, hp, hk, rfl⟩ := hI
      walk_at "dl"
      subst hR
      refine seq_gen fun R hR => ?_
      walk_at "dl"
      simp only [sp__law_moor]
      refine ⟨_, hp, by omega, by decide, by decide, fun v m1 v0 v1 hp1 => ?_⟩
      walk_at "dl"
      refine ite_of (fun _ => h _) fun _ => ?_
      subst hR
      refine seq_gen fun R hR => ?_
      walk_at "dl"
      try simp only [sp__law_moor]
      refine ⟨_, hp1, by omega, by decide, by decide, fun n m2 n0 n1 hp2 => ?_⟩
      subst hR
      refine seq_gen fun R hR => ?_
      walk_at "dl"
      have hz : (4000 : Nat) ≤ sizeLine := by decide
      have hp63 : (4000 : Int) < 2 ^ 63 := by decide
      have hz2 : (2 : Nat) ≤ sizeLine := by decide
      have hz1 : (1 : Nat) ≤ sizeLine := by decide
      simp only [mMake]
      walk_at "dl"
      refine ⟨hz2, hz1, n0, by omega, by omega, hz2, hz1, by rw [rep_len]; omega, ?_⟩
      intro q hq
      have ga := good_rep (z := "over") (g := 1) (k := n.toNat) (.inl rfl) (by decide) (by decide) (by omega)
      unfold sp_Tangle_init
      refine ⟨_, rep_enc (x := ((("over" : Str), 1) : Deed)) (y := ((("join" : Str), 1) : Deed)) _, ga, mup_same, ?_⟩
      simp only [mup_mup, mup_same, mdel_mup hq]
      refine ⟨trivial, trivial, hz2, hz1, by omega, by omega, by omega, hz2, hz1, by rw [rep_len]; omega, ?_⟩
      intro q hq
      have gb := good_rep (z := "under") (g := 0) (k := (3998 - n).toNat) (.inr rfl) (by decide) (by decide) (by omega)
      refine ⟨_, rep_enc (x := ((("under" : Str), 0) : Deed)) (y := ((("join" : Str), 1) : Deed)) _, gb, trivial, ?_⟩
      simp only [mup_mup, mup_same, mdel_mup hq]
      refine ⟨trivial, trivial, hz2, ?_⟩
      subst hR
      refine seq_gen fun R hR => ?_
      walk_at "dl"
      simp only [mMake]
      walk_at "dl"
      refine ⟨hz2, hz1, by omega, by omega, by omega, hz2, hz1, by rw [rep_len]; omega, ?_⟩
      intro q hq
      have gc := good_rep (z := "under") (g := 0) (k := (3999 - n).toNat) (.inr rfl) (by decide) (by decide) (by omega)
      unfold sp_Tangle_init
      refine ⟨_, rep_enc (x := ((("under" : Str), 0) : Deed)) (y := ((("join" : Str), 1) : Deed)) _, gc, mup_same, ?_⟩
      simp only [mup_mup, mup_same, mdel_mup hq]
      refine ⟨trivial, trivial, ?_⟩
      subst hR
      have la : (List.replicate n.toNat ((("over" : Str), 1) : Deed) ++ [((("join" : Str), 1) : Deed)]).length = n.toNat + 1 := by rw [List.length_append, List.length_replicate, List.length_singleton]
      have lb : (List.replicate (3998 - n).toNat ((("under" : Str), 0) : Deed) ++ [((("join" : Str), 1) : Deed)]).length = (3998 - n).toNat + 1 := by rw [List.length_append, List.length_replicate, List.length_singleton]
      have lc : (List.replicate (3999 - n).toNat ((("under" : Str), 0) : Deed) ++ [((("join" : Str), 1) : Deed)]).length = (3999 - n).toNat + 1 := by rw [List.length_append, List.length_replicate, List.length_singleton]
      generalize (List.replicate n.toNat ((("over" : Str), 1) : Deed) ++ [((("join" : Str), 1) : Deed)]) = da at ga la ⊢
      generalize (List.replicate (3998 - n).toNat ((("under" : Str), 0) : Deed) ++ [((("join" : Str), 1) : Deed)]) = db at gb lb ⊢
      generalize (List.replicate (3999 - n).toNat ((("under" : Str), 0) : Deed) ++ [((("join" : Str), 1) : Deed)]) = dc at gc lc ⊢
      walk_at "dl"
      simp only [sp_closed]
      refine ⟨2, da, 2, db, rfl, rfl, ga, gb, ?_⟩
      rw [if_pos rfl, if_neg (by omega)]
      unfold tg
      walk_at "dl"
      simp only [List.lookup, b_deeds_ends, b_deeds_deeds]
      walk_at "dl"
      refine ⟨T.f_deeds, ?_⟩
      rw [if_pos (decide_eq_true (by rw [List.length_map, List.length_append, imgs_len, la, lb]; omega))]
      unfold mHeard
      simp only [List.map_cons, List.map_nil, hid]
      walk_at "dl"
      simp only [sp_closed]
      refine ⟨2, da, 2, dc, rfl, rfl, ga, gc, ?_⟩
      rw [if_pos rfl, if_pos (by omega)]
      have hcR : catR K (erMany K "deeds" 4000).C = some true := by
        show catR K (He.ga K "TooMany") = _
        unfold catR
        rw [if_pos rfl]
      rw [hcR]
      have ok2 : (D.tup [.str "many", .str "deeds", .int 4000]).ok = true := by decide +kernel
      simp only [d_asO, if_true, sp_heard]
      refine .inl ⟨rfl, "deeds", 4000, rfl, by decide, ?_⟩
      refine ⟨ok2, ok2, ?_⟩
      rw [eqv_self ok2]
      exact h _
  · exact h.elim

end
end K65
set_option Elab.async false
set_option linter.all false
set_option maxRecDepth 100000
set_option maxHeartbeats 4000000
/-! K65f: the facts of the head; the end. -/
namespace K65
open PySem PySem.Spec PyProof.Rows L2 RL RZ NdefX
abbrev prog : Program := PySem.Challenge.pw_ropesays_k65_images_and_closed_tangles
def d_is_integer : He.DefD := ⟨("is_integer", none), "is_integer", "is_integer", defArgs (topS 8), defBody (topS 8), defScope (topS 8), [], []⟩
def d_is_within : He.DefD := ⟨("is_within", none), "is_within", "is_within", defArgs (topS 9), defBody (topS 9), defScope (topS 9), [], []⟩
def d_is_deed : He.DefD := ⟨("is_deed", none), "is_deed", "is_deed", defArgs (topS 26), defBody (topS 26), defScope (topS 26), [], []⟩
def d_fits : He.DefD := ⟨("fits", none), "fits", "fits", defArgs (topS 27), defBody (topS 27), defScope (topS 27), [], []⟩
def d_ends_then : He.DefD := ⟨("ends_then", none), "ends_then", "ends_then", defArgs (topS 28), defBody (topS 28), defScope (topS 28), [], []⟩
def d_told_deeds : He.DefD := ⟨("told_deeds", none), "told_deeds", "told_deeds", defArgs (topS 29), defBody (topS 29), defScope (topS 29), [], []⟩
def d_ends_behind : He.DefD := ⟨("ends_behind", none), "ends_behind", "ends_behind", defArgs (topS 30), defBody (topS 30), defScope (topS 30), [], []⟩
def d_Tangle_init : He.DefD := ⟨("Tangle", some "__init__"), "__init__", "Tangle.__init__", defArgs (inClass (topS 34) 0), defBody (inClass (topS 34) 0), defScope (inClass (topS 34) 0), [], []⟩
def d_Tangle_eq : He.DefD := ⟨("Tangle", some "__eq__"), "__eq__", "Tangle.__eq__", defArgs (inClass (topS 34) 1), defBody (inClass (topS 34) 1), defScope (inClass (topS 34) 1), [], []⟩
def d_need_tangle : He.DefD := ⟨("need_tangle", none), "need_tangle", "need_tangle", defArgs (topS 35), defBody (topS 35), defScope (topS 35), [.str "tangle"], []⟩
def d_ring_sizes : He.DefD := ⟨("ring_sizes", none), "ring_sizes", "ring_sizes", defArgs (topS 38), defBody (topS 38), defScope (topS 38), [], []⟩
def d_image_of : He.DefD := ⟨("image_of", none), "image_of", "image_of", defArgs (topS 40), defBody (topS 40), defScope (topS 40), [], []⟩
def d_leading_in : He.DefD := ⟨("leading_in", none), "leading_in", "leading_in", defArgs (topS 41), defBody (topS 41), defScope (topS 41), [], []⟩
def d_need_alike : He.DefD := ⟨("need_alike", none), "need_alike", "need_alike", defArgs (topS 42), defBody (topS 42), defScope (topS 42), [], []⟩
def d_lead_in : He.DefD := ⟨("lead_in", none), "lead_in", "lead_in", defArgs (topS 43), defBody (topS 43), defScope (topS 43), [], []⟩
def d_closed : He.DefD := ⟨("closed", none), "closed", "closed", defArgs (topS 44), defBody (topS 44), defScope (topS 44), [], []⟩
def d__law_pier : He.DefD := ⟨("_law_pier", none), "_law_pier", "_law_pier", defArgs (topS 46), defBody (topS 46), defScope (topS 46), [], []⟩
def d__law_moor : He.DefD := ⟨("_law_moor", none), "_law_moor", "_law_moor", defArgs (topS 47), defBody (topS 47), defScope (topS 47), [], []⟩
def d__law_pick : He.DefD := ⟨("_law_pick", none), "_law_pick", "_law_pick", defArgs (topS 48), defBody (topS 48), defScope (topS 48), [], []⟩
def d__law_deeds : He.DefD := ⟨("_law_deeds", none), "_law_deeds", "_law_deeds", defArgs (topS 49), defBody (topS 49), defScope (topS 49), [], []⟩
def d__law_image : He.DefD := ⟨("_law_image", none), "_law_image", "_law_image", defArgs (topS 50), defBody (topS 50), defScope (topS 50), [], []⟩
def d__law_heard : He.DefD := ⟨("_law_heard", none), "_law_heard", "_law_heard", defArgs (topS 51), defBody (topS 51), defScope (topS 51), [], []⟩
def d__law_closed_right : He.DefD := ⟨("_law_closed_right", none), "_law_closed_right", "_law_closed_right", defArgs (topS 52), defBody (topS 52), defScope (topS 52), [], []⟩
def d_law : He.DefD := ⟨("law", none), "law", "law", defArgs (topS 53), defBody (topS 53), defScope (topS 53), [], []⟩
def fn : List He.DefD := [d_is_integer, d_is_within, d_is_deed, d_fits, d_ends_then, d_told_deeds, d_ends_behind, d_Tangle_init, d_Tangle_eq, d_need_tangle, d_ring_sizes, d_image_of, d_leading_in, d_need_alike, d_lead_in, d_closed, d__law_pier, d__law_moor, d__law_pick, d__law_deeds, d__law_image, d__law_heard, d__law_closed_right, d_law]
def c_BadTangle : CloD := ⟨fun K => He.ma K (ga K "BadTangle") "__init__", "__init__", "BadTangle.__init__", defArgs (inClass (topS 3) 0), defBody (inClass (topS 3) 0), defScope (inClass (topS 3) 0), ["__class__"]⟩
def c_Misfit : CloD := ⟨fun K => He.ma K (ga K "Misfit") "__init__", "__init__", "Misfit.__init__", defArgs (inClass (topS 4) 0), defBody (inClass (topS 4) 0), defScope (inClass (topS 4) 0), ["__class__"]⟩
def c_TooMany : CloD := ⟨fun K => He.ma K (ga K "TooMany") "__init__", "__init__", "TooMany.__init__", defArgs (inClass (topS 5) 0), defBody (inClass (topS 5) 0), defScope (inClass (topS 5) 0), ["__class__"]⟩
def cs : List CloD := [c_BadTangle, c_Misfit, c_TooMany]
def fa : List He.Fa := [.free "isinstance", .free "int", .free "bool", .free "str", .free "list", .free "tuple", .free "len", .free "all", .free "max", .free "zip", .free "abs", .free "repr", .free "range", .free "super", .int "MOST_RING" 24, .int "MOST_RIM" 16, .int "MOST_DEEDS" 4000, .str "JOIN" "join", .str "OPEN" "open", .str "TURN" "turn", .str "OVER" "over", .glo "WORDS", .glo "Tangle", .glo "RopeError", .glo "TooMany", .glo "Misfit", .glo "BadTangle", .glo "is_integer", .glo "is_within", .glo "is_deed", .glo "fits", .glo "ends_then", .glo "told_deeds", .glo "ends_behind", .glo "need_tangle", .glo "ring_sizes", .glo "image_of", .glo "leading_in", .glo "need_alike", .glo "lead_in", .glo "closed", .glo "_law_pier", .glo "_law_moor", .glo "_law_pick", .glo "_law_deeds", .glo "_law_image", .glo "_law_heard", .glo "_law_closed_right", .glo "law", .exm "TooMany" "RopeError" true, .exm "Misfit" "RopeError" true]
def exs : List (PySem.W.Frag → Bool) := [fun K => He.tupB K "WORDS" (words.map He.Dv.str),
  fun K => ownB K (ga K "Tangle"),
  fun K => noB K (ga K "Tangle") "ends",
  fun K => noB K (ga K "Tangle") "deeds",
  fun K => mkB K (ga K "Tangle"),
  fun K => methB K (ga K "Tangle") "__eq__",
  fun K => PySem.W.notFirst K (ga K "Tangle") (.ref (ga K "Tangle")),
  fun K => oexB K (ga K "BadTangle"),
  fun K => exccB K (ga K "BadTangle"),
  fun K => noB K (ga K "BadTangle") "part",
  fun K => methB K (ga K "BadTangle") "__init__",
  fun K => supB prog K (ga K "BadTangle") (He.ma K (ga K "BadTangle") "__init__"),
  fun K => nmcB K (ga K "BadTangle") "BadTangle",
  fun K => oexB K (ga K "Misfit"),
  fun K => exccB K (ga K "Misfit"),
  fun K => noB K (ga K "Misfit") "part",
  fun K => methB K (ga K "Misfit") "__init__",
  fun K => supB prog K (ga K "Misfit") (He.ma K (ga K "Misfit") "__init__"),
  fun K => nmcB K (ga K "Misfit") "Misfit",
  fun K => oexB K (ga K "TooMany"),
  fun K => exccB K (ga K "TooMany"),
  fun K => noB K (ga K "TooMany") "what",
  fun K => noB K (ga K "TooMany") "most",
  fun K => methB K (ga K "TooMany") "__init__",
  fun K => supB prog K (ga K "TooMany") (He.ma K (ga K "TooMany") "__init__"),
  fun K => kitB K (.ref (ga K "TooMany")) (.ref (ga K "TooMany")) true,
  fun K => kitB K (.ref (ga K "Misfit")) (.ref (ga K "TooMany")) false,
  fun K => kitB K (.ref (ga K "Misfit")) (.ref (ga K "Misfit")) true,
  fun K => kitB K (.type "NoneType") (.ref (ga K "TooMany")) false,
  fun K => kitB K (.type "NoneType") (.ref (ga K "Misfit")) false,
  fun K => !decide (ga K "Misfit" = ga K "TooMany")]
def ex (K : PySem.W.Frag) : Bool := exs.all fun b => b K
def tf : List Lm := [(("law", none), ("law" : Str) ++ ".<locals>." ++ "<lambda>")]
abbrev R : PySem.W.OpenRow := PySem.W.OpenLaw.row PySem.Challenge.rw_ropesays_k65_images_and_closed_tangles
abbrev hk : PySem.W.Hook := hookL 6 fa fn [] tf cs ex
def ob (s : PySem.W.SharedT) : AlL := obsL 6 fa fn [] tf cs ex (HandSHeadRun.getT s)
theorem ob_eq (s : PySem.W.SharedT) : ob s = hk.obs s.abs := obsL_eq (HandSHeadRun.getT_eq s)
theorem b1 {K : PySem.W.Frag} {x qual : Str} {st : Stmt} {f : Addr} {fd : FuncData} : True := trivial
theorem facts {w : World} {h : Heap} {mg : Str → Option Value} {f : Addr} {K : PySem.W.Frag} (X : K.In h) (G : h.Ns mainGlobals mg) (hfa : mg ("law" : Str) = some (.ref f)) (S : SaysL fa fn [] tf cs ex w h K) :
    LawQ PySem.Challenge.rw_ropesays_k65_images_and_closed_tangles w K 11 63 "_law_script" mg f h := by
  have c := S.t.d
  have E : ∀ (i : Nat) (b : PySem.W.Frag → Bool), exs[i]? = some b → b K = true := fun i b e => List.all_eq_true.mp S.more b (List.mem_of_getElem? e)
  have mf : ∀ x : Str, He.Fa.free x ∈ fa → mg x = none := fun x hx => He.free_ok X G (c.facts hx)
  have mgl : ∀ x : Str, He.Fa.glo x ∈ fa → mg x = some (.ref (ga K x)) := fun x hx => He.glo_ok X G (c.facts hx)
  obtain ⟨fd_is_integer, F_is_integer⟩ := c.def_ 0 (d := d_is_integer) rfl
  have F_is_integer : L2.FunD K "is_integer" "is_integer" (defArgs (topS 8)) (defBody (topS 8)) (defScope (topS 8)) [] [] (ga K "is_integer") fd_is_integer := F_is_integer
  obtain ⟨fd_is_within, F_is_within⟩ := c.def_ 1 (d := d_is_within) rfl
  have F_is_within : L2.FunD K "is_within" "is_within" (defArgs (topS 9)) (defBody (topS 9)) (defScope (topS 9)) [] [] (ga K "is_within") fd_is_within := F_is_within
  obtain ⟨fd_is_deed, F_is_deed⟩ := c.def_ 2 (d := d_is_deed) rfl
  have F_is_deed : L2.FunD K "is_deed" "is_deed" (defArgs (topS 26)) (defBody (topS 26)) (defScope (topS 26)) [] [] (ga K "is_deed") fd_is_deed := F_is_deed
  obtain ⟨fd_fits, F_fits⟩ := c.def_ 3 (d := d_fits) rfl
  have F_fits : L2.FunD K "fits" "fits" (defArgs (topS 27)) (defBody (topS 27)) (defScope (topS 27)) [] [] (ga K "fits") fd_fits := F_fits
  obtain ⟨fd_ends_then, F_ends_then⟩ := c.def_ 4 (d := d_ends_then) rfl
  have F_ends_then : L2.FunD K "ends_then" "ends_then" (defArgs (topS 28)) (defBody (topS 28)) (defScope (topS 28)) [] [] (ga K "ends_then") fd_ends_then := F_ends_then
  obtain ⟨fd_told_deeds, F_told_deeds⟩ := c.def_ 5 (d := d_told_deeds) rfl
  have F_told_deeds : L2.FunD K "told_deeds" "told_deeds" (defArgs (topS 29)) (defBody (topS 29)) (defScope (topS 29)) [] [] (ga K "told_deeds") fd_told_deeds := F_told_deeds
  obtain ⟨fd_ends_behind, F_ends_behind⟩ := c.def_ 6 (d := d_ends_behind) rfl
  have F_ends_behind : L2.FunD K "ends_behind" "ends_behind" (defArgs (topS 30)) (defBody (topS 30)) (defScope (topS 30)) [] [] (ga K "ends_behind") fd_ends_behind := F_ends_behind
  obtain ⟨fd_Tangle_init, F_Tangle_init⟩ := c.def_ 7 (d := d_Tangle_init) rfl
  have F_Tangle_init : L2.FunD K "__init__" "Tangle.__init__" (defArgs (inClass (topS 34) 0)) (defBody (inClass (topS 34) 0)) (defScope (inClass (topS 34) 0)) [] [] (He.ma K (ga K "Tangle") "__init__") fd_Tangle_init := F_Tangle_init
  obtain ⟨fd_Tangle_eq, F_Tangle_eq⟩ := c.def_ 8 (d := d_Tangle_eq) rfl
  have F_Tangle_eq : L2.FunD K "__eq__" "Tangle.__eq__" (defArgs (inClass (topS 34) 1)) (defBody (inClass (topS 34) 1)) (defScope (inClass (topS 34) 1)) [] [] (He.ma K (ga K "Tangle") "__eq__") fd_Tangle_eq := F_Tangle_eq
  obtain ⟨fd_need_tangle, F_need_tangle⟩ := c.def_ 9 (d := d_need_tangle) rfl
  have F_need_tangle : L2.FunD K "need_tangle" "need_tangle" (defArgs (topS 35)) (defBody (topS 35)) (defScope (topS 35)) [.str "tangle"] [] (ga K "need_tangle") fd_need_tangle := F_need_tangle
  obtain ⟨fd_ring_sizes, F_ring_sizes⟩ := c.def_ 10 (d := d_ring_sizes) rfl
  have F_ring_sizes : L2.FunD K "ring_sizes" "ring_sizes" (defArgs (topS 38)) (defBody (topS 38)) (defScope (topS 38)) [] [] (ga K "ring_sizes") fd_ring_sizes := F_ring_sizes
  obtain ⟨fd_image_of, F_image_of⟩ := c.def_ 11 (d := d_image_of) rfl
  have F_image_of : L2.FunD K "image_of" "image_of" (defArgs (topS 40)) (defBody (topS 40)) (defScope (topS 40)) [] [] (ga K "image_of") fd_image_of := F_image_of
  obtain ⟨fd_leading_in, F_leading_in⟩ := c.def_ 12 (d := d_leading_in) rfl
  have F_leading_in : L2.FunD K "leading_in" "leading_in" (defArgs (topS 41)) (defBody (topS 41)) (defScope (topS 41)) [] [] (ga K "leading_in") fd_leading_in := F_leading_in
  obtain ⟨fd_need_alike, F_need_alike⟩ := c.def_ 13 (d := d_need_alike) rfl
  have F_need_alike : L2.FunD K "need_alike" "need_alike" (defArgs (topS 42)) (defBody (topS 42)) (defScope (topS 42)) [] [] (ga K "need_alike") fd_need_alike := F_need_alike
  obtain ⟨fd_lead_in, F_lead_in⟩ := c.def_ 14 (d := d_lead_in) rfl
  have F_lead_in : L2.FunD K "lead_in" "lead_in" (defArgs (topS 43)) (defBody (topS 43)) (defScope (topS 43)) [] [] (ga K "lead_in") fd_lead_in := F_lead_in
  obtain ⟨fd_closed, F_closed⟩ := c.def_ 15 (d := d_closed) rfl
  have F_closed : L2.FunD K "closed" "closed" (defArgs (topS 44)) (defBody (topS 44)) (defScope (topS 44)) [] [] (ga K "closed") fd_closed := F_closed
  obtain ⟨fd__law_pier, F__law_pier⟩ := c.def_ 16 (d := d__law_pier) rfl
  have F__law_pier : L2.FunD K "_law_pier" "_law_pier" (defArgs (topS 46)) (defBody (topS 46)) (defScope (topS 46)) [] [] (ga K "_law_pier") fd__law_pier := F__law_pier
  obtain ⟨fd__law_moor, F__law_moor⟩ := c.def_ 17 (d := d__law_moor) rfl
  have F__law_moor : L2.FunD K "_law_moor" "_law_moor" (defArgs (topS 47)) (defBody (topS 47)) (defScope (topS 47)) [] [] (ga K "_law_moor") fd__law_moor := F__law_moor
  obtain ⟨fd__law_pick, F__law_pick⟩ := c.def_ 18 (d := d__law_pick) rfl
  have F__law_pick : L2.FunD K "_law_pick" "_law_pick" (defArgs (topS 48)) (defBody (topS 48)) (defScope (topS 48)) [] [] (ga K "_law_pick") fd__law_pick := F__law_pick
  obtain ⟨fd__law_deeds, F__law_deeds⟩ := c.def_ 19 (d := d__law_deeds) rfl
  have F__law_deeds : L2.FunD K "_law_deeds" "_law_deeds" (defArgs (topS 49)) (defBody (topS 49)) (defScope (topS 49)) [] [] (ga K "_law_deeds") fd__law_deeds := F__law_deeds
  obtain ⟨fd__law_image, F__law_image⟩ := c.def_ 20 (d := d__law_image) rfl
  have F__law_image : L2.FunD K "_law_image" "_law_image" (defArgs (topS 50)) (defBody (topS 50)) (defScope (topS 50)) [] [] (ga K "_law_image") fd__law_image := F__law_image
  obtain ⟨fd__law_heard, F__law_heard⟩ := c.def_ 21 (d := d__law_heard) rfl
  have F__law_heard : L2.FunD K "_law_heard" "_law_heard" (defArgs (topS 51)) (defBody (topS 51)) (defScope (topS 51)) [] [] (ga K "_law_heard") fd__law_heard := F__law_heard
  obtain ⟨fd__law_closed_right, F__law_closed_right⟩ := c.def_ 22 (d := d__law_closed_right) rfl
  have F__law_closed_right : L2.FunD K "_law_closed_right" "_law_closed_right" (defArgs (topS 52)) (defBody (topS 52)) (defScope (topS 52)) [] [] (ga K "_law_closed_right") fd__law_closed_right := F__law_closed_right
  obtain ⟨fd_law, F_law⟩ := c.def_ 23 (d := d_law) rfl
  have F_law : L2.FunD K "law" "law" (defArgs (topS 53)) (defBody (topS 53)) (defScope (topS 53)) [] [] (ga K "law") fd_law := F_law
  have B_is_integer := F_is_integer.bindsN (ps := ["value"]) fun _ _ _ _ _ _ us hl => match us, hl with | [_], _ => rfl
  have B_is_within := F_is_within.bindsN (ps := ["value", "least", "most"]) fun _ _ _ _ _ _ us hl => match us, hl with | [_, _, _], _ => rfl
  have B_is_deed := F_is_deed.bindsN (ps := ["value"]) fun _ _ _ _ _ _ us hl => match us, hl with | [_], _ => rfl
  have B_fits := F_fits.bindsN (ps := ["ends", "word", "gap"]) fun _ _ _ _ _ _ us hl => match us, hl with | [_, _, _], _ => rfl
  have B_ends_then := F_ends_then.bindsN (ps := ["ends", "word"]) fun _ _ _ _ _ _ us hl => match us, hl with | [_, _], _ => rfl
  have B_told_deeds := F_told_deeds.bindsN (ps := ["value"]) fun _ _ _ _ _ _ us hl => match us, hl with | [_], _ => rfl
  have B_ends_behind := F_ends_behind.bindsN (ps := ["ends", "deeds"]) fun _ _ _ _ _ _ us hl => match us, hl with | [_, _], _ => rfl
  have B_Tangle_init := F_Tangle_init.bindsN (ps := ["self", "ends", "deeds"]) fun _ _ _ _ _ _ us hl => match us, hl with | [_, _, _], _ => rfl
  have B_Tangle_eq := F_Tangle_eq.bindsN (ps := ["self", "other"]) fun _ _ _ _ _ _ us hl => match us, hl with | [_, _], _ => rfl
  have B_ring_sizes := F_ring_sizes.bindsN (ps := ["ends", "deeds"]) fun _ _ _ _ _ _ us hl => match us, hl with | [_, _], _ => rfl
  have B_image_of := F_image_of.bindsN (ps := ["deed", "ends"]) fun _ _ _ _ _ _ us hl => match us, hl with | [_, _], _ => rfl
  have B_leading_in := F_leading_in.bindsN (ps := ["tangle"]) fun _ _ _ _ _ _ us hl => match us, hl with | [_], _ => rfl
  have B_need_alike := F_need_alike.bindsN (ps := ["one", "other"]) fun _ _ _ _ _ _ us hl => match us, hl with | [_, _], _ => rfl
  have B_lead_in := F_lead_in.bindsN (ps := ["tangle"]) fun _ _ _ _ _ _ us hl => match us, hl with | [_], _ => rfl
  have B_closed := F_closed.bindsN (ps := ["one", "other"]) fun _ _ _ _ _ _ us hl => match us, hl with | [_, _], _ => rfl
  have B__law_pier := F__law_pier.bindsN (ps := ["_law_script"]) fun _ _ _ _ _ _ us hl => match us, hl with | [_], _ => rfl
  have B__law_moor := F__law_moor.bindsN (ps := ["_law_pier_here", "_law_many"]) fun _ _ _ _ _ _ us hl => match us, hl with | [_, _], _ => rfl
  have B__law_pick := F__law_pick.bindsN (ps := ["_law_pier_here", "_law_some"]) fun _ _ _ _ _ _ us hl => match us, hl with | [_, _], _ => rfl
  have B__law_deeds := F__law_deeds.bindsN (ps := ["_law_pier_here", "_law_ends", "_law_many", "_law_most"]) fun _ _ _ _ _ _ us hl => match us, hl with | [_, _, _, _], _ => rfl
  have B__law_image := F__law_image.bindsN (ps := ["_law_ends", "_law_deeds_here"]) fun _ _ _ _ _ _ us hl => match us, hl with | [_, _], _ => rfl
  have B__law_heard := F__law_heard.bindsN (ps := ["_law_ask"]) fun _ _ _ _ _ _ us hl => match us, hl with | [_], _ => rfl
  have B__law_closed_right := F__law_closed_right.bindsN (ps := ["_law_ends", "_law_mine", "_law_its"]) fun _ _ _ _ _ _ us hl => match us, hl with | [_, _, _], _ => rfl
  have B_law := F_law.bindsN (ps := ["_law_script"]) fun _ _ _ _ _ _ us hl => match us, hl with | [_], _ => rfl
  have T : Txt K mg := {
    isinstance := mf _ (List.mem_of_getElem? (i := 0) rfl), int := mf _ (List.mem_of_getElem? (i := 1) rfl), bool := mf _ (List.mem_of_getElem? (i := 2) rfl), str := mf _ (List.mem_of_getElem? (i := 3) rfl), list := mf _ (List.mem_of_getElem? (i := 4) rfl), tuple := mf _ (List.mem_of_getElem? (i := 5) rfl), len := mf _ (List.mem_of_getElem? (i := 6) rfl), all := mf _ (List.mem_of_getElem? (i := 7) rfl), max := mf _ (List.mem_of_getElem? (i := 8) rfl), zip := mf _ (List.mem_of_getElem? (i := 9) rfl), abs := mf _ (List.mem_of_getElem? (i := 10) rfl), repr := mf _ (List.mem_of_getElem? (i := 11) rfl), range := mf _ (List.mem_of_getElem? (i := 12) rfl)
    c_MOST_RING := cst_int X G (c.fact 14 rfl)
    c_MOST_RIM := cst_int X G (c.fact 15 rfl)
    c_MOST_DEEDS := cst_int X G (c.fact 16 rfl)
    c_JOIN := cst_str X G (c.fact 17 rfl)
    c_OPEN := cst_str X G (c.fact 18 rfl)
    c_TURN := cst_str X G (c.fact 19 rfl)
    c_OVER := cst_str X G (c.fact 20 rfl)
    c_WORDS := cst_tup X G (c.fact 21 rfl) (E 0 _ rfl) fun A => strs_dr words
    m_Tangle := mgl _ (List.mem_of_getElem? (i := 22) rfl)
    own_Tangle := ownB_ok (E 1 _ rfl)
    f_ends := ⟨(ownB_ok (E 1 _ rfl)).ci.cl, noB_ok (E 2 _ rfl)⟩
    f_deeds := ⟨(ownB_ok (E 1 _ rfl)).ci.cl, noB_ok (E 3 _ rfl)⟩
    m_RopeError := mgl _ (List.mem_of_getElem? (i := 23) rfl)
    m_TooMany := mgl _ (List.mem_of_getElem? (i := 24) rfl)
    m_Misfit := mgl _ (List.mem_of_getElem? (i := 25) rfl)
    isE_TooMany := fun d b h => isExc_ok (of_decide_eq_true (E 28 _ rfl)) (fun C b hc => by
      unfold catM at hc
      split at hc
      · rename_i e; cases hc; rw [e]; exact ⟨exccB_ok (E 20 _ rfl), of_decide_eq_true (E 25 _ rfl)⟩
      · split at hc
        · rename_i e; cases hc; rw [e]; exact ⟨exccB_ok (E 14 _ rfl), of_decide_eq_true (E 26 _ rfl)⟩
        · cases hc) h
    isE_Misfit := fun d b h => isExc_ok (of_decide_eq_true (E 29 _ rfl)) (fun C b hc => by
      unfold catF at hc
      split at hc
      · rename_i e; cases hc; rw [e]; exact ⟨exccB_ok (E 14 _ rfl), of_decide_eq_true (E 27 _ rfl)⟩
      · cases hc) h
    ex_Rope := fun C b hc => by
      unfold catR at hc
      split at hc
      · rename_i e; cases hc; rw [e]; exact He.exm_ok (c.fact 49 rfl)
      · split at hc
        · rename_i e; cases hc; rw [e]; exact He.exm_ok (c.fact 50 rfl)
        · cases hc
    ne_kinds := eq_false fun z => by
      have q := (E 30 _ rfl)
      simp only [Bool.not_eq_true', decide_eq_false_iff_not] at q
      exact q z
    x_what := xfOkB (E 20 _ rfl) (E 21 _ rfl)
    x_most := xfOkB (E 20 _ rfl) (E 22 _ rfl)
    x_part := xfOkB (E 14 _ rfl) (E 15 _ rfl) }
  obtain ⟨t1, t2, t3, t4⟩ := S.cs X
  obtain ⟨l1, l2, l3⟩ := S.lam (p := (("law", none), ("law" : Str) ++ ".<locals>." ++ "<lambda>")) (List.mem_of_getElem? (i := 0) rfl)
  refine ⟨fd_law, _, sp_law, t1, t2, t3, fun s u => ?_, t4, fun ns hl hb => ⟨ns, rfl, fun _ => rfl⟩, fun base hbK hbN hbT => ?_⟩
  · exact (F_law.bindsA (ps := ["_law_script"]) (fun _ _ _ _ _ _ us hl => match us, hl with | [_], _ => rfl)) s [u] rfl
  have e_law := hfa.symm.trans (mgl _ (List.mem_of_getElem? (i := 48) rfl))
  cases e_law
  have X_BadTangle : Q_BadTangle prog w K mg base := by
    obtain ⟨q1, q2⟩ := S.clo c_BadTangle (List.mem_of_getElem? (i := 0) rfl)
    obtain ⟨oc, od, cl, kV, doc, pm, an, ct, osl, h1, h2, h3, h4⟩ := CloD.fun q1 q2
    have h5 := clo_one h1 h2
    have M := methB_ok (E 10 _ rfl)
    have O := oexB_ok (E 7 _ rfl)
    have U := supB_ok (E 11 _ rfl) (by decide +kernel) (mf "super" (List.mem_of_getElem? (i := 13) rfl))
    refine ⟨_, _, ["self", "part"], O, M.1, isFn_ty M.2.1, ini1 (st := inClass (topS 3) 0) (F := ⟨"__init__", "BadTangle.__init__", _, _, _, cl, _⟩) ⟨⟨oc, od, .none, kV, doc, pm, an, ct, osl, rfl, h3, h4⟩, rfl, rfl, rfl⟩ O U h5 (nscope_by (show nscB ["self", "part", "__class__"] ["self", "part"] ["__class__"] (defScope (inClass (topS 3) 0)) = true by decide +kernel)) rfl rfl rfl rfl rfl (supArg_name (nmcB_ok (E 8 _ rfl) (E 12 _ rfl)) rfl (.inl rfl) (by decide) (by decide) (fun _ => rfl) (fun _ => rfl)) (fun L => ⟨_, rfl, rfl, rfl, rfl⟩) (noB_ok (E 9 _ rfl)) (by decide) (fun _ => rfl), .all fun us hl => match us, hl with | [_, _], _ => rfl, mgl _ (List.mem_of_getElem? (i := 26) rfl)⟩
  have X_Misfit : Q_Misfit prog w K mg base := by
    obtain ⟨q1, q2⟩ := S.clo c_Misfit (List.mem_of_getElem? (i := 1) rfl)
    obtain ⟨oc, od, cl, kV, doc, pm, an, ct, osl, h1, h2, h3, h4⟩ := CloD.fun q1 q2
    have h5 := clo_one h1 h2
    have M := methB_ok (E 16 _ rfl)
    have O := oexB_ok (E 13 _ rfl)
    have U := supB_ok (E 17 _ rfl) (by decide +kernel) (mf "super" (List.mem_of_getElem? (i := 13) rfl))
    refine ⟨_, _, ["self", "part"], O, M.1, isFn_ty M.2.1, ini1 (st := inClass (topS 4) 0) (F := ⟨"__init__", "Misfit.__init__", _, _, _, cl, _⟩) ⟨⟨oc, od, .none, kV, doc, pm, an, ct, osl, rfl, h3, h4⟩, rfl, rfl, rfl⟩ O U h5 (nscope_by (show nscB ["self", "part", "__class__"] ["self", "part"] ["__class__"] (defScope (inClass (topS 4) 0)) = true by decide +kernel)) rfl rfl rfl rfl rfl (supArg_name (nmcB_ok (E 14 _ rfl) (E 18 _ rfl)) rfl (.inl rfl) (by decide) (by decide) (fun _ => rfl) (fun _ => rfl)) (fun L => ⟨_, rfl, rfl, rfl, rfl⟩) (noB_ok (E 15 _ rfl)) (by decide) (fun _ => rfl), .all fun us hl => match us, hl with | [_, _], _ => rfl, mgl _ (List.mem_of_getElem? (i := 25) rfl)⟩
  have X_TooMany : Q_TooMany prog w K mg base := by
    obtain ⟨q1, q2⟩ := S.clo c_TooMany (List.mem_of_getElem? (i := 2) rfl)
    obtain ⟨oc, od, cl, kV, doc, pm, an, ct, osl, h1, h2, h3, h4⟩ := CloD.fun q1 q2
    have h5 := clo_one h1 h2
    have M := methB_ok (E 23 _ rfl)
    have O := oexB_ok (E 19 _ rfl)
    have U := supB_ok (E 24 _ rfl) (by decide +kernel) (mf "super" (List.mem_of_getElem? (i := 13) rfl))
    refine ⟨_, _, ["self", "what", "most"], O, M.1, isFn_ty M.2.1, ini2 (st := inClass (topS 5) 0) (F := ⟨"__init__", "TooMany.__init__", _, _, _, cl, _⟩) ⟨⟨oc, od, .none, kV, doc, pm, an, ct, osl, rfl, h3, h4⟩, rfl, rfl, rfl⟩ O U h5 (nscope_by (show nscB ["self", "what", "most", "__class__"] ["self", "what", "most"] ["__class__"] (defScope (inClass (topS 5) 0)) = true by decide +kernel)) rfl rfl rfl rfl rfl supArg_str (fun L => ⟨_, rfl, rfl, rfl, rfl⟩) (noB_ok (E 21 _ rfl)) (noB_ok (E 22 _ rfl)) (by decide) (fun _ => rfl) (fun _ => rfl), .all fun us hl => match us, hl with | [_, _, _], _ => rfl, mgl _ (List.mem_of_getElem? (i := 24) rfl)⟩
  have G_is_integer : Q_is_integer prog w K mg base := Ok.mk' (funD_fun (st := topS 8) F_is_integer) (mgl _ (List.mem_of_getElem? (i := 27) rfl)) B_is_integer (ok_is_integer (funD_fun (st := topS 8) F_is_integer) T )
  have G_is_within : Q_is_within prog w K mg base := Ok.mk' (funD_fun (st := topS 9) F_is_within) (mgl _ (List.mem_of_getElem? (i := 28) rfl)) B_is_within (ok_is_within (funD_fun (st := topS 9) F_is_within) T G_is_integer)
  have G_is_deed : Q_is_deed prog w K mg base := Ok.mk' (funD_fun (st := topS 26) F_is_deed) (mgl _ (List.mem_of_getElem? (i := 29) rfl)) B_is_deed (ok_is_deed (funD_fun (st := topS 26) F_is_deed) T G_is_within)
  have G_fits : Q_fits prog w K mg base := Ok.mk' (funD_fun (st := topS 27) F_fits) (mgl _ (List.mem_of_getElem? (i := 30) rfl)) B_fits (ok_fits (funD_fun (st := topS 27) F_fits) T )
  have G_ends_then : Q_ends_then prog w K mg base := Ok.mk' (funD_fun (st := topS 28) F_ends_then) (mgl _ (List.mem_of_getElem? (i := 31) rfl)) B_ends_then (ok_ends_then (funD_fun (st := topS 28) F_ends_then) T )
  have G_told_deeds : Q_told_deeds prog w K mg base := Ok.mk' (funD_fun (st := topS 29) F_told_deeds) (mgl _ (List.mem_of_getElem? (i := 32) rfl)) B_told_deeds (ok_told_deeds (funD_fun (st := topS 29) F_told_deeds) T G_is_deed X_BadTangle)
  have G_ends_behind : Q_ends_behind prog w K mg base := Ok.mk' (funD_fun (st := topS 30) F_ends_behind) (mgl _ (List.mem_of_getElem? (i := 33) rfl)) B_ends_behind (ok_ends_behind (funD_fun (st := topS 30) F_ends_behind) T G_ends_then G_fits X_Misfit X_TooMany)
  have G_Tangle : Q_Tangle prog w K mg base := ⟨_, _, _, [], ok_Tangle_init (funD_fun (st := inClass (topS 34) 0) F_Tangle_init) T G_ends_behind G_is_within G_told_deeds X_BadTangle X_Misfit, T.m_Tangle, mkB_ok (E 4 _ rfl), B_Tangle_init, .nil⟩
  have G_eq : Q_eq prog w K mg base := by
    have M := methB_ok (E 5 _ rfl)
    exact ⟨_, _, _, ok_Tangle_eq (funD_fun (st := inClass (topS 34) 1) F_Tangle_eq) T , M.1, M.2.1, B_Tangle_eq, T.own_Tangle.ci.cl, (E 6 _ rfl)⟩
  have K_need_tangle := ok_need_tangle (P := prog) (w := w) (base := base) F_need_tangle T X_BadTangle
  have G_need_tangle : Q_need_tangle prog w K mg base := by
    obtain ⟨ds, v, b⟩ := F_need_tangle.binds1 (ps := ["value", "part"]) 2 1 (by decide) rfl fun T kV doc pm an cdv ct us its hu hi => match us, its, hu, hi with | [_, _], [_], _, _ => ⟨_, rfl, rfl⟩
    exact ⟨_, _, _, ds, K_need_tangle, mgl _ (List.mem_of_getElem? (i := 34) rfl), F_need_tangle.kp, b, v⟩
  have G_need_tangle1 : Q_need_tangle1 prog w K mg base := by
    obtain ⟨ds, v, b⟩ := F_need_tangle.binds1 (ps := ["value", "part"]) 1 0 (by decide) rfl fun T kV doc pm an cdv ct us its hu hi => match us, its, hu, hi with | [_], [_], _, _ => ⟨_, rfl, rfl⟩
    exact ⟨_, _, _, ds, K_need_tangle, mgl _ (List.mem_of_getElem? (i := 34) rfl), F_need_tangle.kp, b, v⟩
  have G_ring_sizes : Q_ring_sizes prog w K mg base := Ok.mk' (funD_fun (st := topS 38) F_ring_sizes) (mgl _ (List.mem_of_getElem? (i := 35) rfl)) B_ring_sizes (ok_ring_sizes (funD_fun (st := topS 38) F_ring_sizes) T G_ends_then)
  have G_image_of : Q_image_of prog w K mg base := Ok.mk' (funD_fun (st := topS 40) F_image_of) (mgl _ (List.mem_of_getElem? (i := 36) rfl)) B_image_of (ok_image_of (funD_fun (st := topS 40) F_image_of) T )
  have G_leading_in : Q_leading_in prog w K mg base := Ok.mk' (funD_fun (st := topS 41) F_leading_in) (mgl _ (List.mem_of_getElem? (i := 37) rfl)) B_leading_in (ok_leading_in (funD_fun (st := topS 41) F_leading_in) T G_image_of G_ring_sizes)
  have G_need_alike : Q_need_alike prog w K mg base := Ok.mk' (funD_fun (st := topS 42) F_need_alike) (mgl _ (List.mem_of_getElem? (i := 38) rfl)) B_need_alike (ok_need_alike (funD_fun (st := topS 42) F_need_alike) T X_Misfit)
  have G_lead_in : Q_lead_in prog w K mg base := Ok.mk' (funD_fun (st := topS 43) F_lead_in) (mgl _ (List.mem_of_getElem? (i := 39) rfl)) B_lead_in (ok_lead_in (funD_fun (st := topS 43) F_lead_in) T G_leading_in G_need_tangle1)
  have G_lead_in_tangle : Q_lead_in_tangle prog w K mg base := ⟨_, _, _, ok_lead_in (funD_fun (st := topS 43) F_lead_in) T G_leading_in G_need_tangle1, mgl _ (List.mem_of_getElem? (i := 39) rfl), F_lead_in.kp, fun s ws hl => by
    obtain ⟨oc, od, kV, doc, pm, an, cdv, ct, osl, rfl, lk, hcd⟩ := (funD_fun (st := topS 43) F_lead_in).ex
    exact .of_eq (match ws, hl with | [_], _ => rfl)⟩
  have G_closed : Q_closed prog w K mg base := Ok.mk' (funD_fun (st := topS 44) F_closed) (mgl _ (List.mem_of_getElem? (i := 40) rfl)) B_closed (ok_closed (funD_fun (st := topS 44) F_closed) T G_Tangle G_leading_in G_need_alike G_need_tangle X_TooMany)
  have G_closed_other_one : Q_closed_other_one prog w K mg base := ⟨_, _, _, ok_closed (funD_fun (st := topS 44) F_closed) T G_Tangle G_leading_in G_need_alike G_need_tangle X_TooMany, mgl _ (List.mem_of_getElem? (i := 40) rfl), F_closed.kp, fun s ws hl => by
    obtain ⟨oc, od, kV, doc, pm, an, cdv, ct, osl, rfl, lk, hcd⟩ := (funD_fun (st := topS 44) F_closed).ex
    exact .of_eq (match ws, hl with | [_, _], _ => rfl)⟩
  have G__law_pier : Q__law_pier prog w K mg base := Ok.mk' (funD_fun (st := topS 46) F__law_pier) (mgl _ (List.mem_of_getElem? (i := 41) rfl)) B__law_pier (ok__law_pier (funD_fun (st := topS 46) F__law_pier) T )
  have G__law_moor : Q__law_moor prog w K mg base := Ok.mk' (funD_fun (st := topS 47) F__law_moor) (mgl _ (List.mem_of_getElem? (i := 42) rfl)) B__law_moor (ok__law_moor (funD_fun (st := topS 47) F__law_moor) T )
  have G__law_pick : Q__law_pick prog w K mg base := Ok.mk' (funD_fun (st := topS 48) F__law_pick) (mgl _ (List.mem_of_getElem? (i := 43) rfl)) B__law_pick (ok__law_pick (funD_fun (st := topS 48) F__law_pick) T G__law_moor)
  have G__law_deeds : Q__law_deeds prog w K mg base := Ok.mk' (funD_fun (st := topS 49) F__law_deeds) (mgl _ (List.mem_of_getElem? (i := 44) rfl)) B__law_deeds (ok__law_deeds (funD_fun (st := topS 49) F__law_deeds) T G__law_moor G__law_pick)
  have G__law_image : Q__law_image prog w K mg base := Ok.mk' (funD_fun (st := topS 50) F__law_image) (mgl _ (List.mem_of_getElem? (i := 45) rfl)) B__law_image (ok__law_image (funD_fun (st := topS 50) F__law_image) T )
  have HK : HeardK K mg "_law_heard" "_law_ask" "error" "_law_caught" "RopeError" s_heard Nh 2 1 (.ref (He.ga K "RopeError")) (catR K) := {
    fn := ⟨_, _, funD_fun (st := s_heard) F__law_heard, mgl _ (List.mem_of_getElem? (i := 46) rfl), B__law_heard⟩
    sc := sc_heard
    ia := rfl, ii := rfl, ij := rfl, ne := by decide, ne0 := by decide
    va := .inl rfl, ln := rfl, ly := rfl, gc := rfl
    mc := T.m_RopeError
    dn := by decide
    cat := T.ex_Rope }
  have G__law_closed_right : Q__law_closed_right prog w K mg base := Ok.mk' (funD_fun (st := topS 52) F__law_closed_right) (mgl _ (List.mem_of_getElem? (i := 47) rfl)) B__law_closed_right (ok__law_closed_right (funD_fun (st := topS 52) F__law_closed_right) T G_Tangle G__law_image G_closed G_closed_other_one G_eq G_lead_in G_lead_in_tangle)
  exact ok_law (P := prog) (funD_fun (st := s_law) F_law) (funD_code F_law) (hbT _ l3) l1 l2 HK T G_Tangle G__law_closed_right G__law_deeds G__law_moor G__law_pick G__law_pier G_closed
end K65
set_option Elab.async false
set_option linter.all false
set_option maxRecDepth 100000
set_option maxHeartbeats 0
namespace K65
open PySem PySem.Spec PyProof.Rows L2 RL
def names0 : List PySem.Str := ["_wall", "__name__", "RopeError", "BadTangle", "Misfit", "TooMany", "BadText", "is_integer", "is_within", "FIGURES", "MOST_FIGURES", "written", "Scan", "scans_of", "scan_at", "MOST_RIM", "MOST_RING", "MOST_DEEDS", "JOIN", "OPEN", "TURN", "CROSSINGS", "WORDS", "is_deed", "fits", "ends_then", "told_deeds", "ends_behind", "taken_ends", "taken_deed"]
def names1 : List PySem.Str := ["taken_deeds", "Tangle", "need_tangle", "OVER", "ring_sizes", "image_of", "leading_in", "need_alike", "lead_in", "closed", "_law_pier", "_law_moor", "_law_pick", "_law_deeds", "_law_image", "_law_heard", "_law_closed_right"]
def names : List PySem.Str := names0 ++ names1
theorem head_run (w : World) : HandSHeadRun.RunEq R (PySem.W.view R.prog [53]) hk ob 20000 names w := by
  intro os
  kernel_rfl
end K65
set_option Elab.async false
set_option linter.all false
set_option maxRecDepth 100000
set_option maxHeartbeats 0
open PySem PySem.W PySem.Calls PyProof.Rows
theorem PySem.Challenge.cw_ropesays_k65_images_and_closed_tangles_holds : PySem.Challenge.rw_ropesays_k65_images_and_closed_tangles.Holds := by
  w_on; o_law
  refine HandSHeadRun.head_any (r := OpenLaw.row PySem.Challenge.rw_ropesays_k65_images_and_closed_tangles) (q := view (OpenLaw.row PySem.Challenge.rw_ropesays_k65_images_and_closed_tangles).prog [53]) (H := K65.hk) (ob := K65.ob) (M := 20000) (loose := K65.names)
    (d := HandSHeadRun.topDef (OpenLaw.row PySem.Challenge.rw_ropesays_k65_images_and_closed_tangles).prog 53) (kwd := []) K65.ob_eq (by kernel_rfl) (fun s => by kernel_rfl) K65.head_run (by kernel_rfl) (by kernel_rfl) (by kernel_rfl) (by rfl) (by first | assumption | decide +kernel) (by decide +kernel) ⟨rfl, rfl, rfl, rfl, rfl, by decide +kernel⟩ ?hw ?hc
  case hw => w_witness2
  case hc =>
    refine RL.walk_ofQ (l := PySem.Challenge.rw_ropesays_k65_images_and_closed_tangles) (n := 63) (k := 11) (x := "_law_script") rfl (by decide) (by kernel_rfl) ⟨rfl, by decide, by decide⟩ ?F
    intro w mg fa h Y G hmg0
    obtain ⟨K, KX, c⟩ := Y
    have hmg : mg ("law" : PySem.Str) = some (.ref fa) := by
      have e : (HandSHeadRun.topDef (OpenLaw.row PySem.Challenge.rw_ropesays_k65_images_and_closed_tangles).prog 53).name = ("law" : PySem.Str) := by kernel_rfl
      rw [← e]
      exact hmg0
    exact ⟨K, KX, K65.facts KX G hmg c⟩
