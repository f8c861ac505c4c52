import PyProof.Rows.All
import HandS.ForMost
import HandS.Deep
import HandS.Walk
import HandS.Flow
import HandS.WideBits
import HandS.TupAny
import HandS.Gcd
import HandS.IsInst
import HandS.Ends
import PySem.Challenge.RW_floodmark_k01_vectors_combined
set_option Elab.async false
set_option linter.all false
set_option maxRecDepth 100000
/-! Fx: what a reading computes, as a plain function on data. Values: data (PyData); a slot holds shared data, or a list (tree) that it owns alone. -/
namespace Fx
open PySem PySem.Spec L2

abbrev D := PyData
abbrev Fr := PySem.W.Frag

/-- p, as a Bool that nothing reckons -/
noncomputable def yes (p : Prop) : Bool := @decide p (Classical.propDecidable p)
theorem of_yes {p : Prop} (h : yes p = true) : p := @of_decide_eq_true p (Classical.propDecidable p) h
theorem yes_of {p : Prop} (h : p) : yes p = true := @decide_eq_true p (Classical.propDecidable p) h
mutual
theorem dpMono {K : Fr} {G H : Hp} (e : Same G H) : ∀ (d : D) (v : V), Dp K G v d → Dp K H v d
  | .none, _, h => by cases h; exact .non
  | .bool b, _, h => by cases h; exact .bl b
  | .int i, _, h => by cases h; exact .int i
  | .str x, _, h => by cases h; exact .str x
  | .list ds, _, h => by
    cases h with
    | lst hs ha => exact .lst (e.seq hs) (dpsMono e ds _ ha)
  | .tuple ds, _, h => by
    cases h with
    | tup hs ha =>
      refine .tup ?_ (dpsMono e ds _ ha)
      rcases hs with (h | ⟨o, h⟩) | h
      · exact .inl (.inl (e _ _ h))
      · exact .inl (.inr ⟨o, e _ _ h⟩)
      · exact .inr h
  | .dict _, _, h => by cases h
theorem dpsMono {K : Fr} {G H : Hp} (e : Same G H) : ∀ (ds : List D) (vs : List V), DpAll K G vs ds → DpAll K H vs ds
  | [], _, h => by cases h; exact .nil
  | d :: ds, _, h => by
    cases h with
    | cons h1 h2 => exact .cons (dpMono e d _ h1) (dpsMono e ds _ h2)
end
theorem dpsLen {K : Fr} {G : Hp} : ∀ {vs : List V} {ds : List D}, DpAll K G vs ds → vs.length = ds.length
  | _, _, .nil => rfl
  | _, _, .cons _ h => by simp [dpsLen h]
theorem dpsApp {K : Fr} {G : Hp} : ∀ {vs ws : List V} {ds es : List D}, DpAll K G vs ds → DpAll K G ws es → DpAll K G (vs ++ ws) (ds ++ es)
  | _, _, _, _, .nil, h => h
  | _, _, _, _, .cons a t, h => .cons a (dpsApp t h)
theorem dpsGet {K : Fr} {G : Hp} : ∀ {vs : List V} {ds : List D} {i : Nat} {d : D}, DpAll K G vs ds → ds[i]? = some d → ∃ v, vs[i]? = some v ∧ Dp K G v d
  | _, _, _, _, .nil, e => by simp at e
  | _, _, 0, _, .cons a _, e => by simp at e; subst e; exact ⟨_, by simp, a⟩
  | _, _, i + 1, _, .cons _ t, e => by
    obtain ⟨v, h1, h2⟩ := dpsGet (i := i) t (by simpa using e)
    exact ⟨v, by simpa using h1, h2⟩
theorem dpsGetV {K : Fr} {G : Hp} : ∀ {vs : List V} {ds : List D} {i : Nat} {v : V}, DpAll K G vs ds → vs[i]? = some v → ∃ d, ds[i]? = some d ∧ Dp K G v d
  | _, _, _, _, .nil, e => by simp at e
  | _, _, 0, _, .cons a _, e => by simp at e; subst e; exact ⟨_, by simp, a⟩
  | _, _, i + 1, _, .cons _ t, e => by
    obtain ⟨v, h1, h2⟩ := dpsGetV (i := i) t (by simpa using e)
    exact ⟨v, by simpa using h1, h2⟩
theorem dpsSet {K : Fr} {G : Hp} {v : V} {d : D} (h : Dp K G v d) : ∀ {vs : List V} {ds : List D} (i : Nat), DpAll K G vs ds → DpAll K G (vs.set i v) (ds.set i d)
  | _, _, _, .nil => .nil
  | _, _, 0, .cons _ t => .cons h t
  | _, _, i + 1, .cons a t => .cons a (dpsSet h i t)
theorem dpsTake {K : Fr} {G : Hp} : ∀ {vs : List V} {ds : List D} (n : Nat), DpAll K G vs ds → DpAll K G (vs.take n) (ds.take n)
  | _, _, 0, _ => by simpa using DpAll.nil
  | _, _, _ + 1, .nil => by simpa using DpAll.nil
  | _, _, n + 1, .cons a t => by simpa using DpAll.cons a (dpsTake n t)
theorem dpsDrop {K : Fr} {G : Hp} : ∀ {vs : List V} {ds : List D} (n : Nat), DpAll K G vs ds → DpAll K G (vs.drop n) (ds.drop n)
  | _, _, 0, h => by simpa using h
  | _, _, _ + 1, .nil => by simpa using DpAll.nil
  | _, _, n + 1, .cons _ t => by simpa using dpsDrop n t

/-! ### scalars -/
/-- a scalar and its value: no object -/
inductive Sc : V → D → Prop
  | non : Sc .non .none
  | bl (b : Bool) : Sc (.bl b) (.bool b)
  | int (i : Int) : Sc (.int i) (.int i)
  | str (x : Str) : Sc (.str x) (.str x)
theorem Sc.dp {K : Fr} {G : Hp} {v : V} {d : D} (h : Sc v d) : Dp K G v d := by
  cases h
  · exact .non
  · exact .bl _
  · exact .int _
  · exact .str _
def isSc : D → Bool
  | .none | .bool _ | .int _ | .str _ => true
  | _ => false
theorem scOf {K : Fr} {G : Hp} {v : V} {d : D} (h : Dp K G v d) (s : isSc d = true) : Sc v d := by
  cases h
  · exact .non
  · exact .bl _
  · exact .int _
  · exact .str _
  · cases s
  · cases s

/-! ### owned trees -/
mutual
/-- v stands for d, every object of it at its own place in fp -/
inductive Tr (H : Hp) : V → D → List Addr → Prop
  | sc {v : V} {d : D} : Sc v d → Tr H v d []
  | lst {a : Addr} {xs : List V} {ds : List D} {fp : List Addr} : H a = some (.lst xs) → TrAll H xs ds fp → Tr H (.ref a) (.list ds) (a :: fp)
  | tup {a : Addr} {xs : List V} {ds : List D} {fp : List Addr} : H a = some (.tup xs) → TrAll H xs ds fp → Tr H (.ref a) (.tuple ds) (a :: fp)
inductive TrAll (H : Hp) : List V → List D → List Addr → Prop
  | nil : TrAll H [] [] []
  | cons {v : V} {vs : List V} {d : D} {ds : List D} {fp fq : List Addr} : Tr H v d fp → TrAll H vs ds fq → TrAll H (v :: vs) (d :: ds) (fp ++ fq)
end
mutual
theorem trMono {H H' : Hp} : ∀ (d : D) (v : V) (fp : List Addr), Tr H v d fp → (∀ b ∈ fp, ∀ x, H b = some x → H' b = some x) → Tr H' v d fp
  | .none, _, _, h, _ => by cases h; exact .sc (by assumption)
  | .bool b, _, _, h, _ => by cases h; exact .sc (by assumption)
  | .int i, _, _, h, _ => by cases h; exact .sc (by assumption)
  | .str x, _, _, h, _ => by cases h; exact .sc (by assumption)
  | .list ds, _, _, h, k => by
    cases h with
    | sc h => cases h
    | lst h1 h2 => exact .lst (k _ (by simp) _ h1) (trsMono ds _ _ h2 fun b hb => k b (by simp [hb]))
  | .tuple ds, _, _, h, k => by
    cases h with
    | sc h => cases h
    | tup h1 h2 => exact .tup (k _ (by simp) _ h1) (trsMono ds _ _ h2 fun b hb => k b (by simp [hb]))
  | .dict _, _, _, h, _ => by cases h with
    | sc h => cases h
theorem trsMono {H H' : Hp} : ∀ (ds : List D) (vs : List V) (fp : List Addr), TrAll H vs ds fp → (∀ b ∈ fp, ∀ x, H b = some x → H' b = some x) → TrAll H' vs ds fp
  | [], _, _, h, _ => by cases h; exact .nil
  | d :: ds, _, _, h, k => by
    cases h with
    | cons h1 h2 => exact .cons (trMono d _ _ h1 fun b hb => k b (by simp [hb])) (trsMono ds _ _ h2 fun b hb => k b (by simp [hb]))
end
mutual
theorem trDp {K : Fr} {H : Hp} : ∀ (d : D) (v : V) (fp : List Addr), Tr H v d fp → Dp K H v d
  | .none, _, _, h => by cases h with | sc h => exact h.dp
  | .bool b, _, _, h => by cases h with | sc h => exact h.dp
  | .int i, _, _, h => by cases h with | sc h => exact h.dp
  | .str x, _, _, h => by cases h with | sc h => exact h.dp
  | .list ds, _, _, h => by
    cases h with
    | sc h => cases h
    | lst h1 h2 => exact .lst (SqL.of h1) (trsDp ds _ _ h2)
  | .tuple ds, _, _, h => by
    cases h with
    | sc h => cases h
    | tup h1 h2 => exact .tup (SqT.of h1) (trsDp ds _ _ h2)
  | .dict _, _, _, h => by cases h with
    | sc h => cases h
theorem trsDp {K : Fr} {H : Hp} : ∀ (ds : List D) (vs : List V) (fp : List Addr), TrAll H vs ds fp → DpAll K H vs ds
  | [], _, _, h => by cases h; exact .nil
  | d :: ds, _, _, h => by
    cases h with
    | cons h1 h2 => exact .cons (trDp d _ _ h1) (trsDp ds _ _ h2)
end
theorem trsApp {H : Hp} : ∀ {vs ws : List V} {ds es : List D} {fp fq : List Addr}, TrAll H vs ds fp → TrAll H ws es fq → TrAll H (vs ++ ws) (ds ++ es) (fp ++ fq)
  | _, _, _, _, _, _, .nil, h => h
  | _, _, _, _, _, _, .cons a t, h => by rw [List.append_assoc]; exact .cons a (trsApp t h)
theorem trsSc {H : Hp} {K : Fr} {G : Hp} : ∀ {vs : List V} {ds : List D}, DpAll K G vs ds → ds.all isSc = true → TrAll H vs ds []
  | _, _, .nil, _ => .nil
  | _, _, .cons a t, e => by
    rw [List.all_cons, Bool.and_eq_true] at e
    exact .cons (fp := []) (.sc (scOf a e.1)) (trsSc t e.2)

/-! ### what a slot holds; what an expression gives -/
inductive OV where
  /-- shared data, never to be changed -/
  | sh (d : D)
  /-- a list of one's own, of shared items -/
  | flat (l : List D)
  /-- data that nobody else holds, nor any part of it -/
  | tree (d : D)
def OV.view : OV → D
  | .sh d => d
  | .flat l => .list l
  | .tree d => d
/-- as something that nobody else holds -/
def OV.own? : OV → Option D
  | .sh d => if isSc d then some d else none
  | .flat l => if l.all isSc then some (.list l) else none
  | .tree d => some d
def Rep (K : Fr) (G H : Hp) (v : V) (o : OV) (fp : List Addr) : Prop :=
  match o with
  | .sh d => Dp K G v d ∧ fp = []
  | .flat l => ∃ a xs, v = .ref a ∧ H a = some (.lst xs) ∧ DpAll K G xs l ∧ fp = [a]
  | .tree d => Tr H v d fp
theorem Rep.view {K : Fr} {G H : Hp} {v : V} {o : OV} {fp : List Addr} (r : Rep K G H v o fp) (s : Same G H) : Dp K H v o.view := by
  cases o with
  | sh d => exact dpMono s d v r.1
  | flat l =>
    obtain ⟨a, xs, rfl, h1, h2, _⟩ := r
    exact .lst (SqL.of h1) (dpsMono s l xs h2)
  | tree d => exact trDp d v fp r
theorem Rep.mono {K : Fr} {G G' H H' : Hp} {v : V} {o : OV} {fp : List Addr} (r : Rep K G H v o fp) (s : Same G G') (k : ∀ b ∈ fp, ∀ x, H b = some x → H' b = some x) : Rep K G' H' v o fp := by
  cases o with
  | sh d => exact ⟨dpMono s d v r.1, r.2⟩
  | flat l =>
    obtain ⟨a, xs, rfl, h1, h2, rfl⟩ := r
    exact ⟨a, xs, rfl, k _ (by simp) _ h1, dpsMono s l xs h2, rfl⟩
  | tree d => exact trMono d v fp r k
theorem Rep.own {K : Fr} {G H : Hp} {v : V} {o : OV} {d : D} {fp : List Addr} (r : Rep K G H v o fp) (e : o.own? = some d) : Tr H v d fp := by
  cases o with
  | sh d' =>
    simp only [OV.own?] at e
    split at e
    · cases e
      rw [r.2]
      exact .sc (scOf r.1 (by assumption))
    · cases e
  | flat l =>
    simp only [OV.own?] at e
    split at e
    · cases e
      obtain ⟨a, xs, rfl, h1, h2, rfl⟩ := r
      exact .lst h1 (trsSc h2 (by assumption))
    · cases e
  | tree d' => cases e; exact r

abbrev DS := List (Option OV)
/-- the state: σ's slots as ds tells; F i: the places that slot i owns; G: what is shared -/
structure SI (K : Fr) (G H : Hp) (σ : St) (ds : DS) (F : Nat → List Addr) : Prop where
  sub : Same G H
  len : σ.length = ds.length
  rep : ∀ i o, ds[i]? = some (some o) → ∃ v, σ[i]? = some (some v) ∧ Rep K G H v o (F i)
  nod : ∀ i, (F i).Nodup
  off : ∀ i a, a ∈ F i → G a = none ∧ ∃ x, H a = some x
  dis : ∀ i j a, a ∈ F i → a ∈ F j → i = j
/-- the owned places -/
def Wf (F : Nat → List Addr) (a : Addr) : Prop := ∃ i, a ∈ F i
/-- from one state to a later one -/
structure Step (W : Addr → Prop) (G H G' H' : Hp) (W' : Addr → Prop) : Prop where
  sg : Same G G'
  keep : ∀ b x, H b = some x → ¬ W b → H' b = some x
  dom : ∀ b x, H b = some x → ∃ y, H' b = some y
  new : ∀ b x, G' b = some x → (∃ y, G b = some y) ∨ W b ∨ H b = none
  own : ∀ b, W' b → W b ∨ H b = none
theorem some_or {α : Type} (o : Option α) : (∃ x, o = some x) ∨ o = none := by
  cases o with
  | none => exact .inr rfl
  | some x => exact .inl ⟨x, rfl⟩
theorem Step.refl (W : Addr → Prop) (G H : Hp) : Step W G H G H W :=
  ⟨Same.refl G, fun _ _ e _ => e, fun _ x e => ⟨x, e⟩, fun b x e => .inl ⟨x, e⟩, fun _ h => .inl h⟩
theorem Step.trans {W W1 W2 : Addr → Prop} {G H G1 H1 G2 H2 : Hp} (a : Step W G H G1 H1 W1) (b : Step W1 G1 H1 G2 H2 W2) : Step W G H G2 H2 W2 where
  sg := a.sg.trans b.sg
  keep := fun c x e n => b.keep c x (a.keep c x e n) fun h => (a.own c h).elim n fun z => by rw [e] at z; cases z
  dom := fun c x e => let ⟨y, h⟩ := a.dom c x e; b.dom c y h
  new := fun c x e => by
    have back : H1 c = none → H c = none := fun z => by
      rcases some_or (H c) with ⟨y, h⟩ | h
      · obtain ⟨y', h'⟩ := a.dom c y h
        rw [h'] at z; cases z
      · exact h
    rcases b.new c x e with ⟨y, h⟩ | h | h
    · exact a.new c y h
    · exact .inr (a.own c h)
    · exact .inr (.inr (back h))
  own := fun c h => by
    rcases b.own c h with h | z
    · exact a.own c h
    · refine .inr ?_
      rcases some_or (H c) with ⟨y, h⟩ | h
      · obtain ⟨y', h'⟩ := a.dom c y h
        rw [h'] at z; cases z
      · exact h
theorem Step.back {W W' : Addr → Prop} {G H G' H' : Hp} (a : Step W G H G' H' W') {b : Addr} (z : H' b = none) : H b = none := by
  rcases some_or (H b) with ⟨y, h⟩ | h
  · obtain ⟨y', h'⟩ := a.dom b y h
    rw [h'] at z; cases z
  · exact h
/-- the heap grew by fresh places -/
theorem Step.grow {W : Addr → Prop} {G H G' H' : Hp} (s1 : Same G G') (s2 : Same H H') (n : ∀ b x, G' b = some x → (∃ y, G b = some y) ∨ H b = none) : Step W G H G' H' W :=
  ⟨s1, fun b x e _ => s2 b x e, fun b x e => ⟨x, s2 b x e⟩, fun b x e => (n b x e).imp id .inr, fun _ h => .inl h⟩
theorem SI.grow {K : Fr} {G H G' H' : Hp} {σ : St} {ds : DS} {F : Nat → List Addr} (S : SI K G H σ ds F) (s1 : Same G G') (s2 : Same H H') (s3 : Same G' H') (n : ∀ b x, G' b = some x → (∃ y, G b = some y) ∨ H b = none) : SI K G' H' σ ds F where
  sub := s3
  len := S.len
  rep := fun i o e => let ⟨v, h1, h2⟩ := S.rep i o e; ⟨v, h1, h2.mono s1 fun b _ x h => s2 b x h⟩
  nod := S.nod
  off := fun i a h => by
    obtain ⟨h1, x, h2⟩ := S.off i a h
    refine ⟨?_, x, s2 a x h2⟩
    rcases some_or (G' a) with ⟨y, e⟩ | e
    · rcases n a y e with ⟨z, e'⟩ | e'
      · rw [h1] at e'; cases e'
      · rw [h2] at e'; cases e'
    · exact e
  dis := S.dis

/-- what an expression gives: a value, or the owned thing of slot i -/
inductive RV where
  | ov (o : OV)
  | loc (i : Nat)
def VRep (K : Fr) (G H : Hp) (σ : St) (v : V) (r : RV) (fp : List Addr) : Prop :=
  match r with
  | .ov o => Rep K G H v o fp
  | .loc i => σ[i]? = some (some v) ∧ fp = []
inductive VReps (K : Fr) (G H : Hp) (σ : St) : List V → List RV → List Addr → Prop
  | nil : VReps K G H σ [] [] []
  | cons {v : V} {vs : List V} {r : RV} {rs : List RV} {fp fq : List Addr} : VRep K G H σ v r fp → VReps K G H σ vs rs fq → VReps K G H σ (v :: vs) (r :: rs) (fp ++ fq)
/-- places of passing values: nobody's, and new since the start (W₀, H₀) -/
structure Fp (G H : Hp) (W : Addr → Prop) (W0 : Addr → Prop) (H0 : Hp) (fp : List Addr) : Prop where
  nod : fp.Nodup
  off : ∀ a ∈ fp, G a = none ∧ (∃ x, H a = some x) ∧ ¬ W a
  new : ∀ a ∈ fp, W0 a ∨ H0 a = none
theorem Fp.nil {G H : Hp} {W W0 : Addr → Prop} {H0 : Hp} : Fp G H W W0 H0 [] := ⟨.nil, fun _ h => (nomatch h), fun _ h => (nomatch h)⟩
/-- passing values stay through a step -/
theorem Fp.step {G H G' H' H0 : Hp} {W W' W0 : Addr → Prop} {fp : List Addr} (f : Fp G H W W0 H0 fp) (t : Step W G H G' H' W') : Fp G' H' W' W0 H0 fp :=
  ⟨f.nod, fun a h => (by
    obtain ⟨h1, ⟨x, h2⟩, h3⟩ := f.off a h
    refine ⟨?_, ⟨x, t.keep a x h2 h3⟩, fun w => ?_⟩
    · rcases some_or (G' a) with ⟨y, e⟩ | e
      · rcases t.new a y e with ⟨z, e'⟩ | w | e'
        · rw [h1] at e'; cases e'
        · exact absurd w h3
        · rw [h2] at e'; cases e'
      · exact e
    · rcases t.own a w with w | e'
      · exact h3 w
      · rw [h2] at e'; cases e'), f.new⟩
theorem Fp.keeps {G H G' H' H0 : Hp} {W W' W0 : Addr → Prop} {fp : List Addr} (f : Fp G H W W0 H0 fp) (t : Step W G H G' H' W') : ∀ b ∈ fp, ∀ x, H b = some x → H' b = some x :=
  fun b hb x e => t.keep b x e (f.off b hb).2.2
theorem VRep.step {K : Fr} {G H G' H' H0 : Hp} {W W' W0 : Addr → Prop} {σ : St} {v : V} {r : RV} {fp : List Addr} (h : VRep K G H σ v r fp) (f : Fp G H W W0 H0 fp) (t : Step W G H G' H' W') : VRep K G' H' σ v r fp := by
  cases r with
  | ov o => exact Rep.mono h t.sg (f.keeps t)
  | loc i => exact h
theorem Fp.app {G H H0 : Hp} {W W0 : Addr → Prop} {fp fq : List Addr} (a : Fp G H W W0 H0 fp) (b : Fp G H W W0 H0 fq) (d : ∀ x ∈ fp, x ∉ fq) : Fp G H W W0 H0 (fp ++ fq) :=
  ⟨List.nodup_append.mpr ⟨a.nod, b.nod, fun x h1 y h2 e => d x h1 (e ▸ h2)⟩, fun x h => (List.mem_append.mp h).elim (a.off x) (b.off x), fun x h => (List.mem_append.mp h).elim (a.new x) (b.new x)⟩
theorem Fp.left {G H H0 : Hp} {W W0 : Addr → Prop} {fp fq : List Addr} (a : Fp G H W W0 H0 (fp ++ fq)) : Fp G H W W0 H0 fp :=
  ⟨(List.nodup_append.mp a.nod).1, fun x h => a.off x (List.mem_append_left _ h), fun x h => a.new x (List.mem_append_left _ h)⟩
theorem Fp.right {G H H0 : Hp} {W W0 : Addr → Prop} {fp fq : List Addr} (a : Fp G H W W0 H0 (fp ++ fq)) : Fp G H W W0 H0 fq :=
  ⟨(List.nodup_append.mp a.nod).2.1, fun x h => a.off x (List.mem_append_right _ h), fun x h => a.new x (List.mem_append_right _ h)⟩
/-- from an earlier start: what is new since a later state -/
theorem Fp.since {G H G0 H0 G1 H1 : Hp} {W W0 W1 : Addr → Prop} {fp : List Addr} (f : Fp G H W W1 H1 fp) (t : Step W0 G0 H0 G1 H1 W1) : Fp G H W W0 H0 fp :=
  ⟨f.nod, f.off, fun a h => (f.new a h).elim (t.own a) fun z => .inr (t.back z)⟩

/-! ### the wishes -/
/-- an expression's reading t computes f -/
def RE (K : Fr) (t : TE) (f : DS → Option (RV × DS)) : Prop :=
  ∀ (G H : Hp) (F : Nat → List Addr) (σ : St) (ds : DS) (r : RV) (ds' : DS) (Q : VK), SI K G H σ ds F → f ds = some (r, ds') →
    (∀ v G' H' F' fp, SI K G' H' σ ds' F' → Step (Wf F) G H G' H' (Wf F') → VRep K G' H' σ v r fp → Fp G' H' (Wf F') (Wf F) H fp → Q v H') → t σ H Q
def RT (K : Fr) (t : TT) (f : DS → Option (Bool × DS)) : Prop :=
  ∀ (G H : Hp) (F : Nat → List Addr) (σ : St) (ds : DS) (b : Bool) (ds' : DS) (Q : Bool → Hp → Prop), SI K G H σ ds F → f ds = some (b, ds') →
    (∀ G' H' F', SI K G' H' σ ds' F' → Step (Wf F) G H G' H' (Wf F') → Q b H') → t σ H Q
def RA (K : Fr) (t : TA) (f : DS → Option (List RV × DS)) : Prop :=
  ∀ (G H : Hp) (F : Nat → List Addr) (σ : St) (ds : DS) (rs : List RV) (ds' : DS) (Q : List V → Hp → Prop), SI K G H σ ds F → f ds = some (rs, ds') →
    (∀ vs G' H' F' fp, SI K G' H' σ ds' F' → Step (Wf F) G H G' H' (Wf F') → VReps K G' H' σ vs rs fp → Fp G' H' (Wf F') (Wf F) H fp → Q vs H') → t σ H Q
/-- how a statement ends -/
inductive Out where
  | nx (ds : DS)
  | ret (o : OV)
  | bk (ds : DS)
  | ct (ds : DS)
/-- σ' is σ but at the slots T -/
def Off (T : List Nat) (σ σ' : St) : Prop := σ'.length = σ.length ∧ ∀ i, i ∉ T → σ'[i]? = σ[i]?
theorem Off.refl (T : List Nat) (σ : St) : Off T σ σ := ⟨rfl, fun _ _ => rfl⟩
theorem Off.trans {T : List Nat} {σ σ1 σ2 : St} (a : Off T σ σ1) (b : Off T σ1 σ2) : Off T σ σ2 := ⟨b.1.trans a.1, fun i h => (b.2 i h).trans (a.2 i h)⟩
theorem Off.mono {T T' : List Nat} {σ σ' : St} (a : Off T σ σ') (h : ∀ i ∈ T, i ∈ T') : Off T' σ σ' := ⟨a.1, fun i n => a.2 i fun z => n (h i z)⟩
theorem Off.left {T T' : List Nat} {σ σ' : St} (a : Off T σ σ') : Off (T ++ T') σ σ' := a.mono fun _ h => List.mem_append_left _ h
theorem Off.right {T T' : List Nat} {σ σ' : St} (a : Off T' σ σ') : Off (T ++ T') σ σ' := a.mono fun _ h => List.mem_append_right _ h
theorem Off.set (i : Nat) (v : Option V) (σ : St) : Off [i] σ (σ.set i v) := ⟨List.length_set, fun j hj => List.getElem?_set_ne fun e => hj (by simp [e])⟩
/-- the wishes E are served by the end o; only the slots T are stored -/
def Ended (K : Fr) (T : List Nat) (G H : Hp) (F : Nat → List Addr) (σ : St) (E : Ends) : Out → Prop
  | .nx ds' => ∀ σ' G' H' F', SI K G' H' σ' ds' F' → Step (Wf F) G H G' H' (Wf F') → Off T σ σ' → E.nx σ' H'
  | .bk ds' => ∀ σ' G' H' F', SI K G' H' σ' ds' F' → Step (Wf F) G H G' H' (Wf F') → Off T σ σ' → E.bk σ' H'
  | .ct ds' => ∀ σ' G' H' F', SI K G' H' σ' ds' F' → Step (Wf F) G H G' H' (Wf F') → Off T σ σ' → E.ct σ' H'
  | .ret o => ∀ v G' H' W' fp, Same G' H' → Step (Wf F) G H G' H' W' → Rep K G' H' v o fp → Fp G' H' W' (Wf F) H fp → E.rt v H'
theorem Ended.later {K : Fr} {T T' : List Nat} {G H G1 H1 : Hp} {F F1 : Nat → List Addr} {σ σ1 : St} {E : Ends} {o : Out} (t1 : Step (Wf F) G H G1 H1 (Wf F1)) (f1 : Off T σ σ1) (hT : ∀ i ∈ T', i ∈ T) (q : Ended K T G H F σ E o) : Ended K T' G1 H1 F1 σ1 E o := by
  cases o with
  | nx d' => exact fun σ2 G2 H2 F2 S2 t2 f2 => q σ2 G2 H2 F2 S2 (t1.trans t2) (f1.trans (f2.mono hT))
  | bk d' => exact fun σ2 G2 H2 F2 S2 t2 f2 => q σ2 G2 H2 F2 S2 (t1.trans t2) (f1.trans (f2.mono hT))
  | ct d' => exact fun σ2 G2 H2 F2 S2 t2 f2 => q σ2 G2 H2 F2 S2 (t1.trans t2) (f1.trans (f2.mono hT))
  | ret r => exact fun v G2 H2 W2 fp sg t2 r2 f2 => q v G2 H2 W2 fp sg (t1.trans t2) r2 (f2.since t1)
def RS (K : Fr) (T : List Nat) (t : TS) (f : DS → Option Out) : Prop :=
  ∀ (G H : Hp) (F : Nat → List Addr) (σ : St) (ds : DS) (o : Out) (E : Ends), SI K G H σ ds F → f ds = some o → Ended K T G H F σ E o → t E σ H
end Fx
set_option Elab.async false
set_option linter.all false
set_option maxRecDepth 100000
namespace Fx
open PySem PySem.Spec L2

/-! ### freezing and looking -/
/-- the places fp of H become shared -/
def lay (G H : Hp) (fp : List Addr) : Hp := fun b => if b ∈ fp then H b else G b
theorem lay_in {G H : Hp} {fp : List Addr} {b : Addr} (h : b ∈ fp) : lay G H fp b = H b := by unfold lay; rw [if_pos h]
theorem lay_out {G H : Hp} {fp : List Addr} {b : Addr} (h : b ∉ fp) : lay G H fp b = G b := by unfold lay; rw [if_neg h]
theorem same_lay {G H : Hp} {fp : List Addr} (n : ∀ b ∈ fp, G b = none) : Same G (lay G H fp) := fun b x e => by
  by_cases h : b ∈ fp
  · rw [n b h] at e; cases e
  · rw [lay_out h]; exact e
theorem lay_same {G H : Hp} {fp : List Addr} (s : Same G H) : Same (lay G H fp) H := fun b x e => by
  by_cases h : b ∈ fp
  · rw [lay_in h] at e; exact e
  · rw [lay_out h] at e; exact s b x e
theorem Rep.freeze {K : Fr} {G H : Hp} {v : V} {o : OV} {fp : List Addr} (r : Rep K G H v o fp) (n : ∀ b ∈ fp, G b = none) : Dp K (lay G H fp) v o.view := by
  have s := same_lay (H := H) n
  cases o with
  | sh d => exact dpMono s d v r.1
  | flat l =>
    obtain ⟨a, xs, rfl, h1, h2, rfl⟩ := r
    exact .lst (SqL.of (by rw [lay_in (by simp)]; exact h1)) (dpsMono s l xs h2)
  | tree d => exact trDp d v fp (trMono d v fp r fun b hb x e => by rw [lay_in hb]; exact e)
theorem Step.lay {W0 W : Addr → Prop} {G0 H0 G H : Hp} {fp : List Addr} (t : Step W0 G0 H0 G H W) (n : ∀ b ∈ fp, G b = none) (nw : ∀ b ∈ fp, W0 b ∨ H0 b = none) : Step W0 G0 H0 (Fx.lay G H fp) H W :=
  ⟨t.sg.trans (same_lay n), t.keep, t.dom, fun b x e => by
    by_cases h : b ∈ fp
    · exact .inr (nw b h)
    · rw [lay_out h] at e; exact t.new b x e, t.own⟩
theorem Step.reown {W0 W W' : Addr → Prop} {G0 H0 G H : Hp} (t : Step W0 G0 H0 G H W) (n : ∀ b, W' b → W0 b ∨ H0 b = none) : Step W0 G0 H0 G H W' := ⟨t.sg, t.keep, t.dom, t.new, n⟩
/-- a passing value's places become shared -/
theorem SI.lay {K : Fr} {G H H0 : Hp} {σ : St} {ds : DS} {F : Nat → List Addr} {W0 : Addr → Prop} {fp : List Addr} (S : SI K G H σ ds F) (f : Fp G H (Wf F) W0 H0 fp) : SI K (Fx.lay G H fp) H σ ds F where
  sub := lay_same S.sub
  len := S.len
  rep := fun i o e => let ⟨v, h1, h2⟩ := S.rep i o e; ⟨v, h1, h2.mono (same_lay fun b hb => (f.off b hb).1) fun _ _ _ e => e⟩
  nod := S.nod
  off := fun i a h => by
    have hn : a ∉ fp := fun z => (f.off a z).2.2 ⟨i, h⟩
    rw [lay_out hn]
    exact S.off i a h
  dis := S.dis
theorem Fp.lay {G H H0 : Hp} {W W0 : Addr → Prop} {fp fq : List Addr} (f : Fp G H W W0 H0 fq) (d : ∀ b ∈ fq, b ∉ fp) : Fp (Fx.lay G H fp) H W W0 H0 fq :=
  ⟨f.nod, fun a h => by rw [lay_out (d a h)]; exact f.off a h, f.new⟩
/-- slot i gives up what it owns -/
def offF (F : Nat → List Addr) (i : Nat) (fp : List Addr) : Nat → List Addr := fun j => if j = i then fp else F j
theorem SI.drop {K : Fr} {G H : Hp} {σ : St} {ds : DS} {F : Nat → List Addr} (S : SI K G H σ ds F) (i : Nat) (o : OV) (h : ds[i]? = some (some o)) :
    SI K (Fx.lay G H (F i)) H σ (ds.set i (some (.sh o.view))) (offF F i []) where
  sub := lay_same S.sub
  len := by rw [List.length_set]; exact S.len
  rep := fun j u e => by
    have sm : Same G (Fx.lay G H (F i)) := same_lay fun b hb => (S.off i b hb).1
    by_cases hj : j = i
    · subst hj
      have hl : j < ds.length := (List.getElem?_eq_some_iff.mp h).1
      rw [List.getElem?_set_self hl] at e
      cases e
      obtain ⟨v, h1, h2⟩ := S.rep j o h
      refine ⟨v, h1, h2.freeze fun b hb => (S.off j b hb).1, ?_⟩
      unfold offF; rw [if_pos rfl]
    · rw [List.getElem?_set_ne (Ne.symm hj)] at e
      obtain ⟨v, h1, h2⟩ := S.rep j u e
      refine ⟨v, h1, ?_⟩
      unfold offF; rw [if_neg hj]
      exact h2.mono sm fun _ _ _ e => e
  nod := fun j => by unfold offF; split; exact .nil; exact S.nod j
  off := fun j a ha => by
    unfold offF at ha
    split at ha
    · cases ha
    · rename_i hj
      have hn : a ∉ F i := fun z => hj (S.dis j i a ha z)
      rw [lay_out hn]
      exact S.off j a ha
  dis := fun j k a h1 h2 => by
    unfold offF at h1 h2
    split at h1
    · cases h1
    · split at h2
      · cases h2
      · exact S.dis j k a h1 h2
theorem wf_off {F : Nat → List Addr} {i : Nat} {fp : List Addr} {b : Addr} (h : Wf (offF F i fp) b) : Wf F b ∨ b ∈ fp := by
  obtain ⟨j, h⟩ := h
  unfold offF at h
  split at h
  · exact .inr h
  · exact .inl ⟨j, h⟩

def see : RV → DS → Option D
  | .ov o, _ => some o.view
  | .loc i, ds => match ds[i]? with
    | some (some o) => some o.view
    | _ => none
def frz : RV → DS → Option (D × DS)
  | .ov o, ds => some (o.view, ds)
  | .loc i, ds => match ds[i]? with
    | some (some o) => some (o.view, ds.set i (some (.sh o.view)))
    | _ => none
theorem see_ok {K : Fr} {G H : Hp} {σ : St} {ds : DS} {F : Nat → List Addr} {v : V} {r : RV} {fp : List Addr} {d : D} (S : SI K G H σ ds F) (h : VRep K G H σ v r fp) (e : see r ds = some d) : Dp K H v d := by
  cases r with
  | ov o => cases e; exact Rep.view h S.sub
  | loc i =>
    simp only [see] at e
    split at e
    · rename_i o ho
      cases e
      obtain ⟨u, h1, h2⟩ := S.rep i o ho
      rw [h.1] at h1
      cases h1
      exact h2.view S.sub
    · cases e
theorem frz_ok {K : Fr} {G H G0 H0 : Hp} {σ : St} {ds ds' : DS} {F : Nat → List Addr} {W0 : Addr → Prop} {v : V} {r : RV} {fp fq : List Addr} {d : D} (S : SI K G H σ ds F) (t : Step W0 G0 H0 G H (Wf F)) (h : VRep K G H σ v r fp) (f : Fp G H (Wf F) W0 H0 (fp ++ fq))
    (e : frz r ds = some (d, ds')) : ∃ G' F', SI K G' H σ ds' F' ∧ Step W0 G0 H0 G' H (Wf F') ∧ Same G G' ∧ Dp K G' v d ∧ Fp G' H (Wf F') W0 H0 fq := by
  have dj : ∀ b ∈ fq, b ∉ fp := fun b h1 h2 => (List.nodup_append.mp f.nod).2.2 b h2 b h1 rfl
  cases r with
  | ov o =>
    cases e
    have n : ∀ b ∈ fp, G b = none := fun b hb => (f.left.off b hb).1
    exact ⟨_, F, S.lay f.left, t.lay n f.left.new, same_lay n, Rep.freeze h n, f.right.lay dj⟩
  | loc i =>
    simp only [frz] at e
    split at e
    · rename_i o ho
      cases e
      obtain ⟨u, h1, h2⟩ := S.rep i o ho
      have h' : σ[i]? = some (some v) := h.1
      rw [h'] at h1
      cases h1
      have n : ∀ b ∈ F i, G b = none := fun b hb => (S.off i b hb).1
      have ow : ∀ b, Wf (offF F i []) b → W0 b ∨ H0 b = none := fun b hb => (wf_off hb).elim (t.own b) fun z => nomatch z
      refine ⟨_, _, S.drop i o ho, (t.lay n fun b hb => t.own b ⟨i, hb⟩).reown ow, same_lay n, h2.freeze n, ?_⟩
      · refine ⟨f.right.nod, fun a ha => ?_, f.right.new⟩
        obtain ⟨q1, q2, q3⟩ := f.right.off a ha
        refine ⟨?_, q2, fun z => ?_⟩
        · rw [lay_out fun z => q3 ⟨i, z⟩]; exact q1
        · rcases wf_off z with z | z
          · exact q3 z
          · cases z
    · cases e
theorem frz_see {r : RV} {ds ds' : DS} {d : D} (e : frz r ds = some (d, ds')) : see r ds = some d ∧ ∀ r', see r' ds' = see r' ds := by
  cases r with
  | ov o => cases e; exact ⟨rfl, fun _ => rfl⟩
  | loc i =>
    simp only [frz] at e
    split at e
    · rename_i o ho
      cases e
      refine ⟨by simp only [see, ho], fun r' => ?_⟩
      cases r' with
      | ov o' => rfl
      | loc j =>
        by_cases hj : i = j
        · subst hj
          have hl := (List.getElem?_eq_some_iff.mp ho).1
          simp only [see, List.getElem?_set_self hl, ho]
          rfl
        · simp only [see, List.getElem?_set_ne hj]
    · cases e
def sees : List RV → DS → Option (List D)
  | [], _ => some []
  | r :: rs, ds => (see r ds).bind fun d => (sees rs ds).map fun l => d :: l
def frzs : List RV → DS → Option (List D × DS)
  | [], ds => some ([], ds)
  | r :: rs, ds => (frz r ds).bind fun p => (frzs rs p.2).map fun q => (p.1 :: q.1, q.2)
theorem frzs_sees : ∀ {rs : List RV} {ds ds' : DS} {l : List D}, frzs rs ds = some (l, ds') → sees rs ds = some l
  | [], _, _, _, e => by cases e; rfl
  | r :: rs, ds, _, _, e => by
    simp only [frzs, Option.bind_eq_some_iff, Option.map_eq_some_iff] at e
    obtain ⟨p, h1, q, h2, h3⟩ := e
    cases h3
    obtain ⟨a, b⟩ := frz_see (d := p.1) (ds' := p.2) h1
    have c : ∀ qs : List RV, sees qs p.2 = sees qs ds := fun qs => by
      induction qs with
      | nil => rfl
      | cons q qs ih => simp only [sees, b, ih]
    have h := frzs_sees (l := q.1) (ds' := q.2) h2
    rw [c] at h
    simp only [sees, a, h]
    rfl
theorem sees_ok {K : Fr} {G H : Hp} {σ : St} {ds : DS} {F : Nat → List Addr} (S : SI K G H σ ds F) : ∀ {vs : List V} {rs : List RV} {fp : List Addr} {l : List D}, VReps K G H σ vs rs fp → sees rs ds = some l → DpAll K H vs l
  | _, _, _, _, .nil, e => by cases e; exact .nil
  | _, _, _, _, .cons a t, e => by
    simp only [sees, Option.bind_eq_some_iff, Option.map_eq_some_iff] at e
    obtain ⟨d, h1, l, h2, rfl⟩ := e
    exact .cons (see_ok S a h1) (sees_ok S t h2)
theorem VReps.mono {K : Fr} {G G' H : Hp} {σ : St} (s : Same G G') : ∀ {vs : List V} {rs : List RV} {fp : List Addr}, VReps K G H σ vs rs fp → VReps K G' H σ vs rs fp
  | _, _, _, .nil => .nil
  | _, _, _, .cons (r := r) a t => .cons (by
      cases r with
      | ov o => exact Rep.mono a s fun _ _ _ e => e
      | loc i => exact a) (VReps.mono s t)
theorem frzs_ok {K : Fr} {G0 H0 H : Hp} {σ : St} {W0 : Addr → Prop} : ∀ {rs : List RV} {vs : List V} {fp fq : List Addr} {l : List D} {G : Hp} {ds ds' : DS} {F : Nat → List Addr}, SI K G H σ ds F → Step W0 G0 H0 G H (Wf F) → VReps K G H σ vs rs fp → Fp G H (Wf F) W0 H0 (fp ++ fq) →
    frzs rs ds = some (l, ds') → ∃ G' F', SI K G' H σ ds' F' ∧ Step W0 G0 H0 G' H (Wf F') ∧ Same G G' ∧ DpAll K G' vs l ∧ Fp G' H (Wf F') W0 H0 fq
  | [], _, _, _, _, G, _, _, F, S, t, h, f, e => by
    cases h
    cases e
    exact ⟨G, F, S, t, Same.refl G, .nil, f⟩
  | r :: rs, _, _, _, _, G, _, _, F, S, t, h, f, e => by
    cases h with
    | cons a b =>
      simp only [frzs, Option.bind_eq_some_iff, Option.map_eq_some_iff] at e
      obtain ⟨p, h1, q, h2, h3⟩ := e
      cases h3
      rw [List.append_assoc] at f
      obtain ⟨G1, F1, S1, t1, s1, d1, f1⟩ := frz_ok S t a f h1
      obtain ⟨G2, F2, S2, t2, s2, d2, f2⟩ := frzs_ok S1 t1 (b.mono s1) f1 h2
      exact ⟨G2, F2, S2, t2, s1.trans s2, .cons (dpMono s2 _ _ d1) d2, f2⟩

/-! ### names, constants -/
def fVar (i : Nat) (ds : DS) : Option (RV × DS) := match ds[i]? with
  | some (some (.sh d)) => some (.ov (.sh d), ds)
  | some (some _) => some (.loc i, ds)
  | _ => none
variable {K : Fr}
theorem re_var {i : Nat} : RE K (tVar i) (fVar i) := by
  intro G H F σ ds r ds' Q S e q
  simp only [fVar] at e
  split at e
  · rename_i d hd
    cases e
    obtain ⟨v, h1, h2⟩ := S.rep i _ hd
    exact ⟨v, h1, q v G H F [] S (Step.refl _ _ _) ⟨h2.1, rfl⟩ .nil⟩
  · rename_i o hne ho
    cases e
    obtain ⟨v, h1, h2⟩ := S.rep i _ ho
    exact ⟨v, h1, q v G H F [] S (Step.refl _ _ _) ⟨h1, rfl⟩ .nil⟩
  · cases e
def fC (d : D) (ds : DS) : Option (RV × DS) := some (.ov (.sh d), ds)
theorem re_c {v : V} {d : D} (h : Sc v d) : RE K (tC v) (fC d) := by
  intro G H F σ ds r ds' Q S e q
  cases e
  exact q v G H F [] S (Step.refl _ _ _) ⟨h.dp, rfl⟩ .nil

/-! ### operators with a scalar answer -/
def VOp (K : Fr) (r : R2) (g : D → D → Option D) : Prop := ∀ (H : Hp) (x y : V) (d e z : D) (Q : VK), Dp K H x d → Dp K H y e → g d e = some z → (∀ v, Sc v z → Q v H) → r x y H Q
def VUn (K : Fr) (r : V → Hp → VK → Prop) (g : D → Option D) : Prop := ∀ (H : Hp) (x : V) (d z : D) (Q : VK), Dp K H x d → g d = some z → (∀ v, Sc v z → Q v H) → r x H Q
def VCa (K : Fr) (r : List V → Hp → VK → Prop) (g : List D → Option D) : Prop := ∀ (H : Hp) (xs : List V) (l : List D) (z : D) (Q : VK), DpAll K H xs l → g l = some z → (∀ v, Sc v z → Q v H) → r xs H Q
def fOp (g : D → D → Option D) (fa fb : DS → Option (RV × DS)) (ds : DS) : Option (RV × DS) :=
  (fa ds).bind fun p => (fb p.2).bind fun q => (see p.1 q.2).bind fun d => (see q.1 q.2).bind fun e => (g d e).map fun z => (.ov (.sh z), q.2)
theorem re_op {r : R2} {g : D → D → Option D} {ta tb : TE} {fa fb : DS → Option (RV × DS)} (hr : VOp K r g) (ha : RE K ta fa) (hb : RE K tb fb) : RE K (tOp r ta tb) (fOp g fa fb) := by
  intro G H F σ ds rv ds' Q S e q
  simp only [fOp, Option.bind_eq_some_iff, Option.map_eq_some_iff] at e
  obtain ⟨⟨ra, d1⟩, e1, ⟨rb, d2⟩, e2, d, e3, d', e4, z, e5, e6⟩ := e
  cases e6
  refine ha G H F σ ds ra d1 _ S e1 fun v1 G1 H1 F1 fp1 S1 t1 r1 f1 => ?_
  refine hb G1 H1 F1 σ d1 rb d2 _ S1 e2 fun v2 G2 H2 F2 fp2 S2 t2 r2 f2 => ?_
  refine hr H2 v1 v2 d d' z _ (see_ok S2 (r1.step f1 t2) e3) (see_ok S2 r2 e4) e5 fun v hv => ?_
  exact q v G2 H2 F2 [] S2 (t1.trans t2) ⟨hv.dp, rfl⟩ .nil
def fUn (g : D → Option D) (fa : DS → Option (RV × DS)) (ds : DS) : Option (RV × DS) :=
  (fa ds).bind fun p => (see p.1 p.2).bind fun d => (g d).map fun z => (.ov (.sh z), p.2)
theorem re_un {r : V → Hp → VK → Prop} {g : D → Option D} {ta : TE} {fa : DS → Option (RV × DS)} (hr : VUn K r g) (ha : RE K ta fa) : RE K (tUn r ta) (fUn g fa) := by
  intro G H F σ ds rv ds' Q S e q
  simp only [fUn, Option.bind_eq_some_iff, Option.map_eq_some_iff] at e
  obtain ⟨⟨ra, d1⟩, e1, d, e3, z, e5, e6⟩ := e
  cases e6
  refine ha G H F σ ds ra d1 _ S e1 fun v1 G1 H1 F1 fp1 S1 t1 r1 f1 => ?_
  refine hr H1 v1 d z _ (see_ok S1 r1 e3) e5 fun v hv => ?_
  exact q v G1 H1 F1 [] S1 t1 ⟨hv.dp, rfl⟩ .nil

/-! ### arguments -/
def fNil (ds : DS) : Option (List RV × DS) := some ([], ds)
def fCons (fa : DS → Option (RV × DS)) (fr : DS → Option (List RV × DS)) (ds : DS) : Option (List RV × DS) :=
  (fa ds).bind fun p => (fr p.2).map fun q => (p.1 :: q.1, q.2)
theorem ra_nil : RA K tNil fNil := by
  intro G H F σ ds rs ds' Q S e q
  cases e
  exact q [] G H F [] S (Step.refl _ _ _) .nil .nil
theorem ra_cons {ta : TE} {tr : TA} {fa : DS → Option (RV × DS)} {fr : DS → Option (List RV × DS)} (ha : RE K ta fa) (hr : RA K tr fr) : RA K (tCons ta tr) (fCons fa fr) := by
  intro G H F σ ds rs ds' Q S e q
  simp only [fCons, Option.bind_eq_some_iff, Option.map_eq_some_iff] at e
  obtain ⟨⟨ra, d1⟩, e1, ⟨rb, d2⟩, e2, e6⟩ := e
  cases e6
  refine ha G H F σ ds ra d1 _ S e1 fun v1 G1 H1 F1 fp1 S1 t1 r1 f1 => ?_
  refine hr G1 H1 F1 σ d1 rb d2 _ S1 e2 fun v2 G2 H2 F2 fp2 S2 t2 r2 f2 => ?_
  refine q (v1 :: v2) G2 H2 F2 (fp1 ++ fp2) S2 (t1.trans t2) (.cons (r1.step f1 t2) r2) ((f1.step t2).app (f2.since t1) fun x h1 h2 => ?_)
  obtain ⟨_, ⟨y, hy⟩, nw⟩ := f1.off x h1
  rcases f2.new x h2 with z | z
  · exact nw z
  · rw [hy] at z; cases z

/-! ### calls of built-ins -/
def fCa (g : List D → Option D) (fa : DS → Option (List RV × DS)) (ds : DS) : Option (RV × DS) :=
  (fa ds).bind fun p => (sees p.1 p.2).bind fun l => (g l).map fun z => (.ov (.sh z), p.2)
theorem re_cb {r : List V → Hp → VK → Prop} {g : List D → Option D} {t : TA} {fa : DS → Option (List RV × DS)} (hr : VCa K r g) (ha : RA K t fa) : RE K (tCB r t) (fCa g fa) := by
  intro G H F σ ds rv ds' Q S e q
  simp only [fCa, Option.bind_eq_some_iff, Option.map_eq_some_iff] at e
  obtain ⟨⟨ra, d1⟩, e1, l, e3, z, e5, e6⟩ := e
  cases e6
  refine ha G H F σ ds ra d1 _ S e1 fun v1 G1 H1 F1 fp1 S1 t1 r1 f1 => ?_
  refine hr H1 v1 l z _ (sees_ok S1 r1 e3) e5 fun v hv => ?_
  exact q v G1 H1 F1 [] S1 t1 ⟨hv.dp, rfl⟩ .nil
/-- a call (an operator) that makes a new list of shared items -/
def NCa (K : Fr) (r : List V → Hp → VK → Prop) (g : List D → Option (List D)) : Prop := ∀ (G H : Hp) (xs : List V) (l z : List D) (Q : VK), Same G H → DpAll K G xs l → g l = some z →
  (∀ p ys, H p = none → DpAll K G ys z → Q (.ref p) (upd H p (.lst ys))) → r xs H Q
def NOp (K : Fr) (r : R2) (g : D → D → Option (List D)) : Prop := ∀ (G H : Hp) (x y : V) (d e : D) (z : List D) (Q : VK), Same G H → Dp K G x d → Dp K G y e → g d e = some z →
  (∀ p ys, H p = none → DpAll K G ys z → Q (.ref p) (upd H p (.lst ys))) → r x y H Q
/-- behind a new list -/
theorem new_list {G0 H0 G H : Hp} {σ : St} {ds : DS} {F : Nat → List Addr} {W0 : Addr → Prop} {p : Addr} {ys : List V} {z : List D} (S : SI K G H σ ds F) (t : Step W0 G0 H0 G H (Wf F)) (hp : H p = none) (hd : DpAll K G ys z) :
    SI K G (upd H p (.lst ys)) σ ds F ∧ Step W0 G0 H0 G (upd H p (.lst ys)) (Wf F) ∧ Rep K G (upd H p (.lst ys)) (.ref p) (.flat z) [p] ∧ Fp G (upd H p (.lst ys)) (Wf F) W0 H0 [p] := by
  have s2 : Same H (upd H p (.lst ys)) := fun b x e => by rw [upd_ne (ne_of_none e hp)]; exact e
  have gp : G p = none := S.sub.free hp
  refine ⟨S.grow (Same.refl G) s2 (S.sub.trans s2) fun b x e => .inl ⟨x, e⟩, t.trans (Step.grow (Same.refl G) s2 fun b x e => .inl ⟨x, e⟩), ⟨p, ys, rfl, upd_same, hd, rfl⟩, ⟨by simp, fun a ha => ?_, fun a ha => ?_⟩⟩
  · obtain rfl : a = p := by simpa using ha
    refine ⟨gp, ⟨_, upd_same⟩, fun ⟨i, hi⟩ => ?_⟩
    obtain ⟨_, x, h⟩ := S.off i a hi
    rw [hp] at h; cases h
  · obtain rfl : a = p := by simpa using ha
    exact .inr (t.back hp)
def fNew (g : List D → Option (List D)) (fa : DS → Option (List RV × DS)) (ds : DS) : Option (RV × DS) :=
  (fa ds).bind fun p => (frzs p.1 p.2).bind fun q => (g q.1).map fun z => (.ov (.flat z), q.2)
theorem re_new {r : List V → Hp → VK → Prop} {g : List D → Option (List D)} {t : TA} {fa : DS → Option (List RV × DS)} (hr : NCa K r g) (ha : RA K t fa) : RE K (tCB r t) (fNew g fa) := by
  intro G H F σ ds rv ds' Q S e q
  simp only [fNew, Option.bind_eq_some_iff, Option.map_eq_some_iff] at e
  obtain ⟨⟨ra, d1⟩, e1, ⟨l, d2⟩, e3, z, e5, e6⟩ := e
  cases e6
  refine ha G H F σ ds ra d1 _ S e1 fun v1 G1 H1 F1 fp1 S1 t1 r1 f1 => ?_
  obtain ⟨G2, F2, S2, t2, s2, dd, _⟩ := frzs_ok (fq := []) S1 t1 r1 (by rw [List.append_nil]; exact f1) e3
  refine hr G2 H1 v1 l z _ S2.sub dd e5 fun p ys hp hd => ?_
  obtain ⟨S3, t3, r3, f3⟩ := new_list S2 t2 hp hd
  exact q _ _ _ _ _ S3 t3 r3 f3
def fNewOp (g : D → D → Option (List D)) (fa fb : DS → Option (RV × DS)) (ds : DS) : Option (RV × DS) :=
  (fa ds).bind fun p => (fb p.2).bind fun q => (frzs [p.1, q.1] q.2).bind fun w => match w.1 with
    | [d, e] => (g d e).map fun z => (.ov (.flat z), w.2)
    | _ => none
theorem re_newop {r : R2} {g : D → D → Option (List D)} {ta tb : TE} {fa fb : DS → Option (RV × DS)} (hr : NOp K r g) (ha : RE K ta fa) (hb : RE K tb fb) : RE K (tOp r ta tb) (fNewOp g fa fb) := by
  intro G H F σ ds rv ds' Q S e q
  simp only [fNewOp, Option.bind_eq_some_iff] at e
  obtain ⟨⟨ra, d1⟩, e1, ⟨rb, d2⟩, e2, ⟨l, d3⟩, e3, e6⟩ := e
  split at e6
  · rename_i d d' hl
    simp only [Option.map_eq_some_iff] at e6
    obtain ⟨z, e5, e6⟩ := e6
    cases e6
    refine ha G H F σ ds ra d1 _ S e1 fun v1 G1 H1 F1 fp1 S1 t1 r1 f1 => ?_
    refine hb G1 H1 F1 σ d1 rb d2 _ S1 e2 fun v2 G2 H2 F2 fp2 S2 t2 r2 f2 => ?_
    have ff : Fp G2 H2 (Wf F2) (Wf F) H (fp1 ++ fp2) := (f1.step t2).app (f2.since t1) fun x h1 h2 => by
      obtain ⟨_, ⟨y, hy⟩, nw⟩ := f1.off x h1
      rcases f2.new x h2 with z | z
      · exact nw z
      · rw [hy] at z; cases z
    have hh : VReps K G2 H2 σ [v1, v2] [ra, rb] (fp1 ++ fp2) := by
      have := VReps.cons (r1.step f1 t2) (VReps.cons r2 VReps.nil)
      rwa [List.append_nil] at this
    obtain ⟨G3, F3, S3, t3, s3, dd, _⟩ := frzs_ok (fq := []) S2 (t1.trans t2) hh (by rw [List.append_nil]; exact ff) e3
    have hl' : l = [d, d'] := hl
    rw [hl'] at dd
    cases dd with
    | cons da dr =>
      cases dr with
      | cons db dn =>
        refine hr G3 H2 v1 v2 d d' z _ S3.sub da db e5 fun p ys hp hd => ?_
        obtain ⟨S4, t4, r4, f4⟩ := new_list S3 t3 hp hd
        exact q _ _ _ _ _ S4 t4 r4 f4
  · cases e6

/-! ### displays -/
/-- [a, b, ..] of shared items -/
def fLst (fa : DS → Option (List RV × DS)) (ds : DS) : Option (RV × DS) := (fa ds).bind fun p => (frzs p.1 p.2).bind fun q => if q.1.length ≤ 1000 then some (.ov (.flat q.1), q.2) else none
theorem re_lst {t : TA} {fa : DS → Option (List RV × DS)} (ha : RA K t fa) : RE K (tLst t) (fLst fa) := by
  intro G H F σ ds rv ds' Q S e q
  simp only [fLst, Option.bind_eq_some_iff] at e
  obtain ⟨⟨ra, d1⟩, e1, ⟨l, d2⟩, e3, e6⟩ := e
  split at e6
  · rename_i hz
    cases e6
    refine ha G H F σ ds ra d1 _ S e1 fun v1 G1 H1 F1 fp1 S1 t1 r1 f1 => ?_
    obtain ⟨G2, F2, S2, t2, s2, dd, _⟩ := frzs_ok (fq := []) S1 t1 r1 (by rw [List.append_nil]; exact f1) e3
    refine ⟨by rw [dpsLen dd]; exact Nat.le_of_lt (small1000 hz), fun p hp => ?_⟩
    obtain ⟨S4, t4, r4, f4⟩ := new_list S2 t2 hp dd
    exact q _ _ _ _ _ S4 t4 r4 f4
  · cases e6
/-- (a, b, ..) of shared items -/
def fTup (fa : DS → Option (List RV × DS)) (ds : DS) : Option (RV × DS) := (fa ds).bind fun p => (frzs p.1 p.2).bind fun q => if q.1.length ≤ 1000 then some (.ov (.sh (.tuple q.1)), q.2) else none
theorem new_tup {G0 H0 G H : Hp} {σ : St} {ds : DS} {F : Nat → List Addr} {W0 : Addr → Prop} {p : Addr} {ys : List V} {z : List D} (S : SI K G H σ ds F) (t : Step W0 G0 H0 G H (Wf F)) (hp : H p = none) (hd : DpAll K G ys z) :
    SI K (upd G p (.tup ys)) (upd H p (.tup ys)) σ ds F ∧ Step W0 G0 H0 (upd G p (.tup ys)) (upd H p (.tup ys)) (Wf F) ∧ Same G (upd G p (.tup ys)) ∧ Dp K (upd G p (.tup ys)) (.ref p) (.tuple z) := by
  have gp : G p = none := S.sub.free hp
  have s2 : Same H (upd H p (.tup ys)) := fun b x e => by rw [upd_ne (ne_of_none e hp)]; exact e
  have s1 : Same G (upd G p (.tup ys)) := fun b x e => by rw [upd_ne (ne_of_none e gp)]; exact e
  have s3 : Same (upd G p (.tup ys)) (upd H p (.tup ys)) := fun b x e => by
    by_cases h : b = p
    · subst h; rw [upd_same] at e ⊢; exact e
    · rw [upd_ne h] at e ⊢; exact S.sub b x e
  have n : ∀ b x, (upd G p (.tup ys)) b = some x → (∃ y, G b = some y) ∨ H b = none := fun b x e => by
    by_cases h : b = p
    · subst h; exact .inr hp
    · rw [upd_ne h] at e; exact .inl ⟨x, e⟩
  exact ⟨S.grow s1 s2 s3 n, t.trans (Step.grow s1 s2 n), s1, .tup (SqT.of upd_same) (dpsMono s1 z ys hd)⟩
theorem re_tup {t : TA} {fa : DS → Option (List RV × DS)} (ha : RA K t fa) : RE K (tTup t) (fTup fa) := by
  intro G H F σ ds rv ds' Q S e q
  simp only [fTup, Option.bind_eq_some_iff] at e
  obtain ⟨⟨ra, d1⟩, e1, ⟨l, d2⟩, e3, e6⟩ := e
  split at e6
  · rename_i hz
    cases e6
    refine ha G H F σ ds ra d1 _ S e1 fun v1 G1 H1 F1 fp1 S1 t1 r1 f1 => ?_
    obtain ⟨G2, F2, S2, t2, s2, dd, _⟩ := frzs_ok (fq := []) S1 t1 r1 (by rw [List.append_nil]; exact f1) e3
    refine ⟨by rw [dpsLen dd]; exact Nat.le_of_lt (small1000 hz), fun p hp => ?_⟩
    obtain ⟨S4, t4, s4, r4⟩ := new_tup S2 t2 hp dd
    exact q _ _ _ _ [] S4 t4 ⟨r4, rfl⟩ .nil
  · cases e6

/-! ### calls of the text's own defs -/
/-- a def that changes nothing: from data to data -/
def spF (K : Fr) (n : Nat) (g : List D → Option OV) : Sp := fun vs H Q _ => ∃ (G : Hp) (ds : List D) (r : OV), Same G H ∧ DpAll K G vs ds ∧ ds.length = n ∧ g ds = some r ∧
  ∀ v G' H' fp, Same H H' → Same G G' → Same G' H' → (∀ b x, G' b = some x → (∃ y, G b = some y) ∨ H b = none) → Rep K G' H' v r fp → fp.Nodup → (∀ a ∈ fp, G' a = none ∧ H a = none ∧ ∃ x, H' a = some x) → Q v H'
theorem Rep.closed {G G' H : Hp} {v : V} {o : OV} {fp : List Addr} {d : D} (r : Rep K G' H v o fp) (e : o.own? = some d) : Rep K G H v o fp := by
  cases o with
  | sh d' =>
    simp only [OV.own?] at e
    split at e
    · exact ⟨(scOf r.1 (by assumption)).dp, r.2⟩
    · cases e
  | flat l =>
    simp only [OV.own?] at e
    split at e
    · rename_i hl
      obtain ⟨a, xs, rfl, h1, h2, rfl⟩ := r
      refine ⟨a, xs, rfl, h1, ?_, rfl⟩
      have go : ∀ {vs : List V} {ds : List D}, DpAll K G' vs ds → ds.all isSc = true → DpAll K G vs ds := by
        intro vs ds h
        induction ds generalizing vs with
        | nil => intro _; cases h; exact .nil
        | cons d ds ih =>
          intro hs
          rw [List.all_cons, Bool.and_eq_true] at hs
          cases h with
          | cons a b => exact .cons (scOf a hs.1).dp (ih b hs.2)
      exact go h2 hl
    · cases e
  | tree d' => exact r
def fCall (n : Nat) (g : List D → Option OV) (fa : DS → Option (List RV × DS)) (ds : DS) : Option (RV × DS) :=
  (fa ds).bind fun p => (sees p.1 p.2).bind fun l => if l.length = n then (g l).bind fun r => if r.own?.isSome then some (.ov r, p.2) else (frzs p.1 p.2).map fun q => (.ov r, q.2) else none
theorem re_call {n : Nat} {g : List D → Option OV} {E : XK} {t : TA} {fa : DS → Option (List RV × DS)} (ha : RA K t fa) : RE K (tCall (spF K n g) [] E t) (fCall n g fa) := by
  intro G H F σ ds rv ds' Q S e q
  simp only [fCall, Option.bind_eq_some_iff] at e
  obtain ⟨⟨ra, d1⟩, e1, l, e3, e4⟩ := e
  split at e4
  · rename_i hn
    simp only [Option.bind_eq_some_iff] at e4
    obtain ⟨r, e5, e6⟩ := e4
    refine ha G H F σ ds ra d1 _ S e1 fun v1 G1 H1 F1 fp1 S1 t1 r1 f1 => ?_
    show spF K n g (v1 ++ []) H1 Q E
    rw [List.append_nil]
    split at e6
    · rename_i hc
      cases e6
      obtain ⟨d, hc⟩ := Option.isSome_iff_exists.mp hc
      refine ⟨H1, l, r, Same.refl H1, sees_ok S1 r1 e3, hn, e5, fun v G' H' fp sH sG sGH nw rp nd off => ?_⟩
      have SS := S1.grow (G' := G1) (H' := H') (Same.refl G1) sH (S1.sub.trans sH) fun b x e => .inl ⟨x, e⟩
      refine q v G1 H' F1 fp SS (t1.trans (Step.grow (Same.refl G1) sH fun b x e => .inl ⟨x, e⟩)) (Rep.closed rp hc) ⟨nd, fun a h => ?_, fun a h => .inr (t1.back (off a h).2.1)⟩
      obtain ⟨_, h2, h3⟩ := off a h
      refine ⟨S1.sub.free h2, h3, fun ⟨i, z⟩ => ?_⟩
      obtain ⟨_, x, y⟩ := S1.off i a z
      rw [h2] at y; cases y
    · simp only [Option.map_eq_some_iff] at e6
      obtain ⟨⟨l2, d2⟩, e7, e8⟩ := e6
      cases e8
      obtain ⟨G2, F2, S2, t2, s2, dd, _⟩ := frzs_ok (fq := []) S1 t1 r1 (by rw [List.append_nil]; exact f1) e7
      have el : l2 = l := Option.some.inj ((frzs_sees e7).symm.trans e3)
      subst el
      refine ⟨G2, l2, r, S2.sub, dd, hn, e5, fun v G' H' fp sH sG sGH nw rp nd off => ?_⟩
      have SS := S2.grow sG sH sGH nw
      refine q v G' H' F2 fp SS (t2.trans (Step.grow sG sH nw)) rp ⟨nd, fun a h => ?_, fun a h => .inr (t2.back (off a h).2.1)⟩
      obtain ⟨h1, h2, h3⟩ := off a h
      refine ⟨h1, h3, fun ⟨i, z⟩ => ?_⟩
      obtain ⟨_, x, y⟩ := S2.off i a z
      rw [h2] at y; cases y
  · cases e4
end Fx
set_option Elab.async false
set_option linter.all false
set_option maxRecDepth 100000
namespace Fx
open PySem PySem.Spec L2
variable {K : Fr}

/-! ### tests -/
def fBool (f : DS → Option (RV × DS)) (ds : DS) : Option (Bool × DS) := (f ds).bind fun p => match p.1 with
  | .ov (.sh (.bool b)) => some (b, p.2)
  | _ => none
theorem rt_bool {t : TE} {f : DS → Option (RV × DS)} (h : RE K t f) : RT K (tTest t) (fBool f) := by
  intro G H F σ ds b ds' Q S e q
  simp only [fBool, Option.bind_eq_some_iff] at e
  obtain ⟨⟨r, d1⟩, e1, e2⟩ := e
  split at e2
  · rename_i b' hb
    cases e2
    have hb : r = .ov (.sh (.bool b)) := hb
    subst hb
    refine h G H F σ ds _ _ _ S e1 fun v G1 H1 F1 fp1 S1 t1 r1 f1 => ?_
    have r1 : Dp K G1 v (.bool b) := r1.1
    cases r1
    exact ⟨b, rfl, q G1 H1 F1 S1 t1⟩
  · cases e2
/-- the truth of data -/
def truD : D → Option Bool
  | .none => some false
  | .bool b => some b
  | .int i => some (i != 0)
  | .list l => some (!l.isEmpty)
  | .tuple l => some (!l.isEmpty)
  | .str _ => none
  | .dict _ => none
theorem tru_ok {H : Hp} {v : V} {d : D} {b : Bool} (h : Dp K H v d) (e : truD d = some b) : TruV K v H b := by
  cases h with
  | non => cases e; rfl
  | bl c => cases e; rfl
  | int i => cases e; rfl
  | str x => cases e
  | @lst a xs ds h1 h2 =>
    refine .inl ⟨xs, h1, ?_⟩
    have e : (!ds.isEmpty) = b := Option.some.inj e
    rw [← e]
    cases h2 <;> rfl
  | @tup a xs ds h1 h2 =>
    refine .inr (.inl ⟨xs, h1, ?_⟩)
    have e : (!ds.isEmpty) = b := Option.some.inj e
    rw [← e]
    cases h2 <;> rfl
def tTru (K : Fr) (ta : TE) : TT := fun σ H Q => ta σ H fun x H' => ∃ k, TruV K x H' k ∧ Q k H'
def fTru (f : DS → Option (RV × DS)) (ds : DS) : Option (Bool × DS) := (f ds).bind fun p => (see p.1 p.2).bind fun d => (truD d).map fun b => (b, p.2)
theorem rt_tru {t : TE} {f : DS → Option (RV × DS)} (h : RE K t f) : RT K (tTru K t) (fTru f) := by
  intro G H F σ ds b ds' Q S e q
  simp only [fTru, Option.bind_eq_some_iff, Option.map_eq_some_iff] at e
  obtain ⟨⟨r, d1⟩, e1, d, e2, b', e3, e4⟩ := e
  cases e4
  refine h G H F σ ds _ _ _ S e1 fun v G1 H1 F1 fp1 S1 t1 r1 f1 => ?_
  exact ⟨b, tru_ok (see_ok S1 r1 e2) e3, q G1 H1 F1 S1 t1⟩
def fAndT (f g : DS → Option (Bool × DS)) (ds : DS) : Option (Bool × DS) := (f ds).bind fun p => if p.1 = true then g p.2 else some (false, p.2)
def fOrT (f g : DS → Option (Bool × DS)) (ds : DS) : Option (Bool × DS) := (f ds).bind fun p => if p.1 = true then some (true, p.2) else g p.2
def fNotT (f : DS → Option (Bool × DS)) (ds : DS) : Option (Bool × DS) := (f ds).map fun p => (!p.1, p.2)
theorem rt_and {t u : TT} {f g : DS → Option (Bool × DS)} (h : RT K t f) (k : RT K u g) : RT K (tAnd t u) (fAndT f g) := by
  intro G H F σ ds b ds' Q S e q
  simp only [fAndT, Option.bind_eq_some_iff] at e
  obtain ⟨⟨c, d1⟩, e1, e2⟩ := e
  refine h G H F σ ds c d1 _ S e1 fun G1 H1 F1 S1 t1 => ?_
  cases c with
  | true => exact k G1 H1 F1 σ d1 b ds' Q S1 e2 fun G2 H2 F2 S2 t2 => q G2 H2 F2 S2 (t1.trans t2)
  | false => cases e2; exact q G1 H1 F1 S1 t1
theorem rt_or {t u : TT} {f g : DS → Option (Bool × DS)} (h : RT K t f) (k : RT K u g) : RT K (tOr t u) (fOrT f g) := by
  intro G H F σ ds b ds' Q S e q
  simp only [fOrT, Option.bind_eq_some_iff] at e
  obtain ⟨⟨c, d1⟩, e1, e2⟩ := e
  refine h G H F σ ds c d1 _ S e1 fun G1 H1 F1 S1 t1 => ?_
  cases c with
  | false => exact k G1 H1 F1 σ d1 b ds' Q S1 e2 fun G2 H2 F2 S2 t2 => q G2 H2 F2 S2 (t1.trans t2)
  | true => cases e2; exact q G1 H1 F1 S1 t1
theorem rt_not {t : TT} {f : DS → Option (Bool × DS)} (h : RT K t f) : RT K (tNot t) (fNotT f) := by
  intro G H F σ ds b ds' Q S e q
  simp only [fNotT, Option.map_eq_some_iff] at e
  obtain ⟨⟨c, d1⟩, e1, e2⟩ := e
  cases e2
  exact h G H F σ ds c _ _ S e1 fun G1 H1 F1 S1 t1 => q G1 H1 F1 S1 t1
def fYes (ds : DS) : Option (Bool × DS) := some (true, ds)
theorem rt_yes : RT K tYes fYes := by
  intro G H F σ ds b ds' Q S e q
  cases e
  exact q G H F S (Step.refl _ _ _)
/-- as values -/
def fAndV (f g : DS → Option (RV × DS)) (ds : DS) : Option (RV × DS) := (fBool f ds).bind fun p => if p.1 = true then g p.2 else some (.ov (.sh (.bool false)), p.2)
def fOrV (f g : DS → Option (RV × DS)) (ds : DS) : Option (RV × DS) := (fBool f ds).bind fun p => if p.1 = true then some (.ov (.sh (.bool true)), p.2) else g p.2
def fNotV (f : DS → Option (RV × DS)) (ds : DS) : Option (RV × DS) := (fBool f ds).map fun p => (.ov (.sh (.bool (!p.1))), p.2)
theorem re_and {t u : TE} {f g : DS → Option (RV × DS)} (h : RE K t f) (k : RE K u g) : RE K (tAndV t u) (fAndV f g) := by
  intro G H F σ ds r ds' Q S e q
  simp only [fAndV, Option.bind_eq_some_iff] at e
  obtain ⟨⟨c, d1⟩, e1, e2⟩ := e
  refine rt_bool h G H F σ ds c d1 (fun c H1 => if c = true then u σ H1 Q else Q (.bl false) H1) S e1 fun G1 H1 F1 S1 t1 => ?_
  cases c with
  | true => exact k G1 H1 F1 σ d1 r ds' Q S1 e2 fun v G2 H2 F2 fp S2 t2 r2 f2 => q v G2 H2 F2 fp S2 (t1.trans t2) r2 (f2.since t1)
  | false => cases e2; exact q _ G1 H1 F1 [] S1 t1 ⟨.bl _, rfl⟩ .nil
theorem re_or {t u : TE} {f g : DS → Option (RV × DS)} (h : RE K t f) (k : RE K u g) : RE K (tOrV t u) (fOrV f g) := by
  intro G H F σ ds r ds' Q S e q
  simp only [fOrV, Option.bind_eq_some_iff] at e
  obtain ⟨⟨c, d1⟩, e1, e2⟩ := e
  refine rt_bool h G H F σ ds c d1 (fun c H1 => if c = true then Q (.bl true) H1 else u σ H1 Q) S e1 fun G1 H1 F1 S1 t1 => ?_
  cases c with
  | false => exact k G1 H1 F1 σ d1 r ds' Q S1 e2 fun v G2 H2 F2 fp S2 t2 r2 f2 => q v G2 H2 F2 fp S2 (t1.trans t2) r2 (f2.since t1)
  | true => cases e2; exact q _ G1 H1 F1 [] S1 t1 ⟨.bl _, rfl⟩ .nil
theorem re_not {t : TE} {f : DS → Option (RV × DS)} (h : RE K t f) : RE K (tNotV t) (fNotV f) := by
  intro G H F σ ds r ds' Q S e q
  simp only [fNotV, Option.map_eq_some_iff] at e
  obtain ⟨⟨c, d1⟩, e1, e2⟩ := e
  cases e2
  exact rt_bool h G H F σ ds c _ (fun c H1 => Q (.bl (!c)) H1) S e1 fun G1 H1 F1 S1 t1 => q _ G1 H1 F1 [] S1 t1 ⟨.bl _, rfl⟩ .nil
def fIf (c : DS → Option (Bool × DS)) (f g : DS → Option (RV × DS)) (ds : DS) : Option (RV × DS) := (c ds).bind fun p => if p.1 = true then f p.2 else g p.2
theorem re_if {tc : TT} {t u : TE} {c : DS → Option (Bool × DS)} {f g : DS → Option (RV × DS)} (hc : RT K tc c) (h : RE K t f) (k : RE K u g) : RE K (tIf tc t u) (fIf c f g) := by
  intro G H F σ ds r ds' Q S e q
  simp only [fIf, Option.bind_eq_some_iff] at e
  obtain ⟨⟨b, d1⟩, e1, e2⟩ := e
  refine hc G H F σ ds b d1 _ S e1 fun G1 H1 F1 S1 t1 => ?_
  cases b with
  | true => exact h G1 H1 F1 σ d1 r ds' Q S1 e2 fun v G2 H2 F2 fp S2 t2 r2 f2 => q v G2 H2 F2 fp S2 (t1.trans t2) r2 (f2.since t1)
  | false => exact k G1 H1 F1 σ d1 r ds' Q S1 e2 fun v G2 H2 F2 fp S2 t2 r2 f2 => q v G2 H2 F2 fp S2 (t1.trans t2) r2 (f2.since t1)

/-! ### targets -/
theorem same_sqt {G H : Hp} {a : Addr} {xs : List V} (s : Same G H) (h : SqT K G a xs) : SqT K H a xs := by
  rcases h with (h | ⟨o, h⟩) | h
  · exact .inl (.inl (s _ _ h))
  · exact .inl (.inr ⟨o, s _ _ h⟩)
  · exact .inr h
/-- slot i gets a value -/
theorem SI.put {G H H0 : Hp} {σ : St} {ds : DS} {F : Nat → List Addr} {W0 : Addr → Prop} {v : V} {o : OV} {fp : List Addr} (S : SI K G H σ ds F) (i : Nat) (r : Rep K G H v o fp) (f : Fp G H (Wf F) W0 H0 fp) : SI K G H (σ.set i (some v)) (ds.set i (some o)) (offF F i fp) where
  sub := S.sub
  len := by rw [List.length_set, List.length_set]; exact S.len
  rep := fun j u e => by
    by_cases hj : j = i
    · subst hj
      have hl : j < ds.length := by
        have := (List.getElem?_eq_some_iff.mp e).1
        rwa [List.length_set] at this
      rw [List.getElem?_set_self hl] at e
      cases e
      refine ⟨v, List.getElem?_set_self (by rw [S.len]; exact hl), ?_⟩
      unfold offF; rw [if_pos rfl]
      exact r
    · rw [List.getElem?_set_ne (Ne.symm hj)] at e
      obtain ⟨w, h1, h2⟩ := S.rep j u e
      refine ⟨w, by rw [List.getElem?_set_ne (Ne.symm hj)]; exact h1, ?_⟩
      unfold offF; rw [if_neg hj]
      exact h2
  nod := fun j => by unfold offF; split; exact f.nod; exact S.nod j
  off := fun j a ha => by
    unfold offF at ha
    split at ha
    · exact ⟨(f.off a ha).1, (f.off a ha).2.1⟩
    · exact S.off j a ha
  dis := fun j k a h1 h2 => by
    unfold offF at h1 h2
    split at h1
    · split at h2
      · rename_i e1 e2
        rw [e1, e2]
      · exact absurd ⟨k, h2⟩ (f.off a h1).2.2
    · split at h2
      · exact absurd ⟨j, h1⟩ (f.off a h2).2.2
      · exact S.dis j k a h1 h2
theorem Step.put {W0 : Addr → Prop} {G0 H0 G H : Hp} {F : Nat → List Addr} {i : Nat} {fp : List Addr} (t : Step W0 G0 H0 G H (Wf F)) (n : ∀ a ∈ fp, W0 a ∨ H0 a = none) : Step W0 G0 H0 G H (Wf (offF F i fp)) :=
  t.reown fun b hb => (wf_off hb).elim (t.own b) (n b)
/-- a target's reading stores shared data -/
def RG (K : Fr) (T : List Nat) (g : TG) (fg : D → DS → Option DS) : Prop := ∀ (G H : Hp) (F : Nat → List Addr) (σ : St) (ds : DS) (v : V) (d : D) (ds' : DS) (Q : St → Hp → Prop), SI K G H σ ds F → Dp K G v d → fg d ds = some ds' →
  (∀ σ' F', SI K G H σ' ds' F' → (∀ b, Wf F' b → Wf F b) → Off T σ σ' → Q σ' H) → g v σ H Q
def fgName (i : Nat) (d : D) (ds : DS) : Option DS := some (ds.set i (some (.sh d)))
theorem rg_name {i : Nat} : RG K [i] (gName i) (fgName i) := by
  intro G H F σ ds v d ds' Q S h e q
  cases e
  exact q _ _ (S.put i (W0 := Wf F) (H0 := H) ⟨h, rfl⟩ .nil) (fun b hb => (wf_off hb).elim id fun z => nomatch z) ⟨List.length_set, fun j hj => List.getElem?_set_ne fun e => hj (by simp [e])⟩
/-- several targets -/
def RGs (K : Fr) (T : List Nat) (g : TGs) (fg : List D → DS → Option DS) : Prop := ∀ (G H : Hp) (F : Nat → List Addr) (σ : St) (ds : DS) (vs : List V) (l : List D) (ds' : DS) (Q : St → Hp → Prop), SI K G H σ ds F → DpAll K G vs l → fg l ds = some ds' →
  (∀ σ' F', SI K G H σ' ds' F' → (∀ b, Wf F' b → Wf F b) → Off T σ σ' → Q σ' H) → g vs σ H Q
def fgNil (l : List D) (ds : DS) : Option DS := match l with
  | [] => some ds
  | _ => none
def fgCons (f : D → DS → Option DS) (g : List D → DS → Option DS) (l : List D) (ds : DS) : Option DS := match l with
  | d :: r => (f d ds).bind fun ds1 => g r ds1
  | [] => none
theorem rgs_nil : RGs K [] gNil fgNil := by
  intro G H F σ ds vs l ds' Q S h e q
  cases h with
  | nil => cases e; exact ⟨rfl, q σ F S (fun _ h => h) ⟨rfl, fun _ _ => rfl⟩⟩
  | cons _ _ => cases e
theorem rgs_cons {T T' : List Nat} {t : TG} {u : TGs} {f : D → DS → Option DS} {g : List D → DS → Option DS} (h1 : RG K T t f) (h2 : RGs K T' u g) : RGs K (T ++ T') (gCons t u) (fgCons f g) := by
  intro G H F σ ds vs l ds' Q S h e q
  cases h with
  | nil => cases e
  | cons a b =>
    simp only [fgCons, Option.bind_eq_some_iff] at e
    obtain ⟨d1, e1, e2⟩ := e
    refine ⟨_, _, rfl, h1 G H F σ ds _ _ d1 _ S a e1 fun σ1 F1 S1 w1 o1 => ?_⟩
    refine h2 G H F1 σ1 d1 _ _ ds' Q S1 b e2 fun σ2 F2 S2 w2 o2 => q σ2 F2 S2 (fun x hx => w1 x (w2 x hx)) ⟨o2.1.trans o1.1, fun i hi => ?_⟩
    rw [List.mem_append, not_or] at hi
    exact (o2.2 i hi.2).trans (o1.2 i hi.1)
def fgTup (n : Nat) (g : List D → DS → Option DS) (d : D) (ds : DS) : Option DS := match d with
  | .tuple l => if l.length = n then g l ds else none
  | _ => none
theorem rg_tup {T : List Nat} {n : Nat} {t : TGs} {g : List D → DS → Option DS} (h : RGs K T t g) : RG K T (gTup K n t) (fgTup n g) := by
  intro G H F σ ds v d ds' Q S hd e q
  cases hd with
  | tup h1 h2 =>
    simp only [fgTup] at e
    split at e
    · rename_i hn
      exact ⟨_, _, rfl, same_sqt S.sub h1, by rw [dpsLen h2]; exact hn, h G H F σ ds _ _ ds' Q S h2 e q⟩
    · cases e
  | _ => cases e

/-! ### statements -/
def fNext (ds : DS) : Option Out := some (.nx ds)
theorem rs_next : RS K [] tNext fNext := by
  intro G H F σ ds o E S e q
  cases e
  exact q σ G H F S (Step.refl _ _ _) (Off.refl _ _)
def fBreak (ds : DS) : Option Out := some (.bk ds)
theorem rs_break : RS K [] tBreak fBreak := by
  intro G H F σ ds o E S e q
  cases e
  exact q σ G H F S (Step.refl _ _ _) (Off.refl _ _)
def fCont (ds : DS) : Option Out := some (.ct ds)
theorem rs_cont : RS K [] tCont fCont := by
  intro G H F σ ds o E S e q
  cases e
  exact q σ G H F S (Step.refl _ _ _) (Off.refl _ _)
def fSeq (f g : DS → Option Out) (ds : DS) : Option Out := (f ds).bind fun o => match o with
  | .nx d => g d
  | o => some o
theorem rs_seq {T T' : List Nat} {t u : TS} {f g : DS → Option Out} (h : RS K T t f) (k : RS K T' u g) : RS K (T ++ T') (tSeq t u) (fSeq f g) := by
  intro G H F σ ds o E S e q
  simp only [fSeq, Option.bind_eq_some_iff] at e
  obtain ⟨o1, e1, e2⟩ := e
  refine h G H F σ ds o1 _ S e1 ?_
  cases o1 with
  | nx d => exact fun σ1 G1 H1 F1 S1 t1 f1 => k G1 H1 F1 σ1 d o E S1 e2 (Ended.later t1 f1.left (fun i hi => List.mem_append_right _ hi) q)
  | bk d => cases e2; exact fun σ1 G1 H1 F1 S1 t1 f1 => q σ1 G1 H1 F1 S1 t1 f1.left
  | ct d => cases e2; exact fun σ1 G1 H1 F1 S1 t1 f1 => q σ1 G1 H1 F1 S1 t1 f1.left
  | ret r => cases e2; exact q
def fExpr (f : DS → Option (RV × DS)) (ds : DS) : Option Out := (f ds).map fun p => .nx p.2
theorem rs_expr {t : TE} {f : DS → Option (RV × DS)} (h : RE K t f) : RS K [] (tDrop t) (fExpr f) := by
  intro G H F σ ds o E S e q
  simp only [fExpr, Option.map_eq_some_iff] at e
  obtain ⟨⟨r, d1⟩, e1, e2⟩ := e
  cases e2
  exact h G H F σ ds r d1 _ S e1 fun v G1 H1 F1 fp S1 t1 _ _ => q σ G1 H1 F1 S1 t1 (Off.refl _ _)
/-- what a value hands on when it is moved out -/
def mov : RV → DS → Option OV
  | .ov o, _ => some o
  | .loc i, ds => match ds[i]? with
    | some (some o) => some o
    | _ => none
def fRet (f : DS → Option (RV × DS)) (ds : DS) : Option Out := (f ds).bind fun p => (mov p.1 p.2).map fun o => .ret o
theorem rs_ret {t : TE} {f : DS → Option (RV × DS)} (h : RE K t f) : RS K [] (tRet t) (fRet f) := by
  intro G H F σ ds o E S e q
  simp only [fRet, Option.bind_eq_some_iff, Option.map_eq_some_iff] at e
  obtain ⟨⟨r, d1⟩, e1, o', e2, e3⟩ := e
  cases e3
  refine h G H F σ ds r d1 _ S e1 fun v G1 H1 F1 fp S1 t1 r1 f1 => ?_
  cases r with
  | ov u => cases e2; exact q v G1 H1 _ fp S1.sub t1 r1 f1
  | loc i =>
    simp only [mov] at e2
    split at e2
    · rename_i u hu
      cases e2
      obtain ⟨w, h1, h2⟩ := S1.rep i _ hu
      have h' : σ[i]? = some (some v) := r1.1
      rw [h'] at h1
      cases h1
      refine q v G1 H1 (fun _ => False) (F1 i) S1.sub (t1.reown fun _ h => h.elim) h2 ⟨S1.nod i, fun a ha => ⟨(S1.off i a ha).1, (S1.off i a ha).2, fun z => z⟩, fun a ha => t1.own a ⟨i, ha⟩⟩
    · cases e2
def fRetN (_ds : DS) : Option Out := some (.ret (.sh .none))
theorem rs_retN : RS K [] tRetN fRetN := by
  intro G H F σ ds o E S e q
  cases e
  exact q .non G H _ [] S.sub (Step.refl _ _ _) ⟨.non, rfl⟩ .nil
def fIfS (c : DS → Option (Bool × DS)) (f g : DS → Option Out) (ds : DS) : Option Out := (c ds).bind fun p => if p.1 = true then f p.2 else g p.2
theorem rs_if {T T' : List Nat} {tc : TT} {t u : TS} {c : DS → Option (Bool × DS)} {f g : DS → Option Out} (hc : RT K tc c) (h : RS K T t f) (k : RS K T' u g) : RS K (T ++ T') (tIfS tc t u) (fIfS c f g) := by
  intro G H F σ ds o E S e q
  simp only [fIfS, Option.bind_eq_some_iff] at e
  obtain ⟨⟨b, d1⟩, e1, e2⟩ := e
  refine hc G H F σ ds b d1 _ S e1 fun G1 H1 F1 S1 t1 => ?_
  cases b with
  | true => exact h G1 H1 F1 σ d1 o E S1 e2 (Ended.later t1 (Off.refl _ _) (fun i hi => List.mem_append_left _ hi) q)
  | false => exact k G1 H1 F1 σ d1 o E S1 e2 (Ended.later t1 (Off.refl _ _) (fun i hi => List.mem_append_right _ hi) q)
/-- name = value: an owned thing of another name becomes shared -/
def fSet (i : Nat) (f : DS → Option (RV × DS)) (ds : DS) : Option Out := (f ds).bind fun p => match p.1 with
  | .ov o => some (.nx (p.2.set i (some o)))
  | .loc j => (frz (.loc j) p.2).map fun q => .nx (q.2.set i (some (.sh q.1)))
theorem rs_set {i : Nat} {t : TE} {f : DS → Option (RV × DS)} (h : RE K t f) : RS K [i] (tAsg t (gName i)) (fSet i f) := by
  intro G H F σ ds o E S e q
  simp only [fSet, Option.bind_eq_some_iff] at e
  obtain ⟨⟨r, d1⟩, e1, e2⟩ := e
  refine h G H F σ ds r d1 _ S e1 fun v G1 H1 F1 fp S1 t1 r1 f1 => ?_
  cases r with
  | ov u => cases e2; exact q _ G1 H1 _ (S1.put i r1 f1) (t1.put f1.new) (Off.set i _ σ)
  | loc j =>
    simp only [Option.map_eq_some_iff] at e2
    obtain ⟨⟨d, d2⟩, e3, e4⟩ := e2
    cases e4
    obtain ⟨G2, F2, S2, t2, s2, dd, f2⟩ := frz_ok (fq := []) S1 t1 r1 (by rw [List.append_nil]; exact f1) e3
    exact q _ G2 H1 _ (S2.put i ⟨dd, rfl⟩ f2) (t2.put f2.new) (Off.set i _ σ)
/-- target = value, any target: the value becomes shared -/
def fAsg (g : D → DS → Option DS) (f : DS → Option (RV × DS)) (ds : DS) : Option Out := (f ds).bind fun p => (frz p.1 p.2).bind fun q => (g q.1 q.2).map fun d => .nx d
theorem rs_asg {T : List Nat} {t : TE} {f : DS → Option (RV × DS)} {g : TG} {fg : D → DS → Option DS} (h : RE K t f) (hg : RG K T g fg) : RS K T (tAsg t g) (fAsg fg f) := by
  intro G H F σ ds o E S e q
  simp only [fAsg, Option.bind_eq_some_iff, Option.map_eq_some_iff] at e
  obtain ⟨⟨r, d1⟩, e1, ⟨d, d2⟩, e2, d3, e3, e4⟩ := e
  cases e4
  refine h G H F σ ds r d1 _ S e1 fun v G1 H1 F1 fp S1 t1 r1 f1 => ?_
  obtain ⟨G2, F2, S2, t2, s2, dd, f2⟩ := frz_ok (fq := []) S1 t1 r1 (by rw [List.append_nil]; exact f1) e2
  exact hg G2 H1 F2 σ d2 v d d3 _ S2 dd e3 fun σ' F' S3 w3 o3 => q σ' G2 H1 F' S3 (t2.reown fun b hb => t2.own b (w3 b hb)) o3

/-! ### what is walked -/
/-- J walks data l as long as what stood in Gb stands -/
structure Wk (K : Fr) (Gb : Hp) (J : It) (l : List D) : Prop where
  goes : ∀ i H, i < l.length → Same Gb H → J.go i H
  stops : ∀ H, Same Gb H → J.stop l.length H
  yields : ∀ i d G H x H', l[i]? = some d → Same Gb G → Same G H → J.yld i H x H' → ∃ G', Same G G' ∧ Same H H' ∧ Same G' H' ∧ (∀ b y, G' b = some y → (∃ z, G b = some z) ∨ H b = none) ∧ Dp K G' x d
def RI (K : Fr) (wi : TI) (f : DS → Option (List D × DS)) : Prop :=
  ∀ (G H : Hp) (F : Nat → List Addr) (σ : St) (ds : DS) (l : List D) (ds' : DS) (R : It → Hp → Prop), SI K G H σ ds F → f ds = some (l, ds') →
    (∀ J G' H' F', SI K G' H' σ ds' F' → Step (Wf F) G H G' H' (Wf F') → Wk K G' J l → R J H') → wi σ H R
def loopF (g : D → DS → Option DS) (body : DS → Option Out) : List D → DS → Option Out
  | [], ds => some (.nx ds)
  | d :: l, ds => (g d ds).bind fun ds1 => (body ds1).bind fun o => match o with
    | .nx ds2 => loopF g body l ds2
    | .ct ds2 => loopF g body l ds2
    | .bk ds2 => some (.nx ds2)
    | .ret r => some (.ret r)
def fFor (fi : DS → Option (List D × DS)) (g : D → DS → Option DS) (body : DS → Option Out) (ds : DS) : Option Out := (fi ds).bind fun p => loopF g body p.1 p.2
theorem rs_for {T T' : List Nat} {wi : TI} {g : TG} {tb : TS} {fi : DS → Option (List D × DS)} {fg : D → DS → Option DS} {fb : DS → Option Out} (hi : RI K wi fi) (hg : RG K T g fg) (hb : RS K T' tb fb) : RS K (T ++ T') (tFor wi g tb) (fFor fi fg fb) := by
  intro G0 H0 F0 σ0 ds0 o E S0 e q
  simp only [fFor, Option.bind_eq_some_iff] at e
  obtain ⟨⟨l, ds1⟩, e1, e2⟩ := e
  refine hi G0 H0 F0 σ0 ds0 l ds1 _ S0 e1 fun J Gb H1 F1 S1 t1 wk => ?_
  refine ⟨fun i m σ H => m = l.length - i ∧ i ≤ l.length ∧ ∃ G F ds, SI K G H σ ds F ∧ Step (Wf F0) G0 H0 G H (Wf F) ∧ Same Gb G ∧ Off (T ++ T') σ0 σ ∧ loopF fg fb (l.drop i) ds = some o,
    ⟨l.length, by simp, Nat.zero_le _, Gb, F1, ds1, S1, t1, Same.refl Gb, Off.refl _ _, by simpa using e2⟩, ?_⟩
  rintro i m σ H ⟨rfl, hi, G, F, ds, S, t, sb, off, hl⟩
  by_cases hlt : i < l.length
  · refine .inr ⟨wk.goes i H hlt (sb.trans S.sub), fun σ' H' => ∃ G F ds, SI K G H' σ' ds F ∧ Step (Wf F0) G0 H0 G H' (Wf F) ∧ Same Gb G ∧ Off (T ++ T') σ0 σ' ∧ loopF fg fb (l.drop (i + 1)) ds = some o,
      fun σ' H' h => ⟨l.length - (i + 1), by omega, rfl, hlt, h⟩, fun x H' y => ?_⟩
    have hd : l[i]? = some l[i] := by simp [hlt]
    obtain ⟨G', sG, sH, sGH, nw, dd⟩ := wk.yields i l[i] G H x H' hd sb S.sub y
    have S' := S.grow sG sH sGH nw
    have t' := t.trans (Step.grow sG sH nw)
    rw [List.drop_eq_getElem_cons hlt] at hl
    simp only [loopF, Option.bind_eq_some_iff] at hl
    obtain ⟨ds2, h1, oo, h2, h3⟩ := hl
    refine hg G' H' F σ ds x l[i] ds2 _ S' dd h1 fun σ2 F2 S2 w2 o2 => ?_
    have off2 := off.trans (o2.left (T' := T'))
    have t2 : Step (Wf F0) G0 H0 G' H' (Wf F2) := t'.reown fun b hb => t'.own b (w2 b hb)
    refine hb G' H' F2 σ2 ds2 oo _ S2 h2 ?_
    cases oo with
    | nx ds3 => exact fun σ3 G3 H3 F3 S3 t3 f3 => ⟨G3, F3, ds3, S3, t2.trans t3, sb.trans (sG.trans t3.sg), off2.trans f3.right, h3⟩
    | ct ds3 => exact fun σ3 G3 H3 F3 S3 t3 f3 => ⟨G3, F3, ds3, S3, t2.trans t3, sb.trans (sG.trans t3.sg), off2.trans f3.right, h3⟩
    | bk ds3 => cases h3; exact fun σ3 G3 H3 F3 S3 t3 f3 => q σ3 G3 H3 F3 S3 (t2.trans t3) (off2.trans f3.right)
    | ret r => cases h3; exact fun v G3 H3 W3 fp sg t3 r3 f3 => q v G3 H3 W3 fp sg (t2.trans t3) r3 (f3.since t2)
  · have ei : i = l.length := by omega
    subst ei
    rw [List.drop_length] at hl
    cases hl
    exact .inl ⟨wk.stops H (sb.trans S.sub), q σ G H F S t off⟩
/-- a list that stands -/
theorem wk_list {G : Hp} {a : Addr} {xs : List V} {l : List D} (h : SqL K G a xs) (hd : DpAll K G xs l) : Wk K G (Itl K a) l where
  goes := fun i H hi s => ⟨xs, xs[i]'(by rw [dpsLen hd]; exact hi), s.seq h, by simp [dpsLen hd, hi]⟩
  stops := fun H s => ⟨xs, s.seq h, by rw [dpsLen hd]; exact Nat.le_refl _⟩
  yields := fun i d G1 H x H' hi s1 s2 y => by
    obtain ⟨rfl, y⟩ := y
    have hx := y xs ((s1.trans s2).seq h)
    obtain ⟨d', e1, e2⟩ := dpsGetV hd hx
    rw [hi] at e1
    cases e1
    exact ⟨G1, Same.refl _, Same.refl _, s2, fun b y e => .inl ⟨y, e⟩, dpMono s1 _ _ e2⟩
theorem wk_range {G : Hp} {lo : Int} {n : Nat} : Wk K G (Itr lo n) ((List.range n).map fun (i : Nat) => PyData.int (lo + (i : Int))) where
  goes := fun i H hi _ => by
    show i < n
    simpa using hi
  stops := fun H _ => by
    show n ≤ _
    simp
  yields := fun i d G1 H x H' hi s1 s2 y => by
    obtain ⟨rfl, rfl⟩ := y
    rw [List.getElem?_map] at hi
    simp only [Option.map_eq_some_iff] at hi
    obtain ⟨j, hj, rfl⟩ := hi
    have : i = j := by
      obtain ⟨h1, h2⟩ := List.getElem?_eq_some_iff.mp hj
      simpa using h2
    subst this
    exact ⟨G1, Same.refl _, Same.refl _, s2, fun b y e => .inl ⟨y, e⟩, .int _⟩
def fiList (f : DS → Option (RV × DS)) (ds : DS) : Option (List D × DS) := (f ds).bind fun p => (frz p.1 p.2).bind fun q => match q.1 with
  | .list l => some (l, q.2)
  | _ => none
theorem ri_list {t : TE} {f : DS → Option (RV × DS)} (h : RE K t f) : RI K (iList K t) (fiList f) := by
  intro G H F σ ds l ds' R S e q
  simp only [fiList, Option.bind_eq_some_iff] at e
  obtain ⟨⟨r, d1⟩, e1, ⟨d, d2⟩, e2, e3⟩ := e
  split at e3
  · rename_i l' hl
    cases e3
    have hl : d = .list l := hl
    subst hl
    refine h G H F σ ds r d1 _ S e1 fun v G1 H1 F1 fp S1 t1 r1 f1 => ?_
    obtain ⟨G2, F2, S2, t2, s2, dd, f2⟩ := frz_ok (fq := []) S1 t1 r1 (by rw [List.append_nil]; exact f1) e2
    cases dd with
    | lst h1 h2 => exact ⟨_, rfl, ⟨_, S2.sub.seq h1⟩, q _ G2 H1 F2 S2 t2 (wk_list h1 h2)⟩
  · cases e3
def fiTup (f : DS → Option (RV × DS)) (ds : DS) : Option (List D × DS) := (f ds).bind fun p => (frz p.1 p.2).bind fun q => match q.1 with
  | .tuple l => some (l, q.2)
  | _ => none
theorem wk_tup {G : Hp} {a : Addr} {xs : List V} {l : List D} (h : SqT K G a xs) (hd : DpAll K G xs l) : Wk K G (Itt K a) l where
  goes := fun i H hi s => ⟨xs, xs[i]'(by rw [dpsLen hd]; exact hi), same_sqt s h, by simp [dpsLen hd, hi]⟩
  stops := fun H s => ⟨xs, same_sqt s h, by rw [dpsLen hd]; exact Nat.le_refl _⟩
  yields := fun i d G1 H x H' hi s1 s2 y => by
    obtain ⟨rfl, y⟩ := y
    have hx := y xs (same_sqt (s1.trans s2) h)
    obtain ⟨d', e1, e2⟩ := dpsGetV hd hx
    rw [hi] at e1
    cases e1
    exact ⟨G1, Same.refl _, Same.refl _, s2, fun b y e => .inl ⟨y, e⟩, dpMono s1 _ _ e2⟩
theorem ri_tup {t : TE} {f : DS → Option (RV × DS)} (h : RE K t f) : RI K (iTup K t) (fiTup f) := by
  intro G H F σ ds l ds' R S e q
  simp only [fiTup, Option.bind_eq_some_iff] at e
  obtain ⟨⟨r, d1⟩, e1, ⟨d, d2⟩, e2, e3⟩ := e
  split at e3
  · rename_i l' hl
    cases e3
    have hl : d = .tuple l := hl
    subst hl
    refine h G H F σ ds r d1 _ S e1 fun v G1 H1 F1 fp S1 t1 r1 f1 => ?_
    obtain ⟨G2, F2, S2, t2, s2, dd, f2⟩ := frz_ok (fq := []) S1 t1 r1 (by rw [List.append_nil]; exact f1) e2
    cases dd with
    | tup h1 h2 => exact ⟨_, rfl, ⟨_, same_sqt S2.sub h1⟩, q _ G2 H1 F2 S2 t2 (wk_tup h1 h2)⟩
  · cases e3
noncomputable def small62 (i : Int) : Bool := yes (-(2 ^ 62) ≤ i ∧ i < 2 ^ 62)
def rangeD (lo hi : Int) : List D := (List.range (hi - lo).toNat).map fun (i : Nat) => PyData.int (lo + (i : Int))
noncomputable def fiR1 (fa : DS → Option (List RV × DS)) (ds : DS) : Option (List D × DS) := (fa ds).bind fun p => (sees p.1 p.2).bind fun l => match l with
  | [.int j] => if small62 j then some (rangeD 0 j, p.2) else none
  | _ => none
noncomputable def fiR2 (fa : DS → Option (List RV × DS)) (ds : DS) : Option (List D × DS) := (fa ds).bind fun p => (sees p.1 p.2).bind fun l => match l with
  | [.int i, .int j] => if small62 i && small62 j then some (rangeD i j, p.2) else none
  | _ => none
theorem ri_r1 {t : TA} {f : DS → Option (List RV × DS)} (h : RA K t f) : RI K (iRng1 t) (fiR1 f) := by
  intro G H F σ ds l ds' R S e q
  simp only [fiR1, Option.bind_eq_some_iff] at e
  obtain ⟨⟨r, d1⟩, e1, l1, e2, e3⟩ := e
  split at e3
  · rename_i j
    split at e3
    · rename_i hs
      cases e3
      refine h G H F σ ds r d1 _ S e1 fun v G1 H1 F1 fp S1 t1 r1 f1 => ?_
      have dd := sees_ok S1 r1 e2
      cases dd with
      | cons a b =>
        cases b
        cases a
        have hs := of_yes hs
        refine ⟨j, rfl, hs.1, hs.2, ?_⟩
        have := q (Itr 0 j.toNat) G1 H1 F1 S1 t1
        rw [show rangeD 0 j = (List.range j.toNat).map fun (i : Nat) => PyData.int (0 + (i : Int)) by unfold rangeD; rw [Int.sub_zero]] at this
        exact this wk_range
    · cases e3
  · cases e3
theorem ri_r2 {t : TA} {f : DS → Option (List RV × DS)} (h : RA K t f) : RI K (iRng2 t) (fiR2 f) := by
  intro G H F σ ds l ds' R S e q
  simp only [fiR2, Option.bind_eq_some_iff] at e
  obtain ⟨⟨r, d1⟩, e1, l1, e2, e3⟩ := e
  split at e3
  · rename_i i j
    split at e3
    · rename_i hs
      cases e3
      refine h G H F σ ds r d1 _ S e1 fun v G1 H1 F1 fp S1 t1 r1 f1 => ?_
      have dd := sees_ok S1 r1 e2
      cases dd with
      | cons a b =>
        cases b with
        | cons b c =>
          cases c
          cases a
          cases b
          rw [Bool.and_eq_true] at hs
          have h1 := of_yes hs.1
          have h2 := of_yes hs.2
          exact ⟨i, j, rfl, ⟨h1.1, h1.2, h2.1, h2.2⟩, q _ G1 H1 F1 S1 t1 wk_range⟩
    · cases e3
  · cases e3
end Fx
set_option Elab.async false
set_option linter.all false
set_option maxRecDepth 100000
namespace Fx
open PySem PySem.Spec L2
variable {K : Fr}

theorem szOf {n : Nat} (h : n ≤ 1000000) : n < sizeLine := Nat.lt_of_le_of_lt h (by rw [sizeLine_eq]; decide)

/-! ### comprehensions -/
def wipeD (ds : DS) : List Nat → DS
  | [] => ds
  | v :: vs => (wipeD ds vs).set v none
theorem wipeD_some {ds : DS} {i : Nat} {o : OV} : ∀ {vs : List Nat}, (wipeD ds vs)[i]? = some (some o) → ds[i]? = some (some o) ∧ i ∉ vs
  | [], h => ⟨h, by simp⟩
  | v :: vs, h => by
    unfold wipeD at h
    by_cases e : v = i
    · subst e
      by_cases hl : v < (wipeD ds vs).length
      · rw [List.getElem?_set_self hl] at h; cases h
      · rw [List.getElem?_eq_none (by rw [List.length_set]; omega)] at h; cases h
    · rw [List.getElem?_set_ne e] at h
      obtain ⟨h1, h2⟩ := wipeD_some h
      exact ⟨h1, by simp [h2, Ne.symm e]⟩
theorem wipeD_length (ds : DS) : ∀ vs : List Nat, (wipeD ds vs).length = ds.length
  | [] => rfl
  | v :: vs => by unfold wipeD; rw [List.length_set, wipeD_length]
theorem SI.wiped {G H : Hp} {σ : St} {ds : DS} {F : Nat → List Addr} (S : SI K G H σ ds F) (vs : List Nat) : SI K G H (wipe σ vs) (wipeD ds vs) F where
  sub := S.sub
  len := by rw [wipe_length, wipeD_length]; exact S.len
  rep := fun i o e => by
    obtain ⟨h1, h2⟩ := wipeD_some e
    obtain ⟨v, h3, h4⟩ := S.rep i o h1
    exact ⟨v, by rw [wipe_out h2]; exact h3, h4⟩
  nod := S.nod
  off := S.off
  dis := S.dis
/-- the slots vs as in d0, the others as in d -/
def mend (d0 d : DS) : List Nat → DS
  | [] => d
  | v :: vs => (mend d0 d vs).set v ((d0[v]?).getD none)
theorem mend_length (d0 d : DS) : ∀ vs : List Nat, (mend d0 d vs).length = d.length
  | [] => rfl
  | v :: vs => by unfold mend; rw [List.length_set, mend_length]
theorem mend_at {d0 d : DS} {i : Nat} {o : OV} : ∀ {vs : List Nat}, (mend d0 d vs)[i]? = some (some o) → (i ∈ vs ∧ d0[i]? = some (some o)) ∨ (i ∉ vs ∧ d[i]? = some (some o))
  | [], h => .inr ⟨by simp, h⟩
  | v :: vs, h => by
    unfold mend at h
    by_cases e : v = i
    · subst e
      by_cases hl : v < (mend d0 d vs).length
      · rw [List.getElem?_set_self hl] at h
        refine .inl ⟨by simp, ?_⟩
        cases q : d0[v]? with
        | none => rw [q] at h; cases h
        | some x => rw [q] at h; exact h
      · rw [List.getElem?_eq_none (by rw [List.length_set]; omega)] at h; cases h
    · rw [List.getElem?_set_ne e] at h
      rcases mend_at h with ⟨h1, h2⟩ | ⟨h1, h2⟩
      · exact .inl ⟨by simp [h1], h2⟩
      · exact .inr ⟨by simp [h1, Ne.symm e], h2⟩
def shB : Option (Option OV) → Bool
  | some (some (.sh _)) => true
  | some (some _) => false
  | _ => true
theorem sh_of {x : Option (Option OV)} {o : OV} (h : shB x = true) (e : x = some (some o)) : ∃ d, o = .sh d := by
  subst e
  cases o with
  | sh d => exact ⟨d, rfl⟩
  | flat l => cases h
  | tree d => cases h
def turnC (g : D → DS → Option DS) (ft : DS → Option (Bool × DS)) (fe : DS → Option (RV × DS)) (vs : List Nat) (d : D) (w : DS) : Option (Option D × DS) :=
  (g d w).bind fun ds1 => (ft ds1).bind fun p => if p.1 = true then (fe p.2).bind fun q => (frz q.1 q.2).map fun z => (some z.1, wipeD z.2 vs) else some (none, wipeD p.2 vs)
def own : RV → Option D
  | .ov o => o.own?
  | .loc _ => none
def turnM (g : D → DS → Option DS) (ft : DS → Option (Bool × DS)) (fe : DS → Option (RV × DS)) (vs : List Nat) (d : D) (w : DS) : Option (Option D × DS) :=
  (g d w).bind fun ds1 => (ft ds1).bind fun p => if p.1 = true then (fe p.2).bind fun q => (own q.1).map fun z => (some z, wipeD q.2 vs) else some (none, wipeD p.2 vs)
def lcF (τ : D → DS → Option (Option D × DS)) : List D → DS → List D → Option (List D × DS)
  | [], w, acc => some (acc, w)
  | d :: l, w, acc => (τ d w).bind fun p => lcF τ l p.2 (acc ++ p.1.toList)
def fLcG (mk : List D → OV) (τ : List Nat → D → DS → Option (Option D × DS)) (fi : DS → Option (List D × DS)) (vs : List Nat) (ds : DS) : Option (RV × DS) := (fi ds).bind fun p =>
  if (vs.all fun i => shB p.2[i]?) && decide (p.1.length ≤ 1000000) then (lcF (τ vs) p.1 (wipeD p.2 vs) []).map fun q => (.ov (mk q.1), mend p.2 q.2 vs) else none
/-- a new list of shared items; of owned ones -/
def fLc (fi : DS → Option (List D × DS)) (g : D → DS → Option DS) (ft : DS → Option (Bool × DS)) (fe : DS → Option (RV × DS)) (vs : List Nat) : DS → Option (RV × DS) := fLcG .flat (turnC g ft fe) fi vs
def fLcM (fi : DS → Option (List D × DS)) (g : D → DS → Option DS) (ft : DS → Option (Bool × DS)) (fe : DS → Option (RV × DS)) (vs : List Nat) : DS → Option (RV × DS) := fLcG (fun l => .tree (.list l)) (turnM g ft fe) fi vs
theorem wipe_off {T vs : List Nat} {σ σ' : St} (h : ∀ i ∈ T, i ∈ vs) (o : Off T (wipe σ vs) σ') : wipe σ' vs = wipe σ vs := by
  refine List.ext_getElem? fun i => ?_
  have hl : σ'.length = σ.length := by rw [o.1, wipe_length]
  by_cases hi : i ∈ vs
  · have z : ∀ (τ : St), τ.length = σ.length → (wipe τ vs)[i]? = if i < σ.length then some none else none := fun τ e => by
      clear o
      induction vs with
      | nil => cases hi
      | cons v vs ih =>
        unfold wipe
        by_cases ev : v = i
        · subst ev
          by_cases hlt : v < σ.length
          · rw [List.getElem?_set_self (by rw [wipe_length, e]; exact hlt), if_pos hlt]
          · rw [List.getElem?_eq_none (by rw [List.length_set, wipe_length, e]; omega), if_neg hlt]
        · rw [List.getElem?_set_ne ev]
          have hm : i ∈ vs := by
            rcases List.mem_cons.mp hi with q | q
            · exact absurd q.symm ev
            · exact q
          clear ih
          have go : ∀ us : List Nat, i ∈ us → (wipe τ us)[i]? = if i < σ.length then some none else none := fun us => by
            induction us with
            | nil => intro q; cases q
            | cons u us ih2 =>
              intro q
              unfold wipe
              by_cases eu : u = i
              · subst eu
                by_cases hlt : u < σ.length
                · rw [List.getElem?_set_self (by rw [wipe_length, e]; exact hlt), if_pos hlt]
                · rw [List.getElem?_eq_none (by rw [List.length_set, wipe_length, e]; omega), if_neg hlt]
              · rw [List.getElem?_set_ne eu]
                rcases List.mem_cons.mp q with q | q
                · exact absurd q.symm eu
                · exact ih2 q
          exact go vs hm
    rw [z σ' hl, z σ rfl]
  · rw [wipe_out hi, wipe_out hi, o.2 i fun z => hi (h i z), wipe_out hi]
/-- the state behind a comprehension -/
theorem SI.mended {G0 H0 G H : Hp} {σ : St} {d0 w : DS} {F0 F : Nat → List Addr} {vs : List Nat} (S0 : SI K G0 H0 σ d0 F0) (sg : Same G0 G) (S : SI K G H (wipe σ vs) w F) (hv : ∀ i ∈ vs, shB d0[i]? = true) :
    ∃ F', SI K G H σ (mend d0 w vs) F' ∧ ∀ b, Wf F' b → Wf F b := by
  refine ⟨fun i => if i ∈ vs then [] else F i, ⟨S.sub, ?_, fun i o e => ?_, fun i => ?_, fun i a ha => ?_, fun i j a h1 h2 => ?_⟩, fun b ⟨i, hb⟩ => ?_⟩
  · have h1 := S.len
    have h2 := S0.len
    rw [wipe_length] at h1
    rw [mend_length]
    exact h1
  · rcases mend_at e with ⟨h1, h2⟩ | ⟨h1, h2⟩
    · obtain ⟨v, h3, h4⟩ := S0.rep i o h2
      obtain ⟨d, rfl⟩ := sh_of (hv i h1) h2
      exact ⟨v, h3, dpMono sg _ _ h4.1, by simp [h1]⟩
    · obtain ⟨v, h3, h4⟩ := S.rep i o h2
      rw [wipe_out h1] at h3
      refine ⟨v, h3, ?_⟩
      rw [if_neg h1]
      exact h4
  · by_cases h : i ∈ vs
    · simp [h]
    · simp only [h, if_false]; exact S.nod i
  · by_cases h : i ∈ vs
    · simp [h] at ha
    · simp only [h, if_false] at ha; exact S.off i a ha
  · by_cases h : i ∈ vs
    · simp [h] at h1
    · by_cases h' : j ∈ vs
      · simp [h'] at h2
      · simp only [h, if_false] at h1
        simp only [h', if_false] at h2
        exact S.dis i j a h1 h2
  · by_cases h : i ∈ vs
    · simp [h] at hb
    · simp only [h, if_false] at hb; exact ⟨i, hb⟩
theorem lcF_len {τ : D → DS → Option (Option D × DS)} : ∀ {l : List D} {w : DS} {acc : List D} {es : List D} {w' : DS}, lcF τ l w acc = some (es, w') → es.length ≤ acc.length + l.length
  | [], _, _, _, _, e => by cases e; exact Nat.le_refl _
  | d :: l, _, acc, _, _, e => by
    simp only [lcF, Option.bind_eq_some_iff] at e
    obtain ⟨p, h1, h2⟩ := e
    have := lcF_len h2
    rw [List.length_append] at this
    have : p.1.toList.length ≤ 1 := by cases p.1 <;> simp
    simp only [List.length_cons]
    omega

/-- what stands at the new list -/
structure Acc (K : Fr) (P : Hp → Hp → Addr → List D → List Addr → Prop) : Prop where
  lst : ∀ {G H A es fp}, P G H A es fp → ∃ xs, H A = some (.lst xs) ∧ xs.length = es.length
  zero : ∀ {G H A}, H A = some (.lst []) → P G H A [] []
  step : ∀ {G H G' H' A es fp}, P G H A es fp → Same G G' → (∀ b ∈ A :: fp, ∀ x, H b = some x → H' b = some x) → P G' H' A es fp
def AccC (K : Fr) (G H : Hp) (A : Addr) (es : List D) (fp : List Addr) : Prop := ∃ xs, H A = some (.lst xs) ∧ DpAll K G xs es ∧ fp = []
def AccM (G H : Hp) (A : Addr) (es : List D) (fp : List Addr) : Prop := ∃ xs, H A = some (.lst xs) ∧ TrAll H xs es fp
theorem trsLen {H : Hp} : ∀ {vs : List V} {ds : List D} {fp : List Addr}, TrAll H vs ds fp → vs.length = ds.length
  | _, _, _, .nil => rfl
  | _, _, _, .cons _ h => by simp [trsLen h]
theorem accC : Acc K (AccC K) where
  lst := fun ⟨xs, h1, h2, _⟩ => ⟨xs, h1, dpsLen h2⟩
  zero := fun h => ⟨[], h, .nil, rfl⟩
  step := fun ⟨xs, h1, h2, h3⟩ s k => ⟨xs, k _ (by simp) _ h1, dpsMono s _ _ h2, h3⟩
theorem accM : Acc K AccM where
  lst := fun ⟨xs, h1, h2⟩ => ⟨xs, h1, trsLen h2⟩
  zero := fun h => ⟨[], h, .nil⟩
  step := fun ⟨xs, h1, h2⟩ s k => ⟨xs, k _ (by simp) _ h1, trsMono _ _ _ h2 fun b hb x e => k b (by simp [hb]) x e⟩
/-- the state between two turns -/
def LcI (K : Fr) (P : Hp → Hp → Addr → List D → List Addr → Prop) (W0 : Addr → Prop) (G0 H0 Gb : Hp) (σw : St) (A : Addr) (w : DS) (es : List D) (H : Hp) : Prop :=
  ∃ G F fp, SI K G H σw w F ∧ Step W0 G0 H0 G H (Wf F) ∧ Same Gb G ∧ P G H A es fp ∧ Fp G H (Wf F) W0 H0 (A :: fp)
theorem lc_loop {P : Hp → Hp → Addr → List D → List Addr → Prop} (hP : Acc K P) {J : It} {g : TG} {tt : TT} {te : TE} {vs : List Nat} {τ : D → DS → Option (Option D × DS)} {W0 : Addr → Prop} {G0 H0 Gb : Hp} {σ : St} {A : Addr} {l : List D} {Q : VK}
    (wk : Wk K Gb J l) (hl : l.length ≤ 1000000)
    (turn : ∀ d w (p : Option D × DS) es x H (Nx : Hp → Prop), τ d w = some p → es.length ≤ 1000000 → (∃ G F fp, SI K G H (wipe σ vs) w F ∧ Step W0 G0 H0 G H (Wf F) ∧ Same Gb G ∧ P G H A es fp ∧ Fp G H (Wf F) W0 H0 (A :: fp) ∧ Dp K G x d) →
      (∀ H', LcI K P W0 G0 H0 Gb (wipe σ vs) A p.2 (es ++ p.1.toList) H' → Nx H') → g x (wipe σ vs) H fun σ2 H2 => wipe σ2 vs = wipe σ vs ∧ tt σ2 H2 fun b H3 =>
        if b = true then te σ2 H3 fun y H4 => ∃ acc, H4 A = some (.lst acc) ∧ acc.length < sizeLine ∧ Nx (upd H4 A (.lst (acc ++ [y]))) else Nx H3)
    {w : DS} {es : List D} {w' : DS} (he : lcF τ l w [] = some (es, w')) {H1 : Hp} (h0 : LcI K P W0 G0 H0 Gb (wipe σ vs) A w [] H1) (hd : ∀ H, LcI K P W0 G0 H0 Gb (wipe σ vs) A w' es H → Q (.ref A) H) :
    ∃ W : Nat → Nat → Hp → Prop, (∃ m, W 0 m H1) ∧ ∀ i m H, W i m H →
      (J.stop i H ∧ Q (.ref A) H) ∨ (J.go i H ∧ ∃ Nx : Hp → Prop, (∀ H', Nx H' → ∃ m', m' < m ∧ W (i + 1) m' H') ∧ ∀ x H', J.yld i H x H' → g x (wipe σ vs) H' fun σ2 H2 => wipe σ2 vs = wipe σ vs ∧ tt σ2 H2 fun b H3 =>
        if b = true then te σ2 H3 fun y H4 => ∃ acc, H4 A = some (.lst acc) ∧ acc.length < sizeLine ∧ Nx (upd H4 A (.lst (acc ++ [y]))) else Nx H3) := by
  refine ⟨fun i m H => m = l.length - i ∧ i ≤ l.length ∧ ∃ wi ei, ei.length ≤ i ∧ lcF τ (l.drop i) wi ei = some (es, w') ∧ LcI K P W0 G0 H0 Gb (wipe σ vs) A wi ei H,
    ⟨l.length, by simp, Nat.zero_le _, w, [], Nat.le_refl _, by simpa using he, h0⟩, ?_⟩
  rintro i m H ⟨rfl, hi, wi, ei, hei, hrun, G, F, fp, S, t, sb, hp, hf⟩
  by_cases hlt : i < l.length
  · rw [List.drop_eq_getElem_cons hlt] at hrun
    simp only [lcF, Option.bind_eq_some_iff] at hrun
    obtain ⟨p, h1, h2⟩ := hrun
    refine .inr ⟨wk.goes i H hlt (sb.trans S.sub), fun H' => LcI K P W0 G0 H0 Gb (wipe σ vs) A p.2 (ei ++ p.1.toList) H', fun H' q => ⟨l.length - (i + 1), by omega, rfl, hlt, p.2, _, ?_, h2, q⟩, fun x H' y => ?_⟩
    · rw [List.length_append]
      have : p.1.toList.length ≤ 1 := by cases p.1 <;> simp
      omega
    · have hd' : l[i]? = some l[i] := by simp [hlt]
      obtain ⟨G', sG, sH, sGH, nw, dd⟩ := wk.yields i l[i] G H x H' hd' sb S.sub y
      have st := Step.grow (W := Wf F) sG sH nw
      exact turn l[i] wi p ei x H' _ h1 (by omega) ⟨G', F, fp, S.grow sG sH sGH nw, t.trans st, sb.trans sG, hP.step hp sG fun b hb x e => sH b x e, hf.step st, dd⟩ fun _ q => q
  · have ei' : i = l.length := by omega
    subst ei'
    rw [List.drop_length] at hrun
    cases hrun
    exact .inl ⟨wk.stops H (sb.trans S.sub), hd H ⟨G, F, fp, S, t, sb, hp, hf⟩⟩
/-- the place A gets a new list: nothing else sees it -/
theorem SI.poke {G H : Hp} {σ : St} {ds : DS} {F : Nat → List Addr} (S : SI K G H σ ds F) {A : Addr} {o u : HO} (hA : H A = some u) (gA : G A = none) (nA : ¬ Wf F A) : SI K G (upd H A o) σ ds F where
  sub := fun b x e => by
    have : b ≠ A := fun z => by subst z; rw [gA] at e; cases e
    rw [upd_ne this]; exact S.sub b x e
  len := S.len
  rep := fun i v e => let ⟨w, h1, h2⟩ := S.rep i v e; ⟨w, h1, h2.mono (Same.refl G) fun b hb x hx => by
    have : b ≠ A := fun z => nA ⟨i, z ▸ hb⟩
    rw [upd_ne this]; exact hx⟩
  nod := S.nod
  off := fun i a ha => by
    have : a ≠ A := fun z => nA ⟨i, z ▸ ha⟩
    rw [upd_ne this]; exact S.off i a ha
  dis := S.dis
theorem Step.poke {W0 W : Addr → Prop} {G0 H0 G H : Hp} (t : Step W0 G0 H0 G H W) {A : Addr} {o : HO} (n : W0 A ∨ H0 A = none) : Step W0 G0 H0 G (upd H A o) W :=
  ⟨t.sg, fun b x e nw => by
    have : b ≠ A := fun z => by
      subst z
      rcases n with n | n
      · exact nw n
      · rw [n] at e; cases e
    rw [upd_ne this]; exact t.keep b x e nw, fun b x e => by
    by_cases h : b = A
    · subst h; exact ⟨o, upd_same⟩
    · rw [upd_ne h]; exact t.dom b x e, t.new, t.own⟩
theorem re_lc {T vs : List Nat} {wi : TI} {g : TG} {tt : TT} {te : TE} {fi : DS → Option (List D × DS)} {fg : D → DS → Option DS} {ft : DS → Option (Bool × DS)} {fe : DS → Option (RV × DS)} (hT : ∀ i ∈ T, i ∈ vs) (hi : RI K wi fi) (hg : RG K T g fg) (ht : RT K tt ft) (he : RE K te fe) :
    RE K (tLc wi g tt te vs) (fLc fi fg ft fe vs) := by
  intro G0 H0 F0 σ ds r ds' Q S0 e q
  simp only [fLc, fLcG, Option.bind_eq_some_iff] at e
  obtain ⟨⟨l, ds1⟩, e1, e2⟩ := e
  split at e2
  · rename_i hc
    simp only [Bool.and_eq_true, List.all_eq_true, decide_eq_true_eq] at hc
    obtain ⟨hv, hl⟩ := hc
    simp only [Option.map_eq_some_iff] at e2
    obtain ⟨⟨es, w'⟩, e3, e4⟩ := e2
    cases e4
    refine hi G0 H0 F0 σ ds l ds1 _ S0 e1 fun J Gb H1 F1 S1 t1 wk A hA => ?_
    have N := new_list (ys := []) (z := []) (S1.wiped vs) t1 hA .nil
    obtain ⟨S2, t2, r2, f2⟩ := N
    refine lc_loop (σ := σ) (W0 := Wf F0) (G0 := G0) (H0 := H0) (Gb := Gb) accC wk hl ?_ e3 ⟨Gb, F1, [], S2, t2, Same.refl Gb, ⟨[], upd_same, .nil, rfl⟩, f2⟩ ?_
    · rintro d w p es x H Nx hτ hes ⟨G, F, fp, S, t, sb, ⟨xs, hx1, hx2, rfl⟩, hf, dd⟩ nx
      simp only [turnC, Option.bind_eq_some_iff] at hτ
      obtain ⟨d1, k1, ⟨b, d2⟩, k2, k3⟩ := hτ
      refine hg G H F _ w x d d1 _ S dd k1 fun σ2 F2 S2 w2 o2 => ⟨wipe_off hT o2, ?_⟩
      have tt2 : Step (Wf F0) G0 H0 G H (Wf F2) := t.reown fun b hb => t.own b (w2 b hb)
      have hf2 : Fp G H (Wf F2) (Wf F0) H0 [A] := ⟨hf.nod, fun a ha => ⟨(hf.off a ha).1, (hf.off a ha).2.1, fun z => (hf.off a ha).2.2 (w2 a z)⟩, hf.new⟩
      refine ht G H F2 σ2 d1 b d2 _ S2 k2 fun G3 H3 F3 S3 t3 => ?_
      have hf3 := hf2.step t3
      have hx3 : H3 A = some (.lst xs) := hf2.keeps t3 A (by simp) _ hx1
      have ww : wipe σ2 vs = wipe σ vs := wipe_off hT o2
      cases b with
      | true =>
        simp only [if_true, Option.bind_eq_some_iff, Option.map_eq_some_iff] at k3 ⊢
        obtain ⟨⟨rv, d3⟩, k4, ⟨z, d4⟩, k5, k6⟩ := k3
        cases k6
        refine he G3 H3 F3 σ2 d2 rv d3 _ S3 k4 fun v G4 H4 F4 fp4 S4 t4 r4 f4 => ?_
        have hf4 := hf3.step t4
        have hx4 : H4 A = some (.lst xs) := hf3.keeps t4 A (by simp) _ hx3
        have tall := (tt2.trans t3).trans t4
        have f5 : Fp G4 H4 (Wf F4) (Wf F0) H0 (fp4 ++ [A]) := (f4.since (tt2.trans t3)).app hf4 fun y h1 h2 => by
          obtain rfl : y = A := by simpa using h2
          rcases f4.new y h1 with z | z
          · exact (hf3.off y (by simp)).2.2 z
          · rw [hx3] at z; cases z
        obtain ⟨G5, F5, S5, t5, s5, dd5, f6⟩ := frz_ok S4 tall r4 f5 k5
        have fa := f6.off A (by simp)
        refine ⟨xs, hx4, by rw [dpsLen hx2]; exact szOf hes, nx _ ⟨G5, F5, [], ?_, t5.poke (f6.new A (by simp)), ?_, ⟨xs ++ [v], upd_same, ?_, rfl⟩, ⟨f6.nod, fun a ha => ?_, f6.new⟩⟩⟩
        · have := (S5.poke (o := .lst (xs ++ [v])) hx4 fa.1 fa.2.2).wiped vs
          rw [ww] at this
          exact this
        · exact ((sb.trans t3.sg).trans t4.sg).trans s5
        · exact dpsApp (dpsMono ((t3.sg.trans t4.sg).trans s5) _ _ hx2) (.cons dd5 .nil)
        · obtain rfl : a = A := by simpa using ha
          exact ⟨fa.1, ⟨_, upd_same⟩, fa.2.2⟩
      | false =>
        simp only [Bool.false_eq_true, if_false] at k3 ⊢
        cases k3
        refine nx _ ⟨G3, F3, [], ?_, tt2.trans t3, sb.trans t3.sg, ⟨xs, hx3, ?_, rfl⟩, hf3⟩
        · have := S3.wiped vs
          rw [ww] at this
          exact this
        · simpa using dpsMono t3.sg _ _ hx2
    · rintro H ⟨G, F, fp, S, t, sb, ⟨xs, hx1, hx2, rfl⟩, hf⟩
      obtain ⟨F', S', w'⟩ := SI.mended S1 sb S hv
      refine q (.ref A) G H F' [A] S' (t.reown fun b hb => t.own b (w' b hb)) ⟨A, xs, rfl, hx1, hx2, rfl⟩ ⟨hf.nod, fun a ha => ⟨(hf.off a ha).1, (hf.off a ha).2.1, fun z => (hf.off a ha).2.2 (w' a z)⟩, hf.new⟩
  · cases e2
theorem re_lcM {T vs : List Nat} {wi : TI} {g : TG} {tt : TT} {te : TE} {fi : DS → Option (List D × DS)} {fg : D → DS → Option DS} {ft : DS → Option (Bool × DS)} {fe : DS → Option (RV × DS)} (hT : ∀ i ∈ T, i ∈ vs) (hi : RI K wi fi) (hg : RG K T g fg) (ht : RT K tt ft) (he : RE K te fe) :
    RE K (tLc wi g tt te vs) (fLcM fi fg ft fe vs) := by
  intro G0 H0 F0 σ ds r ds' Q S0 e q
  simp only [fLcM, fLcG, Option.bind_eq_some_iff] at e
  obtain ⟨⟨l, ds1⟩, e1, e2⟩ := e
  split at e2
  · rename_i hc
    simp only [Bool.and_eq_true, List.all_eq_true, decide_eq_true_eq] at hc
    obtain ⟨hv, hl⟩ := hc
    simp only [Option.map_eq_some_iff] at e2
    obtain ⟨⟨es, w'⟩, e3, e4⟩ := e2
    cases e4
    refine hi G0 H0 F0 σ ds l ds1 _ S0 e1 fun J Gb H1 F1 S1 t1 wk A hA => ?_
    have N := new_list (ys := []) (z := []) (S1.wiped vs) t1 hA .nil
    obtain ⟨S2, t2, r2, f2⟩ := N
    refine lc_loop (K := K) (σ := σ) (W0 := Wf F0) (G0 := G0) (H0 := H0) (Gb := Gb) accM wk hl ?_ e3 ⟨Gb, F1, [], S2, t2, Same.refl Gb, ⟨[], upd_same, .nil⟩, f2⟩ ?_
    · rintro d w p es x H Nx hτ hes ⟨G, F, fp, S, t, sb, ⟨xs, hx1, hx2⟩, hf, dd⟩ nx
      simp only [turnM, Option.bind_eq_some_iff] at hτ
      obtain ⟨d1, k1, ⟨b, d2⟩, k2, k3⟩ := hτ
      refine hg G H F _ w x d d1 _ S dd k1 fun σ2 F2 S2 w2 o2 => ⟨wipe_off hT o2, ?_⟩
      have tt2 : Step (Wf F0) G0 H0 G H (Wf F2) := t.reown fun b hb => t.own b (w2 b hb)
      have hf2 : Fp G H (Wf F2) (Wf F0) H0 (A :: fp) := ⟨hf.nod, fun a ha => ⟨(hf.off a ha).1, (hf.off a ha).2.1, fun z => (hf.off a ha).2.2 (w2 a z)⟩, hf.new⟩
      refine ht G H F2 σ2 d1 b d2 _ S2 k2 fun G3 H3 F3 S3 t3 => ?_
      have hf3 := hf2.step t3
      have hx3 : H3 A = some (.lst xs) := hf2.keeps t3 A (by simp) _ hx1
      have hy3 : TrAll H3 xs es fp := trsMono _ _ _ hx2 fun b hb x e => hf2.keeps t3 b (by simp [hb]) x e
      have ww : wipe σ2 vs = wipe σ vs := wipe_off hT o2
      cases b with
      | true =>
        simp only [if_true, Option.bind_eq_some_iff, Option.map_eq_some_iff] at k3 ⊢
        obtain ⟨⟨rv, d3⟩, k4, z, k5, k6⟩ := k3
        cases k6
        refine he G3 H3 F3 σ2 d2 rv d3 _ S3 k4 fun v G4 H4 F4 fp4 S4 t4 r4 f4 => ?_
        cases rv with
        | loc i => cases k5
        | ov o =>
        have tr4 : Tr H4 v z fp4 := Rep.own (K := K) (G := G4) r4 k5
        have hf4 := hf3.step t4
        have hx4 : H4 A = some (.lst xs) := hf3.keeps t4 A (by simp) _ hx3
        have hy4 : TrAll H4 xs es fp := trsMono _ _ _ hy3 fun b hb x e => hf3.keeps t4 b (by simp [hb]) x e
        have tall := (tt2.trans t3).trans t4
        have f5 : Fp G4 H4 (Wf F4) (Wf F0) H0 ((A :: fp) ++ fp4) := hf4.app (f4.since (tt2.trans t3)) fun y h1 h2 => by
          rcases f4.new y h2 with z | z
          · exact (hf3.off y h1).2.2 z
          · obtain ⟨_, ⟨x, hx⟩, _⟩ := hf3.off y h1
            rw [hx] at z; cases z
        have fa := f5.off A (by simp)
        have nA : A ∉ fp ++ fp4 := (List.nodup_cons.mp f5.nod).1
        refine ⟨xs, hx4, by rw [trsLen hx2]; exact szOf hes, nx _ ⟨G4, F4, fp ++ fp4, ?_, tall.poke (f5.new A (by simp)), ?_, ⟨xs ++ [v], upd_same, ?_⟩, ⟨f5.nod, fun a ha => ?_, f5.new⟩⟩⟩
        · have := (S4.poke (o := .lst (xs ++ [v])) hx4 fa.1 fa.2.2).wiped vs
          rw [ww] at this
          exact this
        · exact (sb.trans t3.sg).trans t4.sg
        · have h1 : TrAll H4 (xs ++ [v]) (es ++ [z]) (fp ++ fp4) := by
            have := trsApp hy4 (.cons tr4 .nil)
            rwa [List.append_nil] at this
          exact trsMono _ _ _ h1 fun b hb x e => by
            have nb : b ≠ A := fun z => nA (by rw [← z]; exact hb)
            rw [upd_ne nb]; exact e
        · by_cases h : a = A
          · subst h
            exact ⟨fa.1, ⟨_, upd_same⟩, fa.2.2⟩
          · obtain ⟨h1, h2, h3⟩ := f5.off a ha
            exact ⟨h1, by rw [upd_ne h]; exact h2, h3⟩
      | false =>
        simp only [Bool.false_eq_true, if_false] at k3 ⊢
        cases k3
        refine nx _ ⟨G3, F3, fp, ?_, tt2.trans t3, sb.trans t3.sg, ⟨xs, hx3, ?_⟩, hf3⟩
        · have := S3.wiped vs
          rw [ww] at this
          exact this
        · simpa using hy3
    · rintro H ⟨G, F, fp, S, t, sb, ⟨xs, hx1, hx2⟩, hf⟩
      obtain ⟨F', S', w'⟩ := SI.mended S1 sb S hv
      refine q (.ref A) G H F' (A :: fp) S' (t.reown fun b hb => t.own b (w' b hb)) (Tr.lst hx1 hx2) ⟨hf.nod, fun a ha => ⟨(hf.off a ha).1, (hf.off a ha).2.1, fun z => (hf.off a ha).2.2 (w' a z)⟩, hf.new⟩
  · cases e2
end Fx
set_option Elab.async false
set_option linter.all false
set_option maxRecDepth 100000
namespace Fx
open PySem PySem.Spec L2
variable {K : Fr}

/-! ### operators on data -/
theorem OpR.alt {X : Cx} {f : Value → Value → Sem Value} {r r' : R2} (h : OpR X f r) (h' : OpR X f r') : OpR X f (fun x y H Q => r x y H Q ∨ r' x y H Q) := by
  intro pins s σ H x y v u Q I rx ry q
  rcases q with q | q
  · exact h pins s σ H x y v u Q I rx ry q
  · exact h' pins s σ H x y v u Q I rx ry q
/-- two ints under a test that is reckoned -/
def gI (c : Int → Int → Bool) (f : Int → Int → D) (d e : D) : Option D := match d, e with
  | .int i, .int j => if c i j = true then some (f i j) else none
  | _, _ => none
theorem vop_I {C : Int → Int → Prop} {g : Int → Int → V} {c : Int → Int → Bool} {f : Int → Int → D} (h : ∀ i j, c i j = true → C i j) (hs : ∀ i j, Sc (g i j) (f i j)) : VOp K (rI C g) (gI c f) := by
  intro H x y d e z Q hd he hz q
  unfold gI at hz
  split at hz
  · split at hz
    · rename_i i j hc
      cases hz
      cases hd
      cases he
      exact ⟨i, j, rfl, rfl, h i j hc, q _ (hs i j)⟩
    · cases hz
  · cases hz
@[simp] def cT : Int → Int → Bool := fun _ _ => true
theorem vop_I0 {g : Int → Int → V} {f : Int → Int → D} (hs : ∀ i j, Sc (g i j) (f i j)) : VOp K (rI0 g) (gI cT f) := by
  intro H x y d e z Q hd he hz q
  unfold gI at hz
  split at hz
  · split at hz
    · rename_i i j hc
      cases hz
      cases hd
      cases he
      exact ⟨i, j, rfl, rfl, q _ (hs i j)⟩
    · cases hz
  · cases hz
/-- // and * of any size -/
def CFd (i j : Int) : Prop := j ≠ 0 ∧ Builtin.divisionGoesByPylong i j = false
noncomputable def cFd (i j : Int) : Bool := yes (CFd i j)
theorem cFd_ok (i j : Int) (h : cFd i j = true) : CFd i j := of_yes h
section
variable {X : Cx}
theorem op_fdX : OpR X (binaryOp .FloorDiv) (rI CFd fun i j => .int (i.fdiv j)) := L2.opI fun i j _ _ _ _ _ hc q => PyProof.Rows.floordiv_int hc.1 q (.inl hc.2)
/-- list + list, of any that is read -/
def rCatL (K : Fr) : R2 := fun x y H Q => ∃ a b xs ys, x = .ref a ∧ y = .ref b ∧ SqL K H a xs ∧ SqL K H b ys ∧ xs.length + ys.length ≤ sizeLine ∧ ∀ p, H p = none → Q (.ref p) (upd H p (.lst (xs ++ ys)))
theorem op_catL : OpR X (binaryOp .Add) (rCatL X.K) := by
  intro pins s σ H x y v u Q I rx ry h
  obtain ⟨a, b, xs, ys, rfl, rfl, ha, hb, hz, q⟩ := h
  cases rx
  cases ry
  obtain ⟨us, r1, ⟨⟨c1, dd1, da1, sl1⟩, n1, ho1, hc1, hn1, hd1⟩, _⟩ := I.list ha
  obtain ⟨ws, r2, ⟨⟨c2, dd2, da2, sl2⟩, n2, ho2, hc2, hn2, hd2⟩, _⟩ := I.list hb
  simp only at hc1 hd1 hc2 hd2 hn1 hn2
  subst hc1 hd1 hc2 hd2 hn1 hn2
  refine concat_meets ⟨_, ho1, rfl⟩ ⟨_, ho2, rfl⟩ PySem.noFill_list_add PySem.seq_list_add PySem.F.slot_list_add PySem.F.entry_list_add (PySem.F.args_list_add_2 _ _)
    (PyProof.Rows.list_addW a b us.toArray ws.toArray n1 n2 none none sl1 sl2 (by
      rw [List.size_toArray, List.size_toArray, ← r1.length, ← r2.length]
      exact hz)) ⟨ho1, ho2, ?_⟩
  have ea : us.toArray ++ ws.toArray = (us ++ ws).toArray := by simp
  rw [ea]
  exact ⟨.ref _, _, I.lnew (t' := s.toks) (r1.append r2) (by rw [List.length_append]; exact hz), rfl, q _ I.fresh⟩
end
/-! ### shared items of a list -/
/-- the items of a list that is read: shared ones -/
def items (r : RV) (ds : DS) : Option (List D × DS) := match r with
  | .ov o => match o.view with
    | .list l => some (l, ds)
    | .tuple l => some (l, ds)
    | _ => none
  | .loc i => match ds[i]? with
    | some (some (.flat l)) => some (l, ds)
    | some (some o) => match o.view with
      | .list l => some (l, ds.set i (some (.sh (.list l))))
      | .tuple l => some (l, ds.set i (some (.sh (.tuple l))))
      | _ => none
    | _ => none
def isT (r : RV) (ds : DS) : Bool := match see r ds with
  | some (.tuple _) => true
  | _ => false
theorem items_ok {G H G0 H0 : Hp} {σ : St} {ds ds' : DS} {F : Nat → List Addr} {W0 : Addr → Prop} {v : V} {r : RV} {fp fq : List Addr} {l : List D} (S : SI K G H σ ds F) (t : Step W0 G0 H0 G H (Wf F)) (h : VRep K G H σ v r fp) (f : Fp G H (Wf F) W0 H0 (fp ++ fq))
    (e : items r ds = some (l, ds')) : ∃ G' F' a xs, SI K G' H σ ds' F' ∧ Step W0 G0 H0 G' H (Wf F') ∧ Same G G' ∧ v = .ref a ∧ DpAll K G' xs l ∧ Fp G' H (Wf F') W0 H0 fq ∧ ((see r ds = some (.list l) ∧ SqL K H a xs) ∨ (see r ds = some (.tuple l) ∧ SqT K H a xs)) := by
  have fin : ∀ {d : D} {ds'' : DS}, frz r ds = some (d, ds'') → ∀ l, (d = .list l ∨ d = .tuple l) → ∃ G' F' a xs, SI K G' H σ ds'' F' ∧ Step W0 G0 H0 G' H (Wf F') ∧ Same G G' ∧ v = .ref a ∧ DpAll K G' xs l ∧ Fp G' H (Wf F') W0 H0 fq ∧ ((see r ds = some (.list l) ∧ SqL K H a xs) ∨ (see r ds = some (.tuple l) ∧ SqT K H a xs)) := by
    intro d ds'' hz l hl
    obtain ⟨G2, F2, S2, t2, s2, dd, f2⟩ := frz_ok S t h f hz
    have hs := (frz_see hz).1
    rcases hl with rfl | rfl
    · cases dd with
      | lst h1 h2 => exact ⟨G2, F2, _, _, S2, t2, s2, rfl, h2, f2, .inl ⟨hs, S2.sub.seq h1⟩⟩
    · cases dd with
      | tup h1 h2 => exact ⟨G2, F2, _, _, S2, t2, s2, rfl, h2, f2, .inr ⟨hs, same_sqt S2.sub h1⟩⟩
  cases r with
  | ov o =>
    have hz : frz (.ov o) ds = some (o.view, ds) := rfl
    simp only [items] at e
    split at e
    · rename_i l' hl
      cases e
      exact fin hz _ (.inl hl)
    · rename_i l' hl
      cases e
      exact fin hz _ (.inr hl)
    · cases e
  | loc i =>
    simp only [items] at e
    split at e
    · rename_i l' hl
      cases e
      obtain ⟨w, h1, a, xs, h2, h3, h4, h5⟩ := S.rep i _ hl
      have h' : σ[i]? = some (some v) := h.1
      rw [h'] at h1
      cases h1
      exact ⟨G, F, a, xs, S, t, Same.refl G, h2, h4, f.right, .inl ⟨by simp [see, hl, OV.view], SqL.of h3⟩⟩
    · rename_i o hne ho
      have hz : frz (.loc i) ds = some (o.view, ds.set i (some (.sh o.view))) := by simp [frz, ho]
      split at e
      · rename_i l' hl
        cases e
        rw [hl] at hz
        exact fin hz _ (.inl rfl)
      · rename_i l' hl
        cases e
        rw [hl] at hz
        exact fin hz _ (.inr rfl)
      · cases e
    · cases e
theorem items_see {r : RV} {ds ds' : DS} {l : List D} (e : items r ds = some (l, ds')) : ∀ r', see r' ds' = see r' ds := by
  cases r with
  | ov o =>
    simp only [items] at e
    split at e <;> first | (cases e; exact fun _ => rfl) | cases e
  | loc i =>
    simp only [items] at e
    split at e
    · cases e; exact fun _ => rfl
    · rename_i o hne ho
      have hz : frz (.loc i) ds = some (o.view, ds.set i (some (.sh o.view))) := by simp [frz, ho]
      split at e
      · rename_i l' hl
        cases e
        rw [hl] at hz
        exact (frz_see hz).2
      · rename_i l' hl
        cases e
        rw [hl] at hz
        exact (frz_see hz).2
      · cases e
    · cases e
/-! ### a + b: ints, lists, texts -/
def rAddX (K : Fr) : R2 := fun x y H Q => rI0 (fun i j => .int (i + j)) x y H Q ∨ rCatL K x y H Q
theorem op_addX {X : Cx} : OpR X (binaryOp .Add) (rAddX X.K) := OpR.alt L2.op_add op_catL
/-- lists: their shared items on one side, then the other -/
def fCat (a b : RV) (ds : DS) : Option (RV × DS) := (items a ds).bind fun p => (items b p.2).bind fun q => if isT a ds || isT b ds || decide (1000000 < p.1.length + q.1.length) then none else some (.ov (.flat (p.1 ++ q.1)), q.2)
def fAdd (fa fb : DS → Option (RV × DS)) (ds : DS) : Option (RV × DS) := (fa ds).bind fun p => (fb p.2).bind fun q => match see p.1 q.2, see q.1 q.2 with
  | some (.int i), some (.int j) => some (.ov (.sh (.int (i + j))), q.2)
  | _, _ => fCat p.1 q.1 q.2
theorem fps_app {G1 H1 G2 H2 H : Hp} {W W1 W2 : Addr → Prop} {fp1 fp2 : List Addr} {G : Hp} (f1 : Fp G1 H1 W1 W H fp1) (t1 : Step W G H G1 H1 W1) (t2 : Step W1 G1 H1 G2 H2 W2) (f2 : Fp G2 H2 W2 W1 H1 fp2) : Fp G2 H2 W2 W H (fp1 ++ fp2) :=
  (f1.step t2).app (f2.since t1) fun x h1 h2 => by
    obtain ⟨_, ⟨y, hy⟩, nw⟩ := f1.off x h1
    rcases f2.new x h2 with z | z
    · exact nw z
    · rw [hy] at z; cases z
theorem re_add {ta tb : TE} {fa fb : DS → Option (RV × DS)} (ha : RE K ta fa) (hb : RE K tb fb) : RE K (tOp (rAddX K) ta tb) (fAdd fa fb) := by
  intro G H F σ ds rv ds' Q S e q
  simp only [fAdd, Option.bind_eq_some_iff] at e
  obtain ⟨⟨ra, d1⟩, e1, ⟨rb, d2⟩, e2, e3⟩ := e
  refine ha G H F σ ds ra d1 _ S e1 fun v1 G1 H1 F1 fp1 S1 t1 r1 f1 => ?_
  refine hb G1 H1 F1 σ d1 rb d2 _ S1 e2 fun v2 G2 H2 F2 fp2 S2 t2 r2 f2 => ?_
  have t12 := t1.trans t2
  have ff := fps_app f1 t1 t2 f2
  split at e3
  · rename_i i j hi hj
    cases e3
    have x1 := see_ok S2 (r1.step f1 t2) hi
    have x2 := see_ok S2 r2 hj
    cases x1
    cases x2
    exact .inl ⟨i, j, rfl, rfl, q _ G2 H2 F2 [] S2 t12 ⟨.int _, rfl⟩ .nil⟩
  · simp only [fCat, Option.bind_eq_some_iff] at e3
    obtain ⟨⟨l, d3⟩, e4, ⟨m, d4⟩, e5, e6⟩ := e3
    split at e6
    · cases e6
    · rename_i hn
      cases e6
      rw [Bool.or_eq_true, Bool.or_eq_true, not_or, not_or] at hn
      obtain ⟨⟨n1, n2⟩, n3⟩ := hn
      obtain ⟨G3, F3, a, xs, S3, t3, s3, rfl, dd3, f3, alt⟩ := items_ok S2 t12 (r1.step f1 t2) ff e4
      have r2' : VRep K G3 H2 σ v2 rb fp2 := by
        cases rb with
        | ov o => exact Rep.mono r2 s3 fun _ _ _ e => e
        | loc i => exact r2
      obtain ⟨G4, F4, b, ys, S4, t4, s4, rfl, dd4, f4, alt2⟩ := items_ok (fq := []) S3 t3 r2' (by rw [List.append_nil]; exact f3) e5
      have k1 : SqL K H2 a xs := by
        rcases alt with ⟨_, h⟩ | ⟨h, _⟩
        · exact h
        · exact absurd (show isT _ _ = true by unfold isT; rw [h]) n1
      have k2 : SqL K H2 b ys := by
        rcases alt2 with ⟨_, h⟩ | ⟨h, _⟩
        · exact h
        · rw [items_see e4] at h
          exact absurd (show isT _ _ = true by unfold isT; rw [h]) n2
      have hlen : ¬ 1000000 < l.length + m.length := fun z => n3 (decide_eq_true z)
      refine .inr ⟨a, b, xs, ys, rfl, rfl, k1, k2, ?_, fun p hp => ?_⟩
      · rw [dpsLen dd3, dpsLen dd4]
        exact Nat.le_of_lt (szOf (by omega))
      · obtain ⟨S5, t5, r5, f5⟩ := new_list S4 t4 hp (dpsApp (dpsMono s4 _ _ dd3) dd4)
        exact q _ _ _ _ _ S5 t5 r5 f5
/-! ### a * b: ints, list * int -/
def rMulX (K : Fr) : R2 := fun x y H Q => rI CMulX (fun i j => .int (i * j)) x y H Q ∨ rRep x y H Q
theorem op_mulXX {X : Cx} : OpR X (binaryOp .Mult) (rMulX X.K) := OpR.alt L2.op_mulX L2.op_rep
noncomputable def mulOk (i j : Int) : Bool := yes (CMulX i j)
theorem mulOk_ok {i j : Int} (h : mulOk i j = true) : CMulX i j := of_yes h
theorem mulOk_of {i j : Int} (h : CMulX i j) : mulOk i j = true := yes_of h
/-- a list j times -/
def repD (l : List D) (j : Int) : List D := (List.replicate j.toNat l).flatten
noncomputable def repOk (l : List D) (j : Int) : Bool := yes (j ≤ 1000000 ∧ l.length ≤ 1 ∧ -1000000 ≤ j)
theorem repOk_ok {l : List D} {j : Int} (h : repOk l j = true) : j ≤ 1000000 ∧ l.length ≤ 1 ∧ -1000000 ≤ j := of_yes h
theorem repOk_of {l : List D} {j : Int} (h : j ≤ 1000000 ∧ l.length ≤ 1 ∧ -1000000 ≤ j) : repOk l j = true := yes_of h
noncomputable def fMul (fa fb : DS → Option (RV × DS)) (ds : DS) : Option (RV × DS) := (fa ds).bind fun p => (fb p.2).bind fun q => match see q.1 q.2 with
  | some (.int j) => match p.1 with
    | .ov (.flat l) => if repOk l j = true then some (.ov (.flat (repD l j)), q.2) else none
    | r => match see r q.2 with
      | some (.int i) => if mulOk i j = true then some (.ov (.sh (.int (i * j))), q.2) else none
      | _ => none
  | _ => none
theorem dpsRep {G : Hp} {xs : List V} {l : List D} (h : DpAll K G xs l) : ∀ n : Nat, DpAll K G (List.replicate n xs).flatten (List.replicate n l).flatten
  | 0 => .nil
  | n + 1 => by
    rw [List.replicate_succ, List.replicate_succ, List.flatten_cons, List.flatten_cons]
    exact dpsApp h (dpsRep h n)
theorem re_mul {ta tb : TE} {fa fb : DS → Option (RV × DS)} (ha : RE K ta fa) (hb : RE K tb fb) : RE K (tOp (rMulX K) ta tb) (fMul fa fb) := by
  intro G H F σ ds rv ds' Q S e q
  simp only [fMul, Option.bind_eq_some_iff] at e
  obtain ⟨⟨ra, d1⟩, e1, ⟨rb, d2⟩, e2, e3⟩ := e
  refine ha G H F σ ds ra d1 _ S e1 fun v1 G1 H1 F1 fp1 S1 t1 r1 f1 => ?_
  refine hb G1 H1 F1 σ d1 rb d2 _ S1 e2 fun v2 G2 H2 F2 fp2 S2 t2 r2 f2 => ?_
  have t12 := t1.trans t2
  split at e3
  · rename_i j hj
    have x2 := see_ok S2 r2 hj
    cases x2
    split at e3
    · rename_i l hl
      have hl : ra = .ov (.flat l) := hl
      subst hl
      split at e3
      · rename_i hc0
        have hc := repOk_ok hc0
        cases e3
        obtain ⟨a, xs, rfl, h1, h2, h3⟩ := r1.step f1 t2
        refine .inr ⟨a, j, xs, rfl, rfl, h1, by omega, by omega, ?_, fun p hp => ?_⟩
        · have := dpsLen h2
          have e1 : xs.length * j.toNat ≤ 1 * j.toNat := Nat.mul_le_mul_right _ (by omega)
          have e2 : 1000000 < sizeLine := szOf (Nat.le_refl _)
          omega
        · obtain ⟨S5, t5, r5, f5⟩ := new_list S2 t12 hp (dpsRep h2 j.toNat)
          exact q _ _ _ _ _ S5 t5 r5 f5
      · cases e3
    · split at e3
      · rename_i i hi
        split at e3
        · rename_i hc
          cases e3
          have x1 := see_ok S2 (r1.step f1 t2) hi
          cases x1
          exact .inl ⟨i, j, rfl, rfl, mulOk_ok hc, q _ G2 H2 F2 [] S2 t12 ⟨.int _, rfl⟩ .nil⟩
        · cases e3
      · cases e3
  · cases e3
/-! ### a[i] -/
def rIxX (K : Fr) : R2 := fun x y H Q => rIxL K x y H Q ∨ rIxT K x y H Q
theorem ix_X {X : Cx} : IxR X (rIxX X.K) := ix_list.or ix_tup
def fIx (fa fb : DS → Option (RV × DS)) (ds : DS) : Option (RV × DS) := (fa ds).bind fun p => (fb p.2).bind fun q => match see q.1 q.2 with
  | some (.int k) => match see p.1 q.2 with
    | some (.list l) => (atI l k).bind fun e => if isSc e = true then some (.ov (.sh e), q.2) else (items p.1 q.2).map fun w => (.ov (.sh e), w.2)
    | some (.tuple l) => (atI l k).bind fun e => if isSc e = true then some (.ov (.sh e), q.2) else (items p.1 q.2).map fun w => (.ov (.sh e), w.2)
    | _ => none
  | _ => none
theorem atI_dp {G : Hp} {xs : List V} {l : List D} {k : Int} {e : D} (h : DpAll K G xs l) (hk : atI l k = some e) : ∃ v, atI xs k = some v ∧ Dp K G v e := by
  unfold atI at hk ⊢
  rw [dpsLen h]
  simp only [Option.bind_eq_some_iff] at hk
  obtain ⟨j, h1, h2⟩ := hk
  obtain ⟨v, h3, h4⟩ := dpsGet h h2
  exact ⟨v, by rw [h1]; exact h3, h4⟩
theorem re_ix {ta tb : TE} {fa fb : DS → Option (RV × DS)} (ha : RE K ta fa) (hb : RE K tb fb) : RE K (tOp (rIxX K) ta tb) (fIx fa fb) := by
  intro G H F σ ds rv ds' Q S e q
  simp only [fIx, Option.bind_eq_some_iff] at e
  obtain ⟨⟨ra, d1⟩, e1, ⟨rb, d2⟩, e2, e3⟩ := e
  refine ha G H F σ ds ra d1 _ S e1 fun v1 G1 H1 F1 fp1 S1 t1 r1 f1 => ?_
  refine hb G1 H1 F1 σ d1 rb d2 _ S1 e2 fun v2 G2 H2 F2 fp2 S2 t2 r2 f2 => ?_
  have t12 := t1.trans t2
  split at e3
  · rename_i k hk
    have x2 := see_ok S2 r2 hk
    cases x2
    split at e3
    · rename_i l hl
      simp only [Option.bind_eq_some_iff] at e3
      obtain ⟨el, h1, h2⟩ := e3
      split at h2
      · rename_i hsc
        cases h2
        have x1 := see_ok S2 (r1.step f1 t2) hl
        cases x1 with
        | lst g1 g2 =>
          obtain ⟨v, g3, g4⟩ := atI_dp g2 h1
          exact .inl ⟨_, _, k, v, rfl, rfl, g1, g3, q v G2 H2 F2 [] S2 t12 ⟨(scOf g4 hsc).dp, rfl⟩ .nil⟩
      · simp only [Option.map_eq_some_iff] at h2
        obtain ⟨⟨l', d3⟩, h3, h4⟩ := h2
        cases h4
        obtain ⟨G3, F3, a, xs, S3, t3, s3, rfl, dd3, f3, alt⟩ := items_ok S2 t12 (r1.step f1 t2) (fps_app f1 t1 t2 f2) h3
        rcases alt with ⟨h5, h6⟩ | ⟨h5, _⟩
        · rw [hl] at h5
          cases h5
          obtain ⟨v, g3, g4⟩ := atI_dp dd3 h1
          exact .inl ⟨_, _, k, v, rfl, rfl, h6, g3, q v G3 H2 F3 [] S3 t3 ⟨g4, rfl⟩ .nil⟩
        · rw [hl] at h5
          cases h5
    · rename_i l hl
      simp only [Option.bind_eq_some_iff] at e3
      obtain ⟨el, h1, h2⟩ := e3
      split at h2
      · rename_i hsc
        cases h2
        have x1 := see_ok S2 (r1.step f1 t2) hl
        cases x1 with
        | tup g1 g2 =>
          obtain ⟨v, g3, g4⟩ := atI_dp g2 h1
          exact .inr ⟨_, _, k, v, rfl, rfl, g1, g3, q v G2 H2 F2 [] S2 t12 ⟨(scOf g4 hsc).dp, rfl⟩ .nil⟩
      · simp only [Option.map_eq_some_iff] at h2
        obtain ⟨⟨l', d3⟩, h3, h4⟩ := h2
        cases h4
        obtain ⟨G3, F3, a, xs, S3, t3, s3, rfl, dd3, f3, alt⟩ := items_ok S2 t12 (r1.step f1 t2) (fps_app f1 t1 t2 f2) h3
        rcases alt with ⟨h5, _⟩ | ⟨h5, h6⟩
        · rw [hl] at h5
          cases h5
        · rw [hl] at h5
          cases h5
          obtain ⟨v, g3, g4⟩ := atI_dp dd3 h1
          exact .inr ⟨_, _, k, v, rfl, rfl, h6, g3, q v G3 H2 F3 [] S3 t3 ⟨g4, rfl⟩ .nil⟩
    · cases e3
  · cases e3
/-! ### a[i:j] of a list -/
def cutD (l : List D) (lo hi : Option Int) : List D := (l.drop (HT.sIx l.length 0 lo)).take (HT.sIx l.length l.length hi - HT.sIx l.length 0 lo)
theorem cut_dp {G : Hp} {xs : List V} {l : List D} (h : DpAll K G xs l) (lo hi : Option Int) : DpAll K G (cutV xs lo hi) (cutD l lo hi) := by
  unfold cutV cutD
  rw [dpsLen h]
  exact dpsTake _ (dpsDrop _ h)
/-- a part of a slice -/
def RO (K : Fr) (t : TO) (f : DS → Option (Option Int × DS)) : Prop :=
  ∀ (G H : Hp) (F : Nat → List Addr) (σ : St) (ds : DS) (o : Option Int) (ds' : DS) (Q : Option Int → Hp → Prop), SI K G H σ ds F → f ds = some (o, ds') →
    (∀ G' H' F', SI K G' H' σ ds' F' → Step (Wf F) G H G' H' (Wf F') → Q o H') → t σ H Q
def fNoPart (ds : DS) : Option (Option Int × DS) := some (none, ds)
def fPart (f : DS → Option (RV × DS)) (ds : DS) : Option (Option Int × DS) := (f ds).bind fun p => match see p.1 p.2 with
  | some (.int i) => some (some i, p.2)
  | _ => none
theorem ro_none : RO K tNoPart fNoPart := by
  intro G H F σ ds o ds' Q S e q
  cases e
  exact q G H F S (Step.refl _ _ _)
theorem ro_some {t : TE} {f : DS → Option (RV × DS)} (h : RE K t f) : RO K (tPart t) (fPart f) := by
  intro G H F σ ds o ds' Q S e q
  simp only [fPart, Option.bind_eq_some_iff] at e
  obtain ⟨⟨r, d1⟩, e1, e2⟩ := e
  split at e2
  · rename_i i hi
    cases e2
    refine h G H F σ ds r d1 _ S e1 fun v G1 H1 F1 fp1 S1 t1 r1 f1 => ?_
    have x1 := see_ok S1 r1 hi
    cases x1
    exact ⟨i, rfl, q G1 H1 F1 S1 t1⟩
  · cases e2
def fSl (fe : DS → Option (RV × DS)) (fl fh : DS → Option (Option Int × DS)) (ds : DS) : Option (RV × DS) := (fe ds).bind fun p => (fl p.2).bind fun a => (fh a.2).bind fun b =>
  (items p.1 b.2).bind fun w => if isT p.1 b.2 = true then none else some (.ov (.flat (cutD w.1 a.1 b.1)), w.2)
theorem re_sl {te : TE} {tl th : TO} {fe : DS → Option (RV × DS)} {fl fh : DS → Option (Option Int × DS)} (he : RE K te fe) (hl : RO K tl fl) (hh : RO K th fh) : RE K (tSl (rSlL K) te tl th) (fSl fe fl fh) := by
  intro G H F σ ds rv ds' Q S e q
  simp only [fSl, Option.bind_eq_some_iff] at e
  obtain ⟨⟨r, d1⟩, e1, ⟨lo, d2⟩, e2, ⟨hi, d3⟩, e3, ⟨l, d4⟩, e4, e5⟩ := e
  split at e5
  · cases e5
  · rename_i hT
    cases e5
    refine he G H F σ ds r d1 _ S e1 fun v1 G1 H1 F1 fp1 S1 t1 r1 f1 => ?_
    refine hl G1 H1 F1 σ d1 lo d2 _ S1 e2 fun G2 H2 F2 S2 t2 => ?_
    refine hh G2 H2 F2 σ d2 hi d3 _ S2 e3 fun G3 H3 F3 S3 t3 => ?_
    have r3 := (r1.step f1 t2).step (f1.step t2) t3
    have f3 := (f1.step t2).step t3
    obtain ⟨G4, F4, a, xs, S4, t4, s4, rfl, dd4, f4, alt⟩ := items_ok (fq := []) S3 ((t1.trans t2).trans t3) r3 (by rw [List.append_nil]; exact f3) e4
    rcases alt with ⟨h5, h6⟩ | ⟨h5, _⟩
    · refine ⟨a, xs, rfl, h6, fun p hp => ?_⟩
      obtain ⟨S5, t5, r5, f5⟩ := new_list S4 t4 hp (cut_dp dd4 lo hi)
      exact q _ _ _ _ _ S5 t5 r5 f5
    · exact absurd (show isT _ _ = true by unfold isT; rw [h5]) hT
/-! ### list(x) of a list or tuple -/
def rListOf (K : Fr) : List V → Hp → VK → Prop := fun xs H Q => ∃ p ys, xs = [.ref p] ∧ (SqL K H p ys ∨ SqT K H p ys) ∧ ∀ l, H l = none → Q (.ref l) (upd H l (.lst ys))
def fListOf (fa : DS → Option (List RV × DS)) (ds : DS) : Option (RV × DS) := (fa ds).bind fun p => match p.1 with
  | [r] => (items r p.2).map fun w => (.ov (.flat w.1), w.2)
  | _ => none
theorem re_listOf {t : TA} {fa : DS → Option (List RV × DS)} (ha : RA K t fa) : RE K (tCB (rListOf K) t) (fListOf fa) := by
  intro G H F σ ds rv ds' Q S e q
  simp only [fListOf, Option.bind_eq_some_iff] at e
  obtain ⟨⟨rs, d1⟩, e1, e2⟩ := e
  split at e2
  · rename_i r hr
    have hr : rs = [r] := hr
    subst hr
    simp only [Option.map_eq_some_iff] at e2
    obtain ⟨⟨l, d2⟩, e3, e4⟩ := e2
    cases e4
    refine ha G H F σ ds _ d1 _ S e1 fun v1 G1 H1 F1 fp1 S1 t1 r1 f1 => ?_
    cases r1 with
    | cons a b =>
      cases b
      obtain ⟨G4, F4, x, xs, S4, t4, s4, rfl, dd4, f4, alt⟩ := items_ok S1 t1 a f1 e3
      refine ⟨x, xs, rfl, alt.imp (·.2) (·.2), fun p hp => ?_⟩
      obtain ⟨S5, t5, r5, f5⟩ := new_list S4 t4 hp dd4
      exact q _ _ _ _ _ S5 t5 r5 f5
  · cases e2
/-! ### == and != of data -/
theorem vop_eq : VOp K (rEqD K) (fun d e => if SeqAt.shaped d && SeqAt.shaped e then some (.bool (PyData.eqv d e)) else none) := by
  intro H x y d e z Q hd he hz q
  simp only at hz
  split at hz
  · rename_i hs
    cases hz
    rw [Bool.and_eq_true] at hs
    exact ⟨d, e, hd, he, hs.1, hs.2, q _ (.bl _)⟩
  · cases hz
theorem vop_ne : VOp K (rNeD K) (fun d e => if SeqAt.shaped d && SeqAt.shaped e then some (.bool (!PyData.eqv d e)) else none) := by
  intro H x y d e z Q hd he hz q
  simp only at hz
  split at hz
  · rename_i hs
    cases hz
    rw [Bool.and_eq_true] at hs
    exact ⟨d, e, hd, he, hs.1, hs.2, q _ (.bl _)⟩
  · cases hz
def gEq (d e : D) : Option D := if SeqAt.shaped d && SeqAt.shaped e then some (.bool (PyData.eqv d e)) else none
def gNe (d e : D) : Option D := if SeqAt.shaped d && SeqAt.shaped e then some (.bool (!PyData.eqv d e)) else none
/-- is None -/
def gIsN (d : D) : Option D := some (.bool (match d with | .none => true | _ => false))
def gNotN (d : D) : Option D := some (.bool (match d with | .none => false | _ => true))
/-! ### built-ins -/
def gLen (l : List D) : Option D := match l with
  | [.list xs] => some (.int xs.length)
  | [.tuple xs] => some (.int xs.length)
  | _ => none
theorem vca_len : VCa K (fun xs H Q => ∃ p ys, xs = [.ref p] ∧ (SqL K H p ys ∨ SqT K H p ys) ∧ Q (.int ys.length) H) gLen := by
  intro H xs l z Q h hz q
  unfold gLen at hz
  split at hz
  · cases hz
    cases h with
    | cons a b =>
      cases b
      cases a with
      | lst h1 h2 => exact ⟨_, _, rfl, .inl h1, by rw [dpsLen h2]; exact q _ (.int _)⟩
  · cases hz
    cases h with
    | cons a b =>
      cases b
      cases a with
      | tup h1 h2 => exact ⟨_, _, rfl, .inr h1, by rw [dpsLen h2]; exact q _ (.int _)⟩
  · cases hz
def g1I (f : Int → D) (l : List D) : Option D := match l with
  | [.int i] => some (f i)
  | _ => none
theorem vca_abs : VCa K (fun xs H Q => ∃ i, xs = [.int i] ∧ Q (.int (if i < 0 then -i else i)) H) (g1I fun i => .int (if i < 0 then -i else i)) := by
  intro H xs l z Q h hz q
  unfold g1I at hz
  split at hz
  · cases hz
    cases h with
    | cons a b =>
      cases b
      cases a
      exact ⟨_, rfl, q _ (.int _)⟩
  · cases hz
def gInt (l : List D) : Option D := match l with
  | [.int i] => some (.int i)
  | [.bool b] => some (.int (if b then 1 else 0))
  | _ => none
theorem vca_int : VCa K (fun xs H Q => (∃ i, xs = [.int i] ∧ Q (.int i) H) ∨ ∃ k, xs = [.bl k] ∧ Q (.int (if k then 1 else 0)) H) gInt := by
  intro H xs l z Q h hz q
  unfold gInt at hz
  split at hz
  · cases hz
    cases h with
    | cons a b =>
      cases b
      cases a
      exact .inl ⟨_, rfl, q _ (.int _)⟩
  · cases hz
    cases h with
    | cons a b =>
      cases b
      cases a
      exact .inr ⟨_, rfl, q _ (.int _)⟩
  · cases hz
def gGcd (l : List D) : Option D := match l with
  | [.int a, .int b] => some (.int ((Nat.gcd a.natAbs b.natAbs : Nat) : Int))
  | _ => none
theorem vca_gcd : VCa K rGcd gGcd := by
  intro H xs l z Q h hz q
  unfold gGcd at hz
  split at hz
  · cases hz
    cases h with
    | cons a b =>
      cases b with
      | cons b c =>
        cases c
        cases a
        cases b
        exact ⟨_, _, rfl, q _ (.int _)⟩
  · cases hz
/-- the ints of data -/
def intsD : List D → Option (List Int)
  | [] => some []
  | .int i :: l => (intsD l).map fun r => i :: r
  | _ :: _ => none
theorem ints_dp {G : Hp} : ∀ {xs : List V} {l : List D} {ns : List Int}, DpAll K G xs l → intsD l = some ns → xs = ns.map V.int
  | _, _, _, .nil, e => by cases e; rfl
  | _, _, _, .cons (d := d) a t, e => by
    cases d with
    | int i =>
      simp only [intsD, Option.map_eq_some_iff] at e
      obtain ⟨r, h1, rfl⟩ := e
      cases a
      rw [ints_dp t h1]
      rfl
    | _ => cases e
theorem intsD_map : ∀ ns : List Int, intsD (ns.map PyData.int) = some ns
  | [] => rfl
  | n :: ns => by simp [intsD, intsD_map ns]
def boolsD : List D → Option (List Bool)
  | [] => some []
  | .bool i :: l => (boolsD l).map fun r => i :: r
  | _ :: _ => none
theorem bools_dp {G : Hp} : ∀ {xs : List V} {l : List D} {ns : List Bool}, DpAll K G xs l → boolsD l = some ns → xs = ns.map V.bl
  | _, _, _, .nil, e => by cases e; rfl
  | _, _, _, .cons (d := d) a t, e => by
    cases d with
    | bool i =>
      simp only [boolsD, Option.map_eq_some_iff] at e
      obtain ⟨r, h1, rfl⟩ := e
      cases a
      rw [bools_dp t h1]
      rfl
    | _ => cases e
theorem boolsD_map : ∀ ns : List Bool, boolsD (ns.map PyData.bool) = some ns
  | [] => rfl
  | n :: ns => by simp [boolsD, boolsD_map ns]
def gSum (l : List D) : Option D := match l with
  | [.list xs] => (intsD xs).map fun ns => .int ns.sum
  | _ => none
theorem vca_sum : VCa K (rSum K) gSum := by
  intro H xs l z Q h hz q
  unfold gSum at hz
  split at hz
  · simp only [Option.map_eq_some_iff] at hz
    obtain ⟨ns, h1, rfl⟩ := hz
    cases h with
    | cons a b =>
      cases b
      cases a with
      | lst h2 h3 => exact ⟨_, ns, rfl, by rw [← ints_dp h3 h1]; exact h2, q _ (.int _)⟩
  · cases hz
def gAll (l : List D) : Option D := match l with
  | [.list xs] => (boolsD xs).map fun ns => .bool (ns.all id)
  | _ => none
theorem vca_all : VCa K (rAll K) gAll := by
  intro H xs l z Q h hz q
  unfold gAll at hz
  split at hz
  · simp only [Option.map_eq_some_iff] at hz
    obtain ⟨ns, h1, rfl⟩ := hz
    cases h with
    | cons a b =>
      cases b
      cases a with
      | lst h2 h3 => exact ⟨_, ns, rfl, by rw [← bools_dp h3 h1]; exact h2, q _ (.bl _)⟩
  · cases hz
end Fx
set_option Elab.async false
set_option linter.all false
set_option maxRecDepth 100000
namespace Fx
open PySem PySem.Spec L2
variable {K : Fr}

/-! ### == again: texts by themselves -/
def rEqX (K : Fr) : R2 := fun x y H Q => rEqD K x y H Q ∨ L2.rEq x y H Q
def rNeX (K : Fr) : R2 := fun x y H Q => rNeD K x y H Q ∨ L2.rNe x y H Q
theorem op_eqX {X : Cx} (hu : X.A.units + 64 < cLine) : OpR X (compareOp .Eq) (rEqX X.K) := OpR.alt (op_eqD hu) L2.op_eq
theorem op_neX {X : Cx} (hu : X.A.units + 64 < cLine) : OpR X (compareOp .NotEq) (rNeX X.K) := OpR.alt (op_neD hu) L2.op_ne
def gEqX (d e : D) : Option D := match d, e with
  | .str x, .str y => some (.bool (decide (x = y)))
  | d, e => gEq d e
def gNeX (d e : D) : Option D := match d, e with
  | .str x, .str y => some (.bool (!decide (x = y)))
  | d, e => gNe d e
theorem dec_strV {x y : Str} : decide (V.str x = V.str y) = decide (x = y) := by
  by_cases h : x = y
  · subst h; simp
  · have : ¬ V.str x = V.str y := fun z => h (V.str.inj z)
    rw [decide_eq_false h, decide_eq_false this]
theorem vop_eqX : VOp K (rEqX K) gEqX := by
  intro H x y d e z Q hd he hz q
  unfold gEqX at hz
  split at hz
  · cases hz
    cases hd
    cases he
    exact .inr ⟨rfl, by rw [dec_strV]; exact q _ (.bl _)⟩
  · exact .inl (vop_eq H x y _ _ z Q hd he hz q)
theorem vop_neX : VOp K (rNeX K) gNeX := by
  intro H x y d e z Q hd he hz q
  unfold gNeX at hz
  split at hz
  · cases hz
    cases hd
    cases he
    exact .inr ⟨rfl, by rw [dec_strV]; exact q _ (.bl _)⟩
  · exact .inl (vop_ne H x y _ _ z Q hd he hz q)
/-! ### any of ints or bools -/
def truV : V → Option Bool
  | .bl b => some b
  | .int i => some (i != 0)
  | _ => none
theorem truth_vs {prog : Program} {w : World} {A : Around} : ∀ {xs : List V} {its : List Value} {bs : List Bool}, Vals xs its → xs.map truV = bs.map some →
    TruthOf prog w A (fun i v => its.toArray[i]? = some v) (fun i => bs.getD i false) := fun {xs its bs} r e i v s Q E hv hq => by
  have hv' : its[i]? = some v := by simpa using hv
  have hlt : i < xs.length := by rw [r.length]; exact (List.getElem?_eq_some_iff.mp hv').1
  obtain ⟨u, h1, h2⟩ := Vals.get (i := i) (x := xs[i]) r (by simp [hlt])
  rw [hv'] at h1
  cases h1
  have h3 : (xs.map truV)[i]? = some (truV xs[i]) := by simp [hlt]
  rw [e, List.getElem?_map] at h3
  obtain ⟨b, hb, hb2⟩ := Option.map_eq_some_iff.mp h3
  have hg : bs.getD i false = b := by rw [List.getD_eq_getElem?_getD, hb] <;> rfl
  have hq' : Q (bs.getD i false) s := hq
  rw [hg] at hq'
  generalize xs[i] = x at h2 hb2
  cases x with
  | bl c => cases hb2; cases h2; exact wpAny_truthy_bool hq'
  | int k => cases hb2; obtain ⟨t, rfl⟩ := h2; exact PyProof.Rows.truthy_int hq'
  | _ => cases hb2
def rAnyX (K : Fr) : List V → Hp → VK → Prop := fun vs H Q => ∃ (a : Addr) (xs : List V) (bs : List Bool), vs = [V.ref a] ∧ SqL K H a xs ∧ xs.map truV = bs.map some ∧ Q (.bl (bs.any id)) H
theorem cr_anyX {X : Cx} (hc : X.calm = true) : CallR X (.builtin "any") (rAnyX X.K) := by
  intro pins s σ H vs us Q I r h
  obtain ⟨a, xs, bs, rfl, hs, hb, q⟩ := h
  obtain ⟨its, rv, hl, _⟩ := I.list hs
  rw [Vals.ref1 r]
  refine call_any_walk (iter_any hl.isList fun s₂ e2 st hne => ?_)
  subst e2
  refine ⟨_, _, _, _, _, _, _, rfl, Walks.list (A := X.A.in1) (I.ok.hd hc) _ a hne its.toArray, st, truth_vs rv hb, fun h' tk hk => ?_⟩
  refine ⟨.bl _, H, I.kept fun b o eo => hk b o (fun hmem => ?_) (Heap.get?_push_of_some _ eo), ?_, q⟩
  · rcases List.mem_cons.mp hmem with e1 | hmem
    · exact absurd (e1 ▸ Heap.lt_size eo) (Nat.lt_irrefl _)
    · cases hmem
  · show Value.bool _ = Value.bool _
    have e1 : its.toArray.size = bs.length := by
      rw [List.size_toArray, ← rv.length]
      have := congrArg List.length hb
      simpa using this
    rw [e1, any_range]
def trusD : List D → Option (List Bool)
  | [] => some []
  | .bool i :: l => (trusD l).map fun r => i :: r
  | .int i :: l => (trusD l).map fun r => (i != 0) :: r
  | _ :: _ => none
theorem trus_dp {G : Hp} : ∀ {xs : List V} {l : List D} {ns : List Bool}, DpAll K G xs l → trusD l = some ns → xs.map truV = ns.map some
  | _, _, _, .nil, e => by cases e; rfl
  | _, _, _, .cons (d := d) a t, e => by
    cases d with
    | bool i =>
      simp only [trusD, Option.map_eq_some_iff] at e
      obtain ⟨r, h1, rfl⟩ := e
      cases a
      simp [trus_dp t h1, truV]
    | int i =>
      simp only [trusD, Option.map_eq_some_iff] at e
      obtain ⟨r, h1, rfl⟩ := e
      cases a
      simp [trus_dp t h1, truV]
    | _ => cases e
def gAny (l : List D) : Option D := match l with
  | [.list xs] => (trusD xs).map fun ns => .bool (ns.any id)
  | _ => none
theorem vca_any : VCa K (rAnyX K) gAny := by
  intro H xs l z Q h hz q
  unfold gAny at hz
  split at hz
  · simp only [Option.map_eq_some_iff] at hz
    obtain ⟨ns, h1, rfl⟩ := hz
    cases h with
    | cons a b =>
      cases b
      cases a with
      | lst h2 h3 => exact ⟨_, _, ns, rfl, h2, trus_dp h3 h1, q _ (.bl _)⟩
  · cases hz
/-! ### isinstance of a built-in class -/
def tyD : D → Option String
  | .none => some "NoneType"
  | .bool _ => some "bool"
  | .int _ => some "int"
  | .str _ => some "str"
  | .list _ => some "list"
  | .tuple _ => some "tuple"
  | .dict _ => none
theorem ty_of {H : Hp} {v : V} {d : D} {t : String} (h : Dp K H v d) (e : tyD d = some t) : TyX K H v (.type t) := by
  cases h with
  | non => cases e; exact .base .non
  | bl b => cases e; exact .base (.bl b)
  | int i => cases e; exact .base (.int i)
  | str x => cases e; exact .base (.str x)
  | lst h1 _ =>
    cases e
    rcases h1 with (h | ⟨o, h⟩) | ⟨o, its, n, h, c, _⟩
    · exact .base (.lst h)
    · exact .base (.frz h)
    · exact .kList h c
  | tup h1 _ =>
    cases e
    rcases h1 with (h | ⟨o, h⟩) | ⟨o, its, n, h, c, _⟩
    · exact .base (.tup h)
    · exact .fTuple h
    · exact .kTuple h c
def fIsi (n : String) (f : DS → Option (RV × DS)) (ds : DS) : Option (RV × DS) := (f ds).bind fun p => (see p.1 p.2).bind fun d => (tyD d).bind fun t => (kitB t n).map fun b => (.ov (.sh (.bool b)), p.2)
theorem re_isi {n : String} {te : TE} {f : DS → Option (RV × DS)} (h : RE K te f) : RE K (tCB (rIsi K) (tCons te (tCons (tC (.ty n)) tNil))) (fIsi n f) := by
  intro G H F σ ds rv ds' Q S e q
  simp only [fIsi, Option.bind_eq_some_iff, Option.map_eq_some_iff] at e
  obtain ⟨⟨r, d1⟩, e1, d, e2, t, e3, b, e4, e5⟩ := e
  cases e5
  refine h G H F σ ds r _ _ S e1 fun v G1 H1 F1 fp1 S1 t1 r1 f1 => ?_
  exact ⟨v, .ty n, .type t, .type n, b, rfl, .ty n, ty_of (see_ok S1 r1 e2) e3, kit_ty e4, q _ G1 H1 F1 [] S1 t1 ⟨.bl b, rfl⟩ .nil⟩
/-! ### repr -/
theorem call_reprX {X : Cx} (hg : X.A.guards = some []) (hu : X.A.units + 64 < cLine) : CallR X (.builtin "repr") (fun xs H Q => ∃ v d, xs = [v] ∧ Dp X.K H v d ∧ (∃ a, v = .ref a) ∧ d.showable = true ∧ d.hasDict = false ∧ d.depth ≤ 60 ∧ d.shown.length ≤ sizeLine ∧ Q (.str d.shown) H) := by
  intro pins s σ H xs us Q I r h
  obtain ⟨v, d, rfl, hd, ⟨a, rfl⟩, h1, h2, h3, h4, q⟩ := h
  cases r with
  | cons rv rr =>
    cases rr
    obtain ⟨as, r1⟩ := Dp.reads I d _ _ hd rv
    cases rv
    exact repr_of_reads' r1 h1 (PyData.noDict_hsm h2) hg (by omega) (fun _ _ e => e) (fun h' u tk hk => ⟨.str _, H, I.kept hk, ⟨u, rfl⟩, q⟩) h4
def isRefD : D → Bool
  | .list _ | .tuple _ => true
  | _ => false
def gRepr (l : List D) : Option D := match l with
  | [d] => if isRefD d && d.showable && !d.hasDict && decide (d.depth ≤ 60) && decide (d.shown.length ≤ sizeLine) then some (.str d.shown) else none
  | _ => none
theorem vca_repr : VCa K (fun xs H Q => ∃ v d, xs = [v] ∧ Dp K H v d ∧ (∃ a, v = .ref a) ∧ d.showable = true ∧ d.hasDict = false ∧ d.depth ≤ 60 ∧ d.shown.length ≤ sizeLine ∧ Q (.str d.shown) H) gRepr := by
  intro H xs l z Q h hz q
  unfold gRepr at hz
  split at hz
  · split at hz
    · rename_i d hc
      cases hz
      simp only [Bool.and_eq_true, decide_eq_true_eq, Bool.not_eq_true'] at hc
      obtain ⟨⟨⟨⟨h1, h2⟩, h3⟩, h4⟩, h5⟩ := hc
      cases h with
      | cons a b =>
        cases b
        refine ⟨_, d, rfl, a, ?_, h2, h3, h4, h5, q _ (.str _)⟩
        cases a with
        | lst _ _ => exact ⟨_, rfl⟩
        | tup _ _ => exact ⟨_, rfl⟩
        | _ => cases h1
    · cases hz
  · cases hz
/-! ### x.bit_length() -/
def gBits (d : D) : Option D := match d with
  | .int i => some (.int (Builtin.Int.intBits i : Nat))
  | _ => none
theorem re_bits {te : TE} {f : DS → Option (RV × DS)} (h : RE K te f) : RE K (tBits te) (fUn gBits f) := by
  intro G H F σ ds rv ds' Q S e q
  simp only [fUn, Option.bind_eq_some_iff, Option.map_eq_some_iff] at e
  obtain ⟨⟨ra, d1⟩, e1, d, e3, z, e5, e6⟩ := e
  cases e6
  refine h G H F σ ds ra d1 _ S e1 fun v1 G1 H1 F1 fp1 S1 t1 r1 f1 => ?_
  have x1 := see_ok S1 r1 e3
  unfold gBits at e5
  split at e5
  · cases e5
    cases x1
    exact ⟨_, rfl, q _ G1 H1 F1 [] S1 t1 ⟨.int _, rfl⟩ .nil⟩
  · cases e5
/-! ### -a -/
def gNeg (d : D) : Option D := match d with
  | .int i => some (.int (-i))
  | _ => none
theorem vun_neg : VUn K (rU fun i => .int (-i)) gNeg := by
  intro H x d z Q hd hz q
  unfold gNeg at hz
  split at hz
  · cases hz
    cases hd
    exact ⟨_, rfl, q _ (.int _)⟩
  · cases hz
/-! ### zip, enumerate, reversed, range(a, b, c) -/
def pairD (p : D × D) : D := .tuple [p.1, p.2]
theorem wk_zip {G : Hp} {a b : Addr} {xs ys : List V} {l m : List D} (ha : SqL K G a xs) (hb : SqL K G b ys) (hx : DpAll K G xs l) (hy : DpAll K G ys m) : Wk K G (Itz K a b) ((l.zip m).map pairD) where
  goes := fun i H hi s => by
    rw [List.length_map, List.length_zip] at hi
    have h1 : i < xs.length := by rw [dpsLen hx]; omega
    have h2 : i < ys.length := by rw [dpsLen hy]; omega
    exact ⟨xs, ys, xs[i], ys[i], s.seq ha, s.seq hb, by simp [h1], by simp [h2]⟩
  stops := fun H s => ⟨xs, ys, s.seq ha, s.seq hb, by
    rw [List.length_map, List.length_zip, dpsLen hx, dpsLen hy]
    omega⟩
  yields := fun i d G1 H x H' hi s1 s2 y => by
    obtain ⟨T, u, v, rfl, nT, rfl, y1, y2⟩ := y
    have hu := y1 xs ((s1.trans s2).seq ha)
    have hv := y2 ys ((s1.trans s2).seq hb)
    obtain ⟨d1, e1, e2⟩ := dpsGetV hx hu
    obtain ⟨d2, e3, e4⟩ := dpsGetV hy hv
    have hz : (l.zip m)[i]? = some (d1, d2) := by rw [List.getElem?_zip_eq_some]; exact ⟨e1, e3⟩
    rw [List.getElem?_map, hz] at hi
    cases hi
    have gT : G1 T = none := s2.free nT
    have sG : Same G1 (upd G1 T (.tup [u, v])) := fun b x e => by rw [upd_ne (ne_of_none e gT)]; exact e
    refine ⟨upd G1 T (.tup [u, v]), sG, fun b x e => by rw [upd_ne (ne_of_none e nT)]; exact e, fun b x e => ?_, fun b x e => ?_, .tup (SqT.of upd_same) (.cons (dpMono (s1.trans sG) _ _ e2) (.cons (dpMono (s1.trans sG) _ _ e4) .nil))⟩
    · by_cases h : b = T
      · subst h; rw [upd_same] at e ⊢; exact e
      · rw [upd_ne h] at e ⊢; exact s2 b x e
    · by_cases h : b = T
      · subst h; exact .inr nT
      · rw [upd_ne h] at e; exact .inl ⟨x, e⟩
def fiZip (fa : DS → Option (List RV × DS)) (ds : DS) : Option (List D × DS) := (fa ds).bind fun p => (frzs p.1 p.2).bind fun q => match q.1 with
  | [.list l, .list m] => some ((l.zip m).map pairD, q.2)
  | _ => none
theorem ri_zip {t : TA} {f : DS → Option (List RV × DS)} (h : RA K t f) : RI K (iZip K t) (fiZip f) := by
  intro G H F σ ds l ds' R S e q
  simp only [fiZip, Option.bind_eq_some_iff] at e
  obtain ⟨⟨r, d1⟩, e1, ⟨dl, d2⟩, e2, e3⟩ := e
  split at e3
  · rename_i l1 l2 hl
    cases e3
    have hl : dl = [.list l1, .list l2] := hl
    subst hl
    refine h G H F σ ds r d1 _ S e1 fun v G1 H1 F1 fp1 S1 t1 r1 f1 => ?_
    obtain ⟨G2, F2, S2, t2, s2, dd, f2⟩ := frzs_ok (fq := []) S1 t1 r1 (by rw [List.append_nil]; exact f1) e2
    cases dd with
    | cons a b =>
      cases b with
      | cons b c =>
        cases c
        cases a with
        | lst h1 h2 =>
          cases b with
          | lst h3 h4 => exact ⟨_, _, _, _, rfl, S2.sub.seq h1, S2.sub.seq h3, q _ G2 H1 F2 S2 t2 (wk_zip h1 h3 h2 h4)⟩
  · cases e3
def enumD (l : List D) : List D := ((List.range l.length).map fun (i : Nat) => PyData.int (i : Int)).zip l |>.map pairD
theorem enumD_at {l : List D} {i : Nat} {d : D} (h : (enumD l)[i]? = some d) : ∃ e, l[i]? = some e ∧ d = .tuple [.int (i : Int), e] := by
  unfold enumD at h
  rw [List.getElem?_map] at h
  obtain ⟨p, h1, rfl⟩ := Option.map_eq_some_iff.mp h
  rw [List.getElem?_zip_eq_some] at h1
  obtain ⟨h2, h3⟩ := h1
  rw [List.getElem?_map] at h2
  obtain ⟨j, h4, h5⟩ := Option.map_eq_some_iff.mp h2
  obtain ⟨h6, h7⟩ := List.getElem?_eq_some_iff.mp h4
  refine ⟨p.2, h3, ?_⟩
  unfold pairD
  rw [← h5]
  simp at h7
  rw [h7]
theorem enumD_length (l : List D) : (enumD l).length = l.length := by
  unfold enumD
  rw [List.length_map, List.length_zip, List.length_map, List.length_range]
  omega
theorem wk_enum {G : Hp} {a : Addr} {xs : List V} {l : List D} (ha : SqL K G a xs) (hx : DpAll K G xs l) : Wk K G (Ite K a) (enumD l) where
  goes := fun i H hi s => by
    rw [enumD_length] at hi
    have h1 : i < xs.length := by rw [dpsLen hx]; omega
    exact ⟨xs, xs[i], s.seq ha, by simp [h1]⟩
  stops := fun H s => ⟨xs, s.seq ha, by rw [enumD_length, dpsLen hx]; exact Nat.le_refl _⟩
  yields := fun i d G1 H x H' hi s1 s2 y => by
    obtain ⟨T, u, rfl, nT, rfl, y1⟩ := y
    have hu := y1 xs ((s1.trans s2).seq ha)
    obtain ⟨d1, e1, e2⟩ := dpsGetV hx hu
    obtain ⟨e, e3, rfl⟩ := enumD_at hi
    rw [e1] at e3
    cases e3
    have gT : G1 T = none := s2.free nT
    have sG : Same G1 (upd G1 T (.tup [.int (i : Nat), u])) := fun b x e => by rw [upd_ne (ne_of_none e gT)]; exact e
    refine ⟨upd G1 T (.tup [.int (i : Nat), u]), sG, fun b x e => by rw [upd_ne (ne_of_none e nT)]; exact e, fun b x e => ?_, fun b x e => ?_, .tup (SqT.of upd_same) (.cons (.int _) (.cons (dpMono (s1.trans sG) _ _ e2) .nil))⟩
    · by_cases h : b = T
      · subst h; rw [upd_same] at e ⊢; exact e
      · rw [upd_ne h] at e ⊢; exact s2 b x e
    · by_cases h : b = T
      · subst h; exact .inr nT
      · rw [upd_ne h] at e; exact .inl ⟨x, e⟩
def fi1 (k : List D → List D) (fa : DS → Option (List RV × DS)) (ds : DS) : Option (List D × DS) := (fa ds).bind fun p => (frzs p.1 p.2).bind fun q => match q.1 with
  | [.list l] => some (k l, q.2)
  | _ => none
theorem ri_enum {t : TA} {f : DS → Option (List RV × DS)} (h : RA K t f) : RI K (iEnum K t) (fi1 enumD f) := by
  intro G H F σ ds l ds' R S e q
  simp only [fi1, Option.bind_eq_some_iff] at e
  obtain ⟨⟨r, d1⟩, e1, ⟨dl, d2⟩, e2, e3⟩ := e
  split at e3
  · rename_i l1 hl
    cases e3
    have hl : dl = [.list l1] := hl
    subst hl
    refine h G H F σ ds r d1 _ S e1 fun v G1 H1 F1 fp1 S1 t1 r1 f1 => ?_
    obtain ⟨G2, F2, S2, t2, s2, dd, f2⟩ := frzs_ok (fq := []) S1 t1 r1 (by rw [List.append_nil]; exact f1) e2
    cases dd with
    | cons a b =>
      cases b
      cases a with
      | lst h1 h2 => exact ⟨_, _, rfl, S2.sub.seq h1, q _ G2 H1 F2 S2 t2 (wk_enum h1 h2)⟩
  · cases e3
theorem wk_rev {G : Hp} {a : Addr} {xs : List V} {l : List D} (h : SqL K G a xs) (hd : DpAll K G xs l) : Wk K G (Itv K a xs.length) l.reverse where
  goes := fun i H hi s => by
    rw [List.length_reverse] at hi
    have hl := dpsLen hd
    have h2 : xs.length - 1 - i < xs.length := by omega
    exact ⟨by omega, xs, xs[xs.length - 1 - i], s.seq h, by simp [h2]⟩
  stops := fun H s => by
    show xs.length ≤ _
    rw [List.length_reverse, dpsLen hd]
    exact Nat.le_refl _
  yields := fun i d G1 H x H' hi s1 s2 y => by
    obtain ⟨rfl, y⟩ := y
    have hx := y xs ((s1.trans s2).seq h)
    obtain ⟨d', e1, e2⟩ := dpsGetV hd hx
    have hlt : i < l.length := by
      have := (List.getElem?_eq_some_iff.mp hi).1
      simpa using this
    rw [List.getElem?_reverse hlt, ← dpsLen hd, e1] at hi
    cases hi
    exact ⟨G1, Same.refl _, Same.refl _, s2, fun b y e => .inl ⟨y, e⟩, dpMono s1 _ _ e2⟩
theorem ri_rev {t : TA} {f : DS → Option (List RV × DS)} (h : RA K t f) : RI K (iRev K t) (fi1 List.reverse f) := by
  intro G H F σ ds l ds' R S e q
  simp only [fi1, Option.bind_eq_some_iff] at e
  obtain ⟨⟨r, d1⟩, e1, ⟨dl, d2⟩, e2, e3⟩ := e
  split at e3
  · rename_i l1 hl
    cases e3
    have hl : dl = [.list l1] := hl
    subst hl
    refine h G H F σ ds r d1 _ S e1 fun v G1 H1 F1 fp1 S1 t1 r1 f1 => ?_
    obtain ⟨G2, F2, S2, t2, s2, dd, f2⟩ := frzs_ok (fq := []) S1 t1 r1 (by rw [List.append_nil]; exact f1) e2
    cases dd with
    | cons a b =>
      cases b
      cases a with
      | lst h1 h2 => exact ⟨_, _, rfl, S2.sub.seq h1, q _ G2 H1 F2 S2 t2 (wk_rev h1 h2)⟩
  · cases e3
/-- range(i, j, c), c at least 1 -/
def rngC (i j c : Int) : Nat := if j ≤ i then 0 else ((j - i - 1) / c).toNat + 1
def range3D (i j c : Int) : List D := (List.range (Builtin.Range.rangeSize i j c).toNat).map fun (k : Nat) => PyData.int (i + (k : Int) * c)
noncomputable def rgOk (i j c : Int) : Bool := yes (((c ≠ 0 ∧ c.natAbs < 1073741824) ∧ Builtin.Range.small i j c = true) ∧ 0 ≤ Builtin.Range.rangeSize i j c)
theorem wk_rng3 {G : Hp} {lo c : Int} {n : Nat} : Wk K G (Itc lo c n) ((List.range n).map fun (i : Nat) => PyData.int (lo + (i : Int) * c)) where
  goes := fun i H hi _ => by
    show i < n
    simpa using hi
  stops := fun H _ => by
    show n ≤ _
    simp
  yields := fun i d G1 H x H' hi s1 s2 y => by
    obtain ⟨rfl, rfl⟩ := y
    rw [List.getElem?_map] at hi
    simp only [Option.map_eq_some_iff] at hi
    obtain ⟨j, hj, rfl⟩ := hi
    have : i = j := by
      obtain ⟨h1, h2⟩ := List.getElem?_eq_some_iff.mp hj
      simpa using h2
    subst this
    exact ⟨G1, Same.refl _, Same.refl _, s2, fun b y e => .inl ⟨y, e⟩, .int _⟩
noncomputable def fiR3 (fa : DS → Option (List RV × DS)) (ds : DS) : Option (List D × DS) := (fa ds).bind fun p => (sees p.1 p.2).bind fun l => match l with
  | [.int i, .int j, .int c] => if rgOk i j c = true then some (range3D i j c, p.2) else none
  | _ => none
theorem ri_r3 {t : TA} {f : DS → Option (List RV × DS)} (h : RA K t f) : RI K (iRng3 t) (fiR3 f) := by
  intro G H F σ ds l ds' R S e q
  simp only [fiR3, Option.bind_eq_some_iff] at e
  obtain ⟨⟨r, d1⟩, e1, l1, e2, e3⟩ := e
  split at e3
  · rename_i i j c
    split at e3
    · rename_i hs
      cases e3
      refine h G H F σ ds r d1 _ S e1 fun v G1 H1 F1 fp1 S1 t1 r1 f1 => ?_
      have dd := sees_ok S1 r1 e2
      cases dd with
      | cons a b =>
        cases b with
        | cons b b2 =>
          cases b2 with
          | cons c2 b3 =>
            cases b3
            cases a
            cases b
            cases c2
            obtain ⟨⟨⟨h1, h2⟩, h3⟩, h4⟩ := of_yes hs
            exact ⟨i, j, c, (Builtin.Range.rangeSize i j c).toNat, rfl, ⟨h1, h2, h3, by omega⟩, q _ G1 H1 F1 S1 t1 wk_rng3⟩
    · cases e3
  · cases e3
/-! ### xs.append(e), xs[i] = e -/
/-- e at the end of the list of slot i: shared; owned -/
def fApp (i : Nat) (f : DS → Option (RV × DS)) (ds : DS) : Option Out := match ds[i]? with
  | some (some (.flat _)) => (f ds).bind fun p => (frz p.1 p.2).bind fun q => match q.2[i]? with
    | some (some (.flat l)) => if l.length ≤ 1000000 then some (.nx (q.2.set i (some (.flat (l ++ [q.1]))))) else none
    | _ => none
  | _ => none
/-- the list of slot i changes -/
theorem SI.change {G H H0 : Hp} {σ : St} {ds : DS} {F : Nat → List Addr} (S : SI K G H σ ds F) {i : Nat} {l m : List D} {a : Addr} {xs ys : List V} (hi : ds[i]? = some (some (.flat l))) (hσ : σ[i]? = some (some (.ref a))) (hx : H a = some (.lst xs)) (hF : F i = [a]) (hy : DpAll K G ys m) :
    SI K G (upd H a (.lst ys)) σ (ds.set i (some (.flat m))) F where
  sub := fun b x e => by
    have : b ≠ a := fun z => by
      subst z
      rw [(S.off i b (by simp [hF])).1] at e; cases e
    rw [upd_ne this]; exact S.sub b x e
  len := by rw [List.length_set]; exact S.len
  rep := fun j u e => by
    by_cases hj : j = i
    · subst hj
      rw [List.getElem?_set_self (List.getElem?_eq_some_iff.mp hi).1] at e
      cases e
      exact ⟨_, hσ, a, ys, rfl, upd_same, hy, hF⟩
    · rw [List.getElem?_set_ne (Ne.symm hj)] at e
      obtain ⟨w, h1, h2⟩ := S.rep j u e
      refine ⟨w, h1, h2.mono (Same.refl G) fun b hb x hx' => ?_⟩
      have : b ≠ a := fun z => by
        subst z
        exact hj (S.dis j i b hb (by simp [hF]))
      rw [upd_ne this]; exact hx'
  nod := S.nod
  off := fun j b hb => by
    obtain ⟨h1, x, h2⟩ := S.off j b hb
    refine ⟨h1, ?_⟩
    by_cases z : b = a
    · subst z; exact ⟨_, upd_same⟩
    · rw [upd_ne z]; exact ⟨x, h2⟩
  dis := S.dis
theorem slot_flat {G H : Hp} {σ : St} {ds : DS} {F : Nat → List Addr} (S : SI K G H σ ds F) {i : Nat} {l : List D} (hi : ds[i]? = some (some (.flat l))) : ∃ a xs, σ[i]? = some (some (.ref a)) ∧ H a = some (.lst xs) ∧ DpAll K G xs l ∧ F i = [a] := by
  obtain ⟨v, h1, a, xs, rfl, h2, h3, h4⟩ := S.rep i _ hi
  exact ⟨a, xs, h1, h2, h3, h4⟩
theorem rs_app {i : Nat} {t : TE} {f : DS → Option (RV × DS)} (h : RE K t f) : RS K [] (tDrop (tBM K "list" rAppend (tVar i) (tCons t tNil))) (fApp i f) := by
  intro G H F σ ds o E S e q
  simp only [fApp] at e
  split at e
  · rename_i l0 hl0
    simp only [Option.bind_eq_some_iff] at e
    obtain ⟨⟨r, d1⟩, e1, ⟨d, d2⟩, e2, e3⟩ := e
    split at e3
    · rename_i l hl
      split at e3
      · rename_i hn
        cases e3
        obtain ⟨a0, xs0, k1, k2, k3, k4⟩ := slot_flat S hl0
        refine ⟨.ref a0, k1, .inl ⟨rfl, xs0, SqL.of k2⟩, ?_⟩
        refine h G H F σ ds r d1 _ S e1 fun v G1 H1 F1 fp1 S1 t1 r1 f1 => ?_
        obtain ⟨G2, F2, S2, t2, s2, dd, f2⟩ := frz_ok (fq := []) S1 t1 r1 (by rw [List.append_nil]; exact f1) e2
        obtain ⟨a, xs, m1, m2, m3, m4⟩ := slot_flat S2 hl
        rw [k1] at m1
        cases m1
        refine ⟨a0, xs, v, rfl, rfl, m2, by rw [dpsLen m3]; exact szOf hn, ?_⟩
        exact q σ G2 _ F2 (S2.change (H0 := H) hl k1 m2 m4 (dpsApp m3 (.cons dd .nil))) (t2.poke (t2.own a0 ⟨i, by simp [m4]⟩)) (Off.refl _ _)
      · cases e3
    · cases e3
  · cases e
/-- xs[k] = e, xs in slot i -/
def fSetIx (i : Nat) (f fk : DS → Option (RV × DS)) (ds : DS) : Option Out := (f ds).bind fun p => (frz p.1 p.2).bind fun q => match q.2[i]? with
  | some (some (.flat _)) => (fk q.2).bind fun w => match see w.1 w.2, w.2[i]? with
    | some (.int k), some (some (.flat l)) => (ixN l.length k).map fun j => .nx (w.2.set i (some (.flat (l.set j q.1))))
    | _, _ => none
  | _ => none
theorem rs_setIx {i : Nat} {t tk : TE} {f fk : DS → Option (RV × DS)} (h : RE K t f) (hk : RE K tk fk) : RS K [] (tAsg t (gSub (tVar i) tk rSetL)) (fSetIx i f fk) := by
  intro G H F σ ds o E S e q
  simp only [fSetIx, Option.bind_eq_some_iff] at e
  obtain ⟨⟨r, d1⟩, e1, ⟨d, d2⟩, e2, e3⟩ := e
  split at e3
  · rename_i l0 hl0
    simp only [Option.bind_eq_some_iff] at e3
    obtain ⟨⟨rk, d3⟩, e4, e5⟩ := e3
    split at e5
    · rename_i k l hk' hl
      simp only [Option.map_eq_some_iff] at e5
      obtain ⟨j, e6, e7⟩ := e5
      cases e7
      refine h G H F σ ds r d1 _ S e1 fun v G1 H1 F1 fp1 S1 t1 r1 f1 => ?_
      obtain ⟨G2, F2, S2, t2, s2, dd, f2⟩ := frz_ok (fq := []) S1 t1 r1 (by rw [List.append_nil]; exact f1) e2
      obtain ⟨a0, xs0, k1, k2, k3, k4⟩ := slot_flat S2 hl0
      refine ⟨.ref a0, k1, ?_⟩
      refine hk G2 H1 F2 σ d2 rk d3 _ S2 e4 fun vk G3 H3 F3 fp3 S3 t3 r3 f3 => ?_
      have xk := see_ok S3 r3 hk'
      cases xk
      obtain ⟨a, xs, m1, m2, m3, m4⟩ := slot_flat S3 hl
      rw [k1] at m1
      cases m1
      refine ⟨a0, xs, k, j, rfl, rfl, m2, by rw [dpsLen m3]; exact e6, ?_⟩
      have t23 := t2.trans t3
      exact q σ G3 _ F3 (S3.change (H0 := H) hl k1 m2 m4 (dpsSet (dpMono t3.sg _ _ dd) j m3)) (t23.poke (t23.own a0 ⟨i, by simp [m4]⟩)) (Off.refl _ _)
    · cases e5
  · cases e3
/-- name op= e, two ints -/
def fAug (i : Nat) (g : Int → Int → Int) (f : DS → Option (RV × DS)) (ds : DS) : Option Out := match ds[i]? with
  | some (some (.sh (.int a))) => (f ds).bind fun p => match see p.1 p.2 with
    | some (.int b) => some (.nx (p.2.set i (some (.sh (.int (g a b))))))
    | _ => none
  | _ => none
theorem rs_aug {i : Nat} {g : Int → Int → Int} {t : TE} {f : DS → Option (RV × DS)} (h : RE K t f) : RS K [i] (tAug i t (ipI g)) (fAug i g f) := by
  intro G H F σ ds o E S e q
  simp only [fAug] at e
  split at e
  · rename_i a ha
    simp only [Option.bind_eq_some_iff] at e
    obtain ⟨⟨r, d1⟩, e1, e2⟩ := e
    split at e2
    · rename_i b hb
      cases e2
      obtain ⟨v, k1, k2⟩ := S.rep i _ ha
      have k2 : Dp K G v (.int a) := k2.1
      cases k2
      refine ⟨_, k1, h G H F σ ds r d1 _ S e1 fun w G1 H1 F1 fp1 S1 t1 r1 f1 => ?_⟩
      have xb := see_ok S1 r1 hb
      cases xb
      exact ⟨a, b, rfl, rfl, q _ G1 H1 _ (S1.put i (W0 := Wf F1) (H0 := H1) ⟨.int _, rfl⟩ .nil) (t1.put fun _ h => nomatch h) (Off.set i _ σ)⟩
    · cases e2
  · cases e
end Fx
set_option Elab.async false
set_option linter.all false
set_option maxRecDepth 100000
/-! Fx: a piece of syntax, its reading, what it computes: one term for the three. -/
namespace Fx
open PySem PySem.Spec L2

structure JE (K : Fr) (X : Cx) (e : Expr) (t : TE) (f : DS → Option (RV × DS)) : Prop where
  p : PE X e t
  r : RE K t f
structure JT (K : Fr) (X : Cx) (e : Expr) (t : TT) (f : DS → Option (Bool × DS)) : Prop where
  p : PT X e t
  r : RT K t f
structure JW (K : Fr) (X : Cx) (e : Expr) (t : TT) (f : DS → Option (Bool × DS)) : Prop where
  p : PW X e t
  r : RT K t f
structure JA (K : Fr) (X : Cx) (es : List Expr) (t : TA) (f : DS → Option (List RV × DS)) : Prop where
  p : PA X es t
  r : RA K t f
structure JS (K : Fr) (X : Cx) (T : List Nat) (s : Stmt) (t : TS) (f : DS → Option Out) : Prop where
  p : PS X s t
  r : RS K T t f
structure JB (K : Fr) (X : Cx) (T : List Nat) (s : List Stmt) (t : TS) (f : DS → Option Out) : Prop where
  p : PSs X s t
  r : RS K T t f
structure JG (K : Fr) (X : Cx) (T : List Nat) (e : Expr) (t : TG) (f : D → DS → Option DS) : Prop where
  p : PG X e t
  r : RG K T t f
structure JGs (K : Fr) (X : Cx) (T : List Nat) (e : List Expr) (t : TGs) (f : List D → DS → Option DS) : Prop where
  p : PGs X e t
  r : RGs K T t f
structure JI (K : Fr) (X : Cx) (tg e : Expr) (t : TI) (f : DS → Option (List D × DS)) : Prop where
  p : PI X tg e t
  r : RI K t f
structure JO (K : Fr) (X : Cx) (e : Option Expr) (t : TO) (f : DS → Option (Option Int × DS)) : Prop where
  p : PO X e t
  r : RO K t f
structure JTs (K : Fr) (X : Cx) (e : List Expr) (t : TT) (f : DS → Option (Bool × DS)) : Prop where
  p : PTs X e t
  r : RT K t f
section
variable {K : Fr} {X : Cx} {a b c e : Expr} {es : List Expr} {ta tb tc te : TE} {t u : TT} {tl : TA} {fa fb fc fe : DS → Option (RV × DS)} {ft fu : DS → Option (Bool × DS)} {fl : DS → Option (List RV × DS)} {pos p : Pos}
theorem jv (i : Nat) {x : Str} (hN : X.N[i]? = some x := by rfl) (hv : Vis X.env.scope x := by first | exact Or.inl rfl | exact Or.inr (Or.inl rfl) | exact Or.inr (Or.inr rfl)) (hd : (x == ("__debug__" : Str)) = false := by decide)
    (hcd : (x == ("__classdict__" : Str)) = false := by decide) : JE K X (.Name x pos) (tVar i) (fVar i) := ⟨pe_var hN hv hd hcd, re_var⟩
theorem j_int {i j} : JE K X (.Constant (.int i) j pos) (tC (.int i)) (fC (.int i)) := ⟨pe_int, re_c (.int i)⟩
theorem j_bl {i j} : JE K X (.Constant (.bool i) j pos) (tC (.bl i)) (fC (.bool i)) := ⟨pe_bl, re_c (.bl i)⟩
theorem j_non {j} : JE K X (.Constant .none j pos) (tC .non) (fC .none) := ⟨pe_non, re_c .non⟩
theorem j_str {x j} : JE K X (.Constant (.str x) j pos) (tC (.str x)) (fC (.str x)) := ⟨pe_str, re_c (.str x)⟩
theorem j_add (ha : JE K X a ta fa) (hb : JE K X b tb fb) (hk : X.K = K := by rfl) : JE K X (.BinOp a .Add b pos) (tOp (rAddX K) ta tb) (fAdd fa fb) := by
  subst hk
  exact ⟨pe_op op_addX ha.p hb.p, re_add ha.r hb.r⟩
theorem j_sub (ha : JE K X a ta fa) (hb : JE K X b tb fb) : JE K X (.BinOp a .Sub b pos) (tOp (rI0 fun i j => .int (i - j)) ta tb) (fOp (gI cT fun i j => .int (i - j)) fa fb) := ⟨pe_op op_sub ha.p hb.p, re_op (vop_I0 fun _ _ => .int _) ha.r hb.r⟩
theorem j_mul (ha : JE K X a ta fa) (hb : JE K X b tb fb) (hk : X.K = K := by rfl) : JE K X (.BinOp a .Mult b pos) (tOp (rMulX K) ta tb) (fMul fa fb) := by
  subst hk
  exact ⟨pe_op op_mulXX ha.p hb.p, re_mul ha.r hb.r⟩
theorem j_fdiv (ha : JE K X a ta fa) (hb : JE K X b tb fb) : JE K X (.BinOp a .FloorDiv b pos) (tOp (rI CFd fun i j => .int (i.fdiv j)) ta tb) (fOp (gI cFd fun i j => .int (i.fdiv j)) fa fb) := ⟨pe_op op_fdX ha.p hb.p, re_op (vop_I cFd_ok fun _ _ => .int _) ha.r hb.r⟩
def cNz : Int → Int → Bool := fun _ j => decide (j ≠ 0)
theorem j_mod (ha : JE K X a ta fa) (hb : JE K X b tb fb) : JE K X (.BinOp a .Mod b pos) (tOp (rI (fun _ j => j ≠ 0) fun i j => .int (i.fmod j)) ta tb) (fOp (gI cNz fun i j => .int (i.fmod j)) fa fb) := ⟨pe_op op_modN ha.p hb.p, re_op (vop_I (fun _ _ h => of_decide_eq_true h) fun _ _ => .int _) ha.r hb.r⟩
noncomputable def cPow : Int → Int → Bool := fun i j => yes (CPow i j)
theorem cPow_ok (i j : Int) (h : cPow i j = true) : CPow i j := of_yes h
theorem j_pow (ha : JE K X a ta fa) (hb : JE K X b tb fb) : JE K X (.BinOp a .Pow b pos) (tOp (rI CPow fun i j => .int (i ^ j.toNat)) ta tb) (fOp (gI cPow fun i j => .int (i ^ j.toNat)) fa fb) := ⟨pe_op op_pow ha.p hb.p, re_op (vop_I cPow_ok fun _ _ => .int _) ha.r hb.r⟩
theorem j_band (ha : JE K X a ta fa) (hb : JE K X b tb fb) : JE K X (.BinOp a .BitAnd b pos) (tOp (rI0 fun i j => .int (Builtin.bitAnd i j)) ta tb) (fOp (gI cT fun i j => .int (Builtin.bitAnd i j)) fa fb) := ⟨pe_op op_and ha.p hb.p, re_op (vop_I0 fun _ _ => .int _) ha.r hb.r⟩
theorem j_bor (ha : JE K X a ta fa) (hb : JE K X b tb fb) : JE K X (.BinOp a .BitOr b pos) (tOp (rI0 fun i j => .int (Builtin.bitOr i j)) ta tb) (fOp (gI cT fun i j => .int (Builtin.bitOr i j)) fa fb) := ⟨pe_op op_or ha.p hb.p, re_op (vop_I0 fun _ _ => .int _) ha.r hb.r⟩
theorem j_neg (ha : JE K X a ta fa) : JE K X (.UnaryOp .USub a pos) (tUn (rU fun i => .int (-i)) ta) (fUn gNeg fa) := ⟨pe_un un_neg ha.p, re_un vun_neg ha.r⟩
/-! comparisons -/
@[simp] def gCmp (f : Int → Int → Bool) : D → D → Option D := gI cT fun i j => .bool (f i j)
theorem j_lt (ha : JE K X a ta fa) (hb : JE K X b tb fb) : JE K X (.Compare a [.Lt] [b] pos) (tOp (rI0 fun i j => .bl (decide (i < j))) ta tb) (fOp (gCmp fun i j => decide (i < j)) fa fb) := ⟨pe_cmpR op_lt ha.p hb.p (nomark _), re_op (vop_I0 fun _ _ => .bl _) ha.r hb.r⟩
theorem j_le (ha : JE K X a ta fa) (hb : JE K X b tb fb) : JE K X (.Compare a [.LtE] [b] pos) (tOp (rI0 fun i j => .bl (decide (i ≤ j))) ta tb) (fOp (gCmp fun i j => decide (i ≤ j)) fa fb) := ⟨pe_cmpR op_le ha.p hb.p (nomark _), re_op (vop_I0 fun _ _ => .bl _) ha.r hb.r⟩
theorem j_gt (ha : JE K X a ta fa) (hb : JE K X b tb fb) : JE K X (.Compare a [.Gt] [b] pos) (tOp (rI0 fun i j => .bl (decide (j < i))) ta tb) (fOp (gCmp fun i j => decide (j < i)) fa fb) := ⟨pe_cmpR op_gt ha.p hb.p (nomark _), re_op (vop_I0 fun _ _ => .bl _) ha.r hb.r⟩
theorem j_ge (ha : JE K X a ta fa) (hb : JE K X b tb fb) : JE K X (.Compare a [.GtE] [b] pos) (tOp (rI0 fun i j => .bl (decide (j ≤ i))) ta tb) (fOp (gCmp fun i j => decide (j ≤ i)) fa fb) := ⟨pe_cmpR op_ge ha.p hb.p (nomark _), re_op (vop_I0 fun _ _ => .bl _) ha.r hb.r⟩
theorem j_eq (hu : X.A.units + 64 < cLine) (ha : JE K X a ta fa) (hb : JE K X b tb fb) (hk : X.K = K := by rfl) : JE K X (.Compare a [.Eq] [b] pos) (tOp (rEqX K) ta tb) (fOp gEqX fa fb) := by
  subst hk
  exact ⟨pe_cmpR (op_eqX hu) ha.p hb.p (nomark _), re_op vop_eqX ha.r hb.r⟩
theorem j_ne (hu : X.A.units + 64 < cLine) (ha : JE K X a ta fa) (hb : JE K X b tb fb) (hk : X.K = K := by rfl) : JE K X (.Compare a [.NotEq] [b] pos) (tOp (rNeX K) ta tb) (fOp gNeX fa fb) := by
  subst hk
  exact ⟨pe_cmpR (op_neX hu) ha.p hb.p (nomark _), re_op vop_neX ha.r hb.r⟩
theorem k_lt (ha : JE K X a ta fa) (hb : JE K X b tb fb) : JT K X (.Compare a [.Lt] [b] pos) (tTest (tOp (rI0 fun i j => .bl (decide (i < j))) ta tb)) (fBool (fOp (gCmp fun i j => decide (i < j)) fa fb)) := ⟨pt_cmpR op_lt ha.p hb.p (nomark _), rt_bool (re_op (vop_I0 fun _ _ => .bl _) ha.r hb.r)⟩
theorem k_le (ha : JE K X a ta fa) (hb : JE K X b tb fb) : JT K X (.Compare a [.LtE] [b] pos) (tTest (tOp (rI0 fun i j => .bl (decide (i ≤ j))) ta tb)) (fBool (fOp (gCmp fun i j => decide (i ≤ j)) fa fb)) := ⟨pt_cmpR op_le ha.p hb.p (nomark _), rt_bool (re_op (vop_I0 fun _ _ => .bl _) ha.r hb.r)⟩
theorem k_gt (ha : JE K X a ta fa) (hb : JE K X b tb fb) : JT K X (.Compare a [.Gt] [b] pos) (tTest (tOp (rI0 fun i j => .bl (decide (j < i))) ta tb)) (fBool (fOp (gCmp fun i j => decide (j < i)) fa fb)) := ⟨pt_cmpR op_gt ha.p hb.p (nomark _), rt_bool (re_op (vop_I0 fun _ _ => .bl _) ha.r hb.r)⟩
theorem k_ge (ha : JE K X a ta fa) (hb : JE K X b tb fb) : JT K X (.Compare a [.GtE] [b] pos) (tTest (tOp (rI0 fun i j => .bl (decide (j ≤ i))) ta tb)) (fBool (fOp (gCmp fun i j => decide (j ≤ i)) fa fb)) := ⟨pt_cmpR op_ge ha.p hb.p (nomark _), rt_bool (re_op (vop_I0 fun _ _ => .bl _) ha.r hb.r)⟩
theorem k_eq (hu : X.A.units + 64 < cLine) (ha : JE K X a ta fa) (hb : JE K X b tb fb) (hk : X.K = K := by rfl) : JT K X (.Compare a [.Eq] [b] pos) (tTest (tOp (rEqX K) ta tb)) (fBool (fOp gEqX fa fb)) := by
  subst hk
  exact ⟨pt_cmpR (op_eqX hu) ha.p hb.p (nomark _), rt_bool (re_op vop_eqX ha.r hb.r)⟩
theorem k_ne (hu : X.A.units + 64 < cLine) (ha : JE K X a ta fa) (hb : JE K X b tb fb) (hk : X.K = K := by rfl) : JT K X (.Compare a [.NotEq] [b] pos) (tTest (tOp (rNeX K) ta tb)) (fBool (fOp gNeX fa fb)) := by
  subst hk
  exact ⟨pt_cmpR (op_neX hu) ha.p hb.p (nomark _), rt_bool (re_op vop_neX ha.r hb.r)⟩
/-! is None -/
def isNd : D → Bool
  | .none => true
  | _ => false
theorem Dp.isN {K : Fr} {H : Hp} {v : V} {d : D} (h : Dp K H v d) : decide (v = .non) = isNd d := by
  cases h <;> simp [isNd]
def rIsN : R2 := fun x y H Q => y = .non ∧ Q (.bl (decide (x = .non))) H
def rNotN : R2 := fun x y H Q => y = .non ∧ Q (.bl (!decide (x = .non))) H
def gIsN2 (d e : D) : Option D := match e with
  | .none => some (.bool (isNd d))
  | _ => none
def gNotN2 (d e : D) : Option D := match e with
  | .none => some (.bool (!(isNd d)))
  | _ => none
theorem vop_isN {K : Fr} : VOp K rIsN gIsN2 := by
  intro H x y d e z Q hd he hz q
  unfold gIsN2 at hz
  split at hz
  · cases hz
    cases he
    exact ⟨rfl, by rw [Dp.isN hd]; exact q _ (.bl _)⟩
  · cases hz
theorem vop_notN {K : Fr} : VOp K rNotN gNotN2 := by
  intro H x y d e z Q hd he hz q
  unfold gNotN2 at hz
  split at hz
  · cases hz
    cases he
    exact ⟨rfl, by rw [Dp.isN hd]; exact q _ (.bl _)⟩
  · cases hz
theorem j_isN (ha : JE K X a ta fa) (hb : JE K X b tb fb) : JE K X (.Compare a [.Is] [b] pos) (tOp rIsN ta tb) (fOp gIsN2 fa fb) := ⟨pe_cmpR op_isN ha.p hb.p (nomark _), re_op vop_isN ha.r hb.r⟩
theorem j_notN (ha : JE K X a ta fa) (hb : JE K X b tb fb) : JE K X (.Compare a [.IsNot] [b] pos) (tOp rNotN ta tb) (fOp gNotN2 fa fb) := ⟨pe_cmpR op_notN ha.p hb.p (nomark _), re_op vop_notN ha.r hb.r⟩
theorem k_isN (ha : JE K X a ta fa) (hb : JE K X b tb fb) : JT K X (.Compare a [.Is] [b] pos) (tTest (tOp rIsN ta tb)) (fBool (fOp gIsN2 fa fb)) := ⟨pt_cmpR op_isN ha.p hb.p (nomark _), rt_bool (re_op vop_isN ha.r hb.r)⟩
theorem k_notN (ha : JE K X a ta fa) (hb : JE K X b tb fb) : JT K X (.Compare a [.IsNot] [b] pos) (tTest (tOp rNotN ta tb)) (fBool (fOp gNotN2 fa fb)) := ⟨pt_cmpR op_notN ha.p hb.p (nomark _), rt_bool (re_op vop_notN ha.r hb.r)⟩
/-! in, not in, of a list -/
def gIn (d e : D) : Option D := match e with
  | .list ds => if SeqAt.shaped d && SeqAt.shaped (.list ds) then some (.bool (ds.any fun z => PyData.eqv z d)) else none
  | _ => none
def gNotIn (d e : D) : Option D := match e with
  | .list ds => if SeqAt.shaped d && SeqAt.shaped (.list ds) then some (.bool (!ds.any fun z => PyData.eqv z d)) else none
  | _ => none
theorem vop_in {K : Fr} : VOp K (rInD K) gIn := by
  intro H x y d e z Q hd he hz q
  unfold gIn at hz
  split at hz
  · split at hz
    · rename_i hs
      cases hz
      rw [Bool.and_eq_true] at hs
      exact ⟨d, _, hd, he, hs.1, hs.2, q _ (.bl _)⟩
    · cases hz
  · cases hz
theorem vop_notIn {K : Fr} : VOp K (rNotInD K) gNotIn := by
  intro H x y d e z Q hd he hz q
  unfold gNotIn at hz
  split at hz
  · split at hz
    · rename_i hs
      cases hz
      rw [Bool.and_eq_true] at hs
      exact ⟨d, _, hd, he, hs.1, hs.2, q _ (.bl _)⟩
    · cases hz
  · cases hz
theorem j_in (hu : X.A.units + 65 < cLine) (ha : JE K X a ta fa) (hb : JE K X b tb fb) (hm : behindInMarks .In b = false := by rfl) (hk : X.K = K := by rfl) : JE K X (.Compare a [.In] [b] pos) (tOp (rInD K) ta tb) (fOp gIn fa fb) := by
  subst hk
  exact ⟨pe_cmpR (op_inD hu) ha.p hb.p hm, re_op vop_in ha.r hb.r⟩
theorem k_in (hu : X.A.units + 65 < cLine) (ha : JE K X a ta fa) (hb : JE K X b tb fb) (hm : behindInMarks .In b = false := by rfl) (hk : X.K = K := by rfl) : JT K X (.Compare a [.In] [b] pos) (tTest (tOp (rInD K) ta tb)) (fBool (fOp gIn fa fb)) := by
  subst hk
  exact ⟨pt_cmpR (op_inD hu) ha.p hb.p hm, rt_bool (re_op vop_in ha.r hb.r)⟩
theorem k_notIn (hu : X.A.units + 65 < cLine) (ha : JE K X a ta fa) (hb : JE K X b tb fb) (hm : behindInMarks .NotIn b = false := by rfl) (hk : X.K = K := by rfl) : JT K X (.Compare a [.NotIn] [b] pos) (tTest (tOp (rNotInD K) ta tb)) (fBool (fOp gNotIn fa fb)) := by
  subst hk
  exact ⟨pt_cmpR (op_notInD hu) ha.p hb.p hm, rt_bool (re_op vop_notIn ha.r hb.r)⟩
/-! tests, and, or, not, if -/
theorem k_tru (ha : JE K X a ta fa) (he : ∀ whole, isTrue a X.env whole = (do let v ← whole; standAt a.pos; holding [v] (truthy v)) := by intro _; rfl) (hk : X.K = K := by rfl) : JT K X a (tTru K ta) (fTru fa) := by
  subst hk
  exact ⟨pt_truth ha.p he, rt_tru ha.r⟩
theorem w_and1 (ha : JT K X a t ft) : JW K X (.BoolOp .And [a] pos) t ft := ⟨pw_and1 ha.p, ha.r⟩
theorem w_or1 (ha : JT K X a t ft) : JW K X (.BoolOp .Or [a] pos) t ft := ⟨pw_or1 ha.p, ha.r⟩
theorem w_and (ha : JT K X a t ft) (hb : JW K X (.BoolOp .And (b :: es) pos) u fu) : JW K X (.BoolOp .And (a :: b :: es) pos) (tAnd t u) (fAndT ft fu) := ⟨pw_and ha.p hb.p, rt_and ha.r hb.r⟩
theorem w_or (ha : JT K X a t ft) (hb : JW K X (.BoolOp .Or (b :: es) pos) u fu) : JW K X (.BoolOp .Or (a :: b :: es) pos) (tOr t u) (fOrT ft fu) := ⟨pw_or ha.p hb.p, rt_or ha.r hb.r⟩
theorem k_w (h : JW K X a t ft) : JT K X a t ft := ⟨PW.pt h.p, h.r⟩
theorem k_not (ha : JT K X a t ft) : JT K X (.UnaryOp .Not a pos) (tNot t) (fNotT ft) := ⟨pt_not ha.p, rt_not ha.r⟩
theorem j_one {op} (h : JE K X a ta fa) : JE K X (.BoolOp op [a] pos) ta fa := ⟨pe_one h.p, h.r⟩
theorem j_and (ha : JE K X a ta fa) (hb : JE K X (.BoolOp .And (b :: es) pos) tb fb) : JE K X (.BoolOp .And (a :: b :: es) pos) (tAndV ta tb) (fAndV fa fb) := ⟨pe_and ha.p hb.p, re_and ha.r hb.r⟩
theorem j_or (ha : JE K X a ta fa) (hb : JE K X (.BoolOp .Or (b :: es) pos) tb fb) : JE K X (.BoolOp .Or (a :: b :: es) pos) (tOrV ta tb) (fOrV fa fb) := ⟨pe_or ha.p hb.p, re_or ha.r hb.r⟩
theorem j_not (ha : JE K X a ta fa) : JE K X (.UnaryOp .Not a pos) (tNotV ta) (fNotV fa) := ⟨pe_not ha.p, re_not ha.r⟩
theorem j_if (hc : JT K X c t ft) (ha : JE K X a ta fa) (hb : JE K X b tb fb) : JE K X (.IfExp c a b pos) (tIf t ta tb) (fIf ft fa fb) := ⟨pe_ifExp hc.p ha.p hb.p, re_if hc.r ha.r hb.r⟩
/-! arguments, displays -/
theorem a_nil : JA K X [] tNil fNil := ⟨pa_nil, ra_nil⟩
theorem a_cons (ha : JE K X a ta fa) (hr : JA K X es tl fl) (hs : starEach (a :: es) X.env = (false, eval a X.env) :: starEach es X.env := by rfl) : JA K X (a :: es) (tCons ta tl) (fCons fa fl) := ⟨pa_cons ha.p hr.p hs, ra_cons ha.r hr.r⟩
theorem j_lst (h : JA K X es tl fl) : JE K X (.List es pos) (tLst tl) (fLst fl) := ⟨pe_lst h.p, re_lst h.r⟩
theorem j_tup {x1} (h : JA K X es tl fl) : JE K X (.Tuple es x1 pos) (tTup tl) (fTup fl) := ⟨pe_tup h.p, re_tup h.r⟩
theorem j_ix (ha : JE K X a ta fa) (hb : JE K X b tb fb) (hs : PlainIx b := by exact fun _ _ => rfl) (hk : X.K = K := by rfl) : JE K X (.Subscript a b pos) (tOp (rIxX K) ta tb) (fIx fa fb) := by
  subst hk
  exact ⟨pe_ix ix_X ha.p hb.p hs, re_ix ha.r hb.r⟩
variable {lo hi : Option Expr} {to1 to2 : TO} {fo1 fo2 : DS → Option (Option Int × DS)} {p2 : Pos}
theorem o_none : JO K X none tNoPart fNoPart := ⟨po_none, ro_none⟩
theorem o_some (h : JE K X a ta fa) : JO K X (some a) (tPart ta) (fPart fa) := ⟨po_some h.p, ro_some h.r⟩
theorem j_sl (ha : JE K X a ta fa) (hl : JO K X lo to1 fo1) (hh : JO K X hi to2 fo2) (hk : X.K = K := by rfl) : JE K X (.Subscript a (.Slice lo hi none p2) pos) (tSl (rSlL K) ta to1 to2) (fSl fa fo1 fo2) := by
  subst hk
  exact ⟨pe_slice sl_list ha.p hl.p hh.p, re_sl ha.r hl.r hh.r⟩
/-! built-ins -/
theorem j_len (hm : X.mg "len" = none) (h : JA K X (e :: es) tl fl) (hg : Gl X "len" := by rfl) (hdb : (("len" : Str) == ("__debug__" : Str)) = false := by decide) (he : starEach (e :: es) X.env = (false, eval e X.env) :: starEach es X.env := by rfl) (hpl : (backTo pos (starEach es X.env)).any (·.1) = false := by rfl) (hk : X.K = K := by rfl) :
    JE K X (.Call (.Name "len" p) (e :: es) [] pos) (tCB (fun xs H Q => ∃ p ys, xs = [.ref p] ∧ (SqL K H p ys ∨ SqT K H p ys) ∧ Q (.int ys.length) H) tl) (fCa gLen fl) := by
  subst hk
  exact ⟨pe_callB call_len_seq hg hm PySem.boot_len h.p (by decide) hdb he hpl, re_cb vca_len h.r⟩
theorem j_abs (hm : X.mg "abs" = none) (h : JA K X (e :: es) tl fl) (hg : Gl X "abs" := by rfl) (hdb : (("abs" : Str) == ("__debug__" : Str)) = false := by decide) (he : starEach (e :: es) X.env = (false, eval e X.env) :: starEach es X.env := by rfl) (hpl : (backTo pos (starEach es X.env)).any (·.1) = false := by rfl) :
    JE K X (.Call (.Name "abs" p) (e :: es) [] pos) (tCB (fun xs H Q => ∃ i, xs = [.int i] ∧ Q (.int (if i < 0 then -i else i)) H) tl) (fCa (g1I fun i => .int (if i < 0 then -i else i)) fl) := ⟨pe_callB call_abs hg hm (by decide +kernel) h.p (by decide) hdb he hpl, re_cb vca_abs h.r⟩
theorem j_sum (hc : X.calm = true) (hm : X.mg "sum" = none) (h : JA K X (e :: es) tl fl) (hg : Gl X "sum" := by rfl) (hdb : (("sum" : Str) == ("__debug__" : Str)) = false := by decide) (he : starEach (e :: es) X.env = (false, eval e X.env) :: starEach es X.env := by rfl) (hpl : (backTo pos (starEach es X.env)).any (·.1) = false := by rfl) (hk : X.K = K := by rfl) :
    JE K X (.Call (.Name "sum" p) (e :: es) [] pos) (tCB (rSum K) tl) (fCa gSum fl) := by
  subst hk
  exact ⟨pe_callB (cr_sum hc) hg hm (by decide +kernel) h.p (by decide) hdb he hpl, re_cb vca_sum h.r⟩
theorem j_all (hc : X.calm = true) (hm : X.mg "all" = none) (h : JA K X (e :: es) tl fl) (hg : Gl X "all" := by rfl) (hdb : (("all" : Str) == ("__debug__" : Str)) = false := by decide) (he : starEach (e :: es) X.env = (false, eval e X.env) :: starEach es X.env := by rfl) (hpl : (backTo pos (starEach es X.env)).any (·.1) = false := by rfl) (hk : X.K = K := by rfl) :
    JE K X (.Call (.Name "all" p) (e :: es) [] pos) (tCB (rAll K) tl) (fCa gAll fl) := by
  subst hk
  exact ⟨pe_callB (cr_all hc) hg hm (by decide +kernel) h.p (by decide) hdb he hpl, re_cb vca_all h.r⟩
theorem j_any (hc : X.calm = true) (hm : X.mg "any" = none) (h : JA K X (e :: es) tl fl) (hg : Gl X "any" := by rfl) (hdb : (("any" : Str) == ("__debug__" : Str)) = false := by decide) (he : starEach (e :: es) X.env = (false, eval e X.env) :: starEach es X.env := by rfl) (hpl : (backTo pos (starEach es X.env)).any (·.1) = false := by rfl) (hk : X.K = K := by rfl) :
    JE K X (.Call (.Name "any" p) (e :: es) [] pos) (tCB (rAnyX K) tl) (fCa gAny fl) := by
  subst hk
  exact ⟨pe_callB (cr_anyX hc) hg hm (by decide +kernel) h.p (by decide) hdb he hpl, re_cb vca_any h.r⟩
theorem j_repr (hA : X.A.guards = some []) (hu : X.A.units + 64 < cLine) (hm : X.mg "repr" = none) (h : JA K X (e :: es) tl fl) (hg : Gl X "repr" := by rfl) (hdb : (("repr" : Str) == ("__debug__" : Str)) = false := by decide) (he : starEach (e :: es) X.env = (false, eval e X.env) :: starEach es X.env := by rfl) (hpl : (backTo pos (starEach es X.env)).any (·.1) = false := by rfl) (hk : X.K = K := by rfl) :
    JE K X (.Call (.Name "repr" p) (e :: es) [] pos) (tCB (fun xs H Q => ∃ v d, xs = [v] ∧ Dp K H v d ∧ (∃ a, v = .ref a) ∧ d.showable = true ∧ d.hasDict = false ∧ d.depth ≤ 60 ∧ d.shown.length ≤ sizeLine ∧ Q (.str d.shown) H) tl) (fCa gRepr fl) := by
  subst hk
  exact ⟨pe_callB (call_reprX hA hu) hg hm (by decide +kernel) h.p (by decide) hdb he hpl, re_cb vca_repr h.r⟩
theorem j_intc (hm : X.mg "int" = none) (h : JA K X (e :: es) tl fl) (hg : Gl X "int" := by rfl) (hdb : (("int" : Str) == ("__debug__" : Str)) = false := by decide) (he : starEach (e :: es) X.env = (false, eval e X.env) :: starEach es X.env := by rfl) (hpl : (backTo pos (starEach es X.env)).any (·.1) = false := by rfl) :
    JE K X (.Call (.Name "int" p) (e :: es) [] pos) (tCB (fun xs H Q => (∃ i, xs = [.int i] ∧ Q (.int i) H) ∨ ∃ k, xs = [.bl k] ∧ Q (.int (if k then 1 else 0)) H) tl) (fCa gInt fl) := ⟨pe_callTy call_int1 hg hm (by decide +kernel) h.p (by decide) hdb he hpl, re_cb vca_int h.r⟩
theorem j_list (hm : X.mg "list" = none) (h : JA K X (e :: es) tl fl) (hg : Gl X "list" := by rfl) (hdb : (("list" : Str) == ("__debug__" : Str)) = false := by decide) (he : starEach (e :: es) X.env = (false, eval e X.env) :: starEach es X.env := by rfl) (hpl : (backTo pos (starEach es X.env)).any (·.1) = false := by rfl) (hk : X.K = K := by rfl) :
    JE K X (.Call (.Name "list" p) (e :: es) [] pos) (tCB (rListOf K) tl) (fListOf fl) := by
  subst hk
  exact ⟨pe_callTy call_list_of hg hm (by decide +kernel) h.p (by decide) hdb he hpl, re_listOf h.r⟩
theorem j_gcd {x : Str} (hm : X.mg x = some (.builtin "math.gcd")) (h : JA K X (e :: es) tl fl) (hg : Gl X x := by rfl) (hdb : (x == ("__debug__" : Str)) = false := by decide) (he : starEach (e :: es) X.env = (false, eval e X.env) :: starEach es X.env := by rfl) (hpl : (backTo pos (starEach es X.env)).any (·.1) = false := by rfl) :
    JE K X (.Call (.Name x p) (e :: es) [] pos) (tCB rGcd tl) (fCa gGcd fl) := ⟨pe_callBfun cr_gcd hg hm h.p hdb he hpl, re_cb vca_gcd h.r⟩
theorem j_isi {x : Str} {n : String} {p1 : Pos} (hm : X.mg "isinstance" = none) (hx : X.mg x = none) (ha : JE K X a ta fa) (hv : bootBuiltins x = some (.type n) := by decide +kernel) (hg : Gl X "isinstance" := by rfl) (hgx : Gl X x := by rfl) (hn : x ≠ "__name__" := by decide) (hd : (x == ("__debug__" : Str)) = false := by decide)
    (hdb : (("isinstance" : Str) == ("__debug__" : Str)) = false := by decide) (he : starEach [a, .Name x p1] X.env = (false, eval a X.env) :: starEach [.Name x p1] X.env := by rfl) (he2 : starEach [.Name x p1] X.env = (false, eval (.Name x p1) X.env) :: starEach [] X.env := by rfl) (hpl : (backTo pos (starEach [.Name x p1] X.env)).any (·.1) = false := by rfl) (hk : X.K = K := by rfl) :
    JE K X (.Call (.Name "isinstance" p) [a, .Name x p1] [] pos) (tCB (rIsi K) (tCons ta (tCons (tC (.ty n)) tNil))) (fIsi n fa) := by
  subst hk
  exact ⟨pe_callB call_isi hg hm (by decide +kernel) (pa_cons ha.p (pa_cons (pe_bltn hgx hx hv rfl hn hd) pa_nil he2) he) (by decide) hdb he hpl, re_isi ha.r⟩
theorem j_bits {apos : Pos} (ha : JE K X a ta fa) (hbase : attributeBase a "bit_length" X.env (eval a X.env) = eval a X.env := by rfl) (hline : (apos.endLine == pos.line) = true := by rfl) : JE K X (.Call (.Attribute a "bit_length" apos) [] [] pos) (tBits ta) (fUn gBits fa) := ⟨pe_bits ha.p hbase hline, re_bits ha.r⟩
/-! comprehensions -/
variable {tg iter elt : Expr} {wi : TI} {fi : DS → Option (List D × DS)} {g : TG} {fg : D → DS → Option DS} {T : List Nat} {ifs : List Expr} {scope : Scope} {own : List (Str × Nat)}
theorem s_nil : JTs K X [] tYes fYes := ⟨pts_nil, rt_yes⟩
theorem s_one (h : JT K X c t ft) : JTs K X [c] t ft := ⟨pts_one h.p, h.r⟩
theorem j_lc (hc : X.calm = true) (hN : X.N.Nodup) (hi : JI K X tg iter wi fi) (ok : BlkOk X.N X.env.scope scope own) (hg : ∀ (s : Shared) (H : Hp) (C : Addr) (cl : List (Str × Addr)) (fp : List Addr), JG K (X.blk s H scope (compEnvC scope cl C X.env) fp) T tg g fg)
    (ht : ∀ (s : Shared) (H : Hp) (C : Addr) (cl : List (Str × Addr)) (fp : List Addr), JTs K (X.blk s H scope (compEnvC scope cl C X.env) fp) ifs t ft) (he : ∀ (s : Shared) (H : Hp) (C : Addr) (cl : List (Str × Addr)) (fp : List Addr), JE K (X.blk s H scope (compEnvC scope cl C X.env) fp) elt te fe)
    (hT : ∀ i ∈ T, i ∈ own.map (·.2)) (s0 : Shared) (H0 : Hp) (hs : ∀ x, foldedSetIterable iter X.env x = pure x := by intro _; rfl) :
    JE K X (.ListComp elt [⟨tg, iter, ifs, 0⟩] scope pos) (tLc wi g t te (own.map (·.2))) (fLc fi fg ft fe (own.map (·.2))) :=
  ⟨pe_lc hc hN hi.p ok (fun s H C cl fp => (hg s H C cl fp).p) (fun s H C cl fp => (ht s H C cl fp).p) (fun s H C cl fp => (he s H C cl fp).p) hs,
    re_lc hT hi.r (hg s0 H0 0 [] []).r (ht s0 H0 0 [] []).r (he s0 H0 0 [] []).r⟩
theorem j_lcM (hc : X.calm = true) (hN : X.N.Nodup) (hi : JI K X tg iter wi fi) (ok : BlkOk X.N X.env.scope scope own) (hg : ∀ (s : Shared) (H : Hp) (C : Addr) (cl : List (Str × Addr)) (fp : List Addr), JG K (X.blk s H scope (compEnvC scope cl C X.env) fp) T tg g fg)
    (ht : ∀ (s : Shared) (H : Hp) (C : Addr) (cl : List (Str × Addr)) (fp : List Addr), JTs K (X.blk s H scope (compEnvC scope cl C X.env) fp) ifs t ft) (he : ∀ (s : Shared) (H : Hp) (C : Addr) (cl : List (Str × Addr)) (fp : List Addr), JE K (X.blk s H scope (compEnvC scope cl C X.env) fp) elt te fe)
    (hT : ∀ i ∈ T, i ∈ own.map (·.2)) (s0 : Shared) (H0 : Hp) (hs : ∀ x, foldedSetIterable iter X.env x = pure x := by intro _; rfl) :
    JE K X (.ListComp elt [⟨tg, iter, ifs, 0⟩] scope pos) (tLc wi g t te (own.map (·.2))) (fLcM fi fg ft fe (own.map (·.2))) :=
  ⟨pe_lc hc hN hi.p ok (fun s H C cl fp => (hg s H C cl fp).p) (fun s H C cl fp => (ht s H C cl fp).p) (fun s H C cl fp => (he s H C cl fp).p) hs,
    re_lcM hT hi.r (hg s0 H0 0 [] []).r (ht s0 H0 0 [] []).r (he s0 H0 0 [] []).r⟩
end
end Fx
set_option Elab.async false
set_option linter.all false
set_option maxRecDepth 100000
namespace Fx
open PySem PySem.Spec L2
section
variable {K : Fr} {X : Cx} {a b c e iter tg : Expr} {es : List Expr} {ta tb tc te : TE} {t u : TT} {tl : TA} {fa fb fc fe : DS → Option (RV × DS)} {ft fu : DS → Option (Bool × DS)} {fl : DS → Option (List RV × DS)} {pos p : Pos}
  {st : Stmt} {sts rest : List Stmt} {ts us : TS} {fs fr : DS → Option Out} {wi : TI} {fi : DS → Option (List D × DS)} {g : TG} {gs : TGs} {fg : D → DS → Option DS} {fgs : List D → DS → Option DS} {T T' : List Nat}
/-! statements -/
theorem b_nil : JB K X [] [] tNext fNext := ⟨pss_nil, rs_next⟩
theorem b_one (h : JS K X T st ts fs) : JB K X T [st] ts fs := ⟨pss_one h.p, h.r⟩
theorem b_cons (h : JS K X T st ts fs) (k : JB K X T' rest us fr) : JB K X (T ++ T') (st :: rest) (tSeq ts us) (fSeq fs fr) := ⟨pss_cons h.p k.p, rs_seq h.r k.r⟩
theorem s_pass : JS K X [] (.Pass pos) tNext fNext := ⟨ps_pass, rs_next⟩
theorem s_break : JS K X [] (.Break pos) tBreak fBreak := ⟨ps_break, rs_break⟩
theorem s_continue : JS K X [] (.Continue pos) tCont fCont := ⟨ps_continue, rs_cont⟩
theorem s_expr (h : JE K X e te fe) (hs : swapsWith e none pos.line X.env = pure false := by rfl) : JS K X [] (.Expr e pos) (tDrop te) (fExpr fe) := ⟨ps_expr h.p hs, rs_expr h.r⟩
theorem s_ret (h : JE K X e te fe) : JS K X [] (.Return (some e) pos) (tRet te) (fRet fe) := ⟨ps_ret h.p, rs_ret h.r⟩
theorem s_retN : JS K X [] (.Return none pos) tRetN fRetN := ⟨ps_retN, rs_retN⟩
theorem s_if (hc : JT K X c t ft) (ha : JB K X T sts ts fs) (hb : JB K X T' rest us fr) : JS K X (T ++ T') (.If c sts rest pos) (tIfS t ts us) (fIfS ft fs fr) := ⟨ps_if hc.p ha.p hb.p, rs_if hc.r ha.r hb.r⟩
theorem s_set (i : Nat) {x : Str} {pos' : Pos} (hN : X.N.Nodup) (he : JE K X e te fe) (hi : X.N[i]? = some x := by rfl) (hx : Loc X.env.scope x := by first | exact Or.inl rfl | exact Or.inr rfl) (hs : swapsWith e (some (.Name x pos')) pos.line X.env = pure false := by rfl) (hf : X.fn x = true ∨ X.env.scope.names.lookup x = some .local := by first | exact .inl rfl | exact .inr rfl | assumption) :
    JS K X [i] (.Assign [.Name x pos'] e pos) (tAsg te (gName i)) (fSet i fe) := ⟨ps_set hN hi hx he.p hs hf, rs_set he.r⟩
theorem s_asg (he : JE K X e te fe) (hg : JG K X T tg g fg) (hs : swapsWithSole [tg] e pos.line X.env = pure false := by rfl) (hw : swappedStores [tg] e X.env = pure none := by rfl)
    (h1 : (assignEach [tg] X.env).map (·.2) = [assign tg X.env] := by rfl) : JS K X T (.Assign [tg] e pos) (tAsg te g) (fAsg fg fe) := ⟨ps_asg he.p hg.p hs hw h1, rs_asg he.r hg.r⟩
theorem s_for (hc : X.calm = true) (hi : JI K X tg iter wi fi) (hg : JG K X T tg g fg) (hb : JB K X T' sts ts fs) (hp : PassesOwn (model X.prog X.w) X.A X.env X.xe := by exact PassesOwn.never)
    (hs : ∀ x, foldedSetIterable iter X.env x = pure x := by intro _; rfl) : JS K X (T ++ T') (.For tg iter sts [] pos) (tFor wi g ts) (fFor fi fg fs) := ⟨ps_for hp hc hi.p hg.p hb.p hs, rs_for hi.r hg.r hb.r⟩
theorem s_app (i : Nat) {x : Str} {p1 apos cpos : Pos} (he : JE K X e te fe) (hN : X.N[i]? = some x := by rfl) (hv : Vis X.env.scope x := by first | exact Or.inl rfl | exact Or.inr (Or.inl rfl) | exact Or.inr (Or.inr rfl)) (hd : (x == ("__debug__" : Str)) = false := by decide) (hcd : (x == ("__classdict__" : Str)) = false := by decide)
    (hse : starEach [e] X.env = (false, eval e X.env) :: starEach [] X.env := by rfl)
    (hbase : attributeBase (.Name x p1) "append" X.env (eval (.Name x p1) X.env) = eval (.Name x p1) X.env := by rfl)
    (hfew : ((backTo cpos (starEach [e] X.env)).all (fun x => !x.1) && (backToKw cpos (keywordEach [] X.env)).all (fun x => x.1.isSome)
      && decide ([e].length + ([] : List Keyword).length + (if ([] : List Keyword).isEmpty then 0 else 1) < 30)) = true := by rfl)
    (hline : (apos.endLine == cpos.line) = true := by rfl) (hplain : (backTo cpos (starEach [] X.env)).any (·.1) = false := by rfl)
    (hs : swapsWith (.Call (.Attribute (.Name x p1) "append" apos) [e] [] cpos) none pos.line X.env = pure false := by rfl) (hk : X.K = K := by rfl) :
    JS K X [] (.Expr (.Call (.Attribute (.Name x p1) "append" apos) [e] [] cpos) pos) (tDrop (tBM K "list" rAppend (tVar i) (tCons te tNil))) (fApp i fe) := by
  subst hk
  exact ⟨ps_expr (pe_bm PySem.F.plainAttrs_list PySem.F.slot_list_append PySem.F.type_list_append mt_append (pe_var hN hv hd hcd) (pa_cons he.p pa_nil hse) hbase hfew hline hse hplain) hs, rs_app he.r⟩
theorem s_setIx (i : Nat) {x : Str} {p1 p2 : Pos} {k : Expr} {tk : TE} {fk : DS → Option (RV × DS)} (he : JE K X e te fe) (hk : JE K X k tk fk) (hN : X.N[i]? = some x := by rfl) (hv : Vis X.env.scope x := by first | exact Or.inl rfl | exact Or.inr (Or.inl rfl) | exact Or.inr (Or.inr rfl)) (hd : (x == ("__debug__" : Str)) = false := by decide) (hcd : (x == ("__classdict__" : Str)) = false := by decide)
    (ha : ∀ v, assign (.Subscript (.Name x p1) k p2) X.env v = (do
      let ov ← holding [v] (eval (.Name x p1) X.env)
      let iv ← holding [v, ov] (eval k X.env)
      standAt p2
      holding [v, ov, iv] (setItem ov iv v)
      release [v, ov, iv] []) := by intro _; rfl)
    (hs : swapsWithSole [.Subscript (.Name x p1) k p2] e pos.line X.env = pure false := by rfl) (hw : swappedStores [.Subscript (.Name x p1) k p2] e X.env = pure none := by rfl)
    (h1 : (assignEach [.Subscript (.Name x p1) k p2] X.env).map (·.2) = [assign (.Subscript (.Name x p1) k p2) X.env] := by rfl) :
    JS K X [] (.Assign [.Subscript (.Name x p1) k p2] e pos) (tAsg te (gSub (tVar i) tk rSetL)) (fSetIx i fe fk) :=
  ⟨ps_asg he.p (pg_sub (pe_var hN hv hd hcd) hk.p set_list ha) hs hw h1, rs_setIx he.r hk.r⟩
theorem s_augI (i : Nat) {x : Str} {pos' : Pos} {op : Operator} {f : Int → Int → Int} (hN : X.N.Nodup) (ho : PIp X op (ipI f)) (he : JE K X e te fe) (hi : X.N[i]? = some x := by rfl) (hx : Loc X.env.scope x := by first | exact Or.inl rfl | exact Or.inr rfl) (hf : X.fn x = true ∨ X.env.scope.names.lookup x = some .local := by first | exact .inl rfl | exact .inr rfl | assumption) :
    JS K X [i] (.AugAssign (.Name x pos') op e pos) (tAug i te (ipI f)) (fAug i f fe) := ⟨ps_aug hN hi hx he.p ho hf, rs_aug he.r⟩
theorem s_setLc (i : Nat) {y : Str} {py spos : Pos} {elt : Expr} {ifs : List Expr} {scope : Scope} {own : List (Str × Nat)} (hc : X.calm = true) (hN : X.N.Nodup) (hsw : swapsWith (.ListComp elt [⟨tg, iter, ifs, 0⟩] scope pos) (some (.Name y py)) spos.line X.env = pure true) (hi : JI K X tg iter wi fi) (ok : BlkOk X.N X.env.scope scope own) (hg : ∀ (s : Shared) (H : Hp) (C : Addr) (cl : List (Str × Addr)) (fp : List Addr), JG K (X.blk s H scope (compEnvC scope cl C X.env) fp) T tg g fg)
    (ht : ∀ (s : Shared) (H : Hp) (C : Addr) (cl : List (Str × Addr)) (fp : List Addr), JTs K (X.blk s H scope (compEnvC scope cl C X.env) fp) ifs t ft) (he : ∀ (s : Shared) (H : Hp) (C : Addr) (cl : List (Str × Addr)) (fp : List Addr), JE K (X.blk s H scope (compEnvC scope cl C X.env) fp) elt te fe)
    (hT : ∀ i ∈ T, i ∈ own.map (·.2)) (s0 : Shared) (H0 : Hp) (hy : X.N[i]? = some y := by rfl) (hyl : X.env.scope.names.lookup y = some .local := by rfl) (hs : ∀ x, foldedSetIterable iter X.env x = pure x := by intro _; rfl) :
    JS K X [i] (.Assign [.Name y py] (.ListComp elt [⟨tg, iter, ifs, 0⟩] scope pos) spos) (tAsg (tLc wi g t te (own.map (·.2))) (gName i)) (fSet i (fLc fi fg ft fe (own.map (·.2)))) :=
  ⟨ps_setLc hc hN hy hyl hsw hi.p ok (fun s H C cl fp => (hg s H C cl fp).p) (fun s H C cl fp => (ht s H C cl fp).p) (fun s H C cl fp => (he s H C cl fp).p) hs,
    rs_set (re_lc hT hi.r (hg s0 H0 0 [] []).r (ht s0 H0 0 [] []).r (he s0 H0 0 [] []).r)⟩
theorem s_setLcM (i : Nat) {y : Str} {py spos : Pos} {elt : Expr} {ifs : List Expr} {scope : Scope} {own : List (Str × Nat)} (hc : X.calm = true) (hN : X.N.Nodup) (hsw : swapsWith (.ListComp elt [⟨tg, iter, ifs, 0⟩] scope pos) (some (.Name y py)) spos.line X.env = pure true) (hi : JI K X tg iter wi fi) (ok : BlkOk X.N X.env.scope scope own) (hg : ∀ (s : Shared) (H : Hp) (C : Addr) (cl : List (Str × Addr)) (fp : List Addr), JG K (X.blk s H scope (compEnvC scope cl C X.env) fp) T tg g fg)
    (ht : ∀ (s : Shared) (H : Hp) (C : Addr) (cl : List (Str × Addr)) (fp : List Addr), JTs K (X.blk s H scope (compEnvC scope cl C X.env) fp) ifs t ft) (he : ∀ (s : Shared) (H : Hp) (C : Addr) (cl : List (Str × Addr)) (fp : List Addr), JE K (X.blk s H scope (compEnvC scope cl C X.env) fp) elt te fe)
    (hT : ∀ i ∈ T, i ∈ own.map (·.2)) (s0 : Shared) (H0 : Hp) (hy : X.N[i]? = some y := by rfl) (hyl : X.env.scope.names.lookup y = some .local := by rfl) (hs : ∀ x, foldedSetIterable iter X.env x = pure x := by intro _; rfl) :
    JS K X [i] (.Assign [.Name y py] (.ListComp elt [⟨tg, iter, ifs, 0⟩] scope pos) spos) (tAsg (tLc wi g t te (own.map (·.2))) (gName i)) (fSet i (fLcM fi fg ft fe (own.map (·.2)))) :=
  ⟨ps_setLc hc hN hy hyl hsw hi.p ok (fun s H C cl fp => (hg s H C cl fp).p) (fun s H C cl fp => (ht s H C cl fp).p) (fun s H C cl fp => (he s H C cl fp).p) hs,
    rs_set (re_lcM hT hi.r (hg s0 H0 0 [] []).r (ht s0 H0 0 [] []).r (he s0 H0 0 [] []).r)⟩
/-! targets -/
theorem g_name (i : Nat) {x : Str} (hN : X.N.Nodup) (hi : X.N[i]? = some x := by rfl) (hx : Loc X.env.scope x := by first | exact Or.inl rfl | exact Or.inr rfl) (hf : X.fn x = true ∨ X.env.scope.names.lookup x = some .local := by first | exact .inl rfl | exact .inr rfl | assumption) : JG K X [i] (.Name x pos) (gName i) (fgName i) := ⟨pg_name hN hi hx hf, rg_name⟩
theorem gs_nil : JGs K X [] [] gNil fgNil := ⟨pgs_nil, rgs_nil⟩
theorem gs_cons {T2 : List Nat} (h1 : JG K X T e g fg) (h2 : JGs K X T' es gs fgs) (hs : (assignEach (e :: es) X.env).map (·.2) = assign e X.env :: (assignEach es X.env).map (·.2) := by rfl) (hT : T ++ T' = T2 := by rfl) : JGs K X T2 (e :: es) (gCons g gs) (fgCons fg fgs) := ⟨pgs_cons h1.p h2.p hs, by rw [← hT]; exact rgs_cons h1.r h2.r⟩
theorem g_tup {k n : Nat} (hc : X.calm = true) (h : JGs K X T es gs fgs) (hn : (assignEach es X.env).length = n := by rfl) (hst : (assignEach es X.env).findIdx? (·.1) = none := by rfl) (hk : X.K = K := by rfl) : JG K X T (.Tuple es k pos) (gTup K n gs) (fgTup n fgs) := by
  subst hk
  exact ⟨pg_tup hc h.p hn hst, rg_tup h.r⟩
/-! what is walked -/
theorem i_list (h : JE K X e te fe) (hk : X.K = K := by rfl) : JI K X tg e (iList K te) (fiList fe) := by
  subst hk
  exact ⟨pi_list h.p, ri_list h.r⟩
theorem i_tup (h : JE K X e te fe) (hk : X.K = K := by rfl) : JI K X tg e (iTup K te) (fiTup fe) := by
  subst hk
  exact ⟨pi_tup h.p, ri_tup h.r⟩
theorem i_r1 (hm : X.mg "range" = none) (h : JA K X [a] tl fl) (hg : Gl X "range" := by rfl) (hs : starEach [a] X.env = [(false, eval a X.env)] := by rfl) : JI K X tg (.Call (.Name "range" p) [a] [] pos) (iRng1 tl) (fiR1 fl) := ⟨pi_range1 hg hm h.p hs, ri_r1 h.r⟩
theorem i_r2 (hm : X.mg "range" = none) (h : JA K X [a, b] tl fl) (hg : Gl X "range" := by rfl) (hs : starEach [a, b] X.env = [(false, eval a X.env), (false, eval b X.env)] := by rfl) (hs2 : starEach [b] X.env = [(false, eval b X.env)] := by rfl) : JI K X tg (.Call (.Name "range" p) [a, b] [] pos) (iRng2 tl) (fiR2 fl) := ⟨pi_range2 hg hm h.p hs hs2, ri_r2 h.r⟩
theorem i_r3 (hm : X.mg "range" = none) (h : JA K X [a, b, c] tl fl) (hg : Gl X "range" := by rfl) (hs : starEach [a, b, c] X.env = (false, eval a X.env) :: starEach [b, c] X.env := by rfl) (hpl : (backTo pos (starEach [b, c] X.env)).any (·.1) = false := by rfl) : JI K X tg (.Call (.Name "range" p) [a, b, c] [] pos) (iRng3 tl) (fiR3 fl) := ⟨pi_range3 hg hm h.p hs hpl, ri_r3 h.r⟩
theorem i_zip {elts : List Expr} {kk : Nat} {tpos : Pos} (hm : X.mg "zip" = none) (h : JA K X [a, b] tl fl) (hg : Gl X "zip" := by rfl) (hs : starEach [a, b] X.env = (false, eval a X.env) :: starEach [b] X.env := by rfl) (hpl : (backTo pos (starEach [b] X.env)).any (·.1) = false := by rfl) (hk : X.K = K := by rfl) : JI K X (.Tuple elts kk tpos) (.Call (.Name "zip" p) [a, b] [] pos) (iZip K tl) (fiZip fl) := by
  subst hk
  exact ⟨pi_zip hg hm h.p hs hpl, ri_zip h.r⟩
theorem i_enum {elts : List Expr} {kk : Nat} {tpos : Pos} (hm : X.mg "enumerate" = none) (h : JA K X [a] tl fl) (hg : Gl X "enumerate" := by rfl) (hs : starEach [a] X.env = [(false, eval a X.env)] := by rfl) (hk : X.K = K := by rfl) : JI K X (.Tuple elts kk tpos) (.Call (.Name "enumerate" p) [a] [] pos) (iEnum K tl) (fi1 enumD fl) := by
  subst hk
  exact ⟨pi_enum hg hm h.p hs, ri_enum h.r⟩
theorem i_rev (hm : X.mg "reversed" = none) (h : JA K X [a] tl fl) (hg : Gl X "reversed" := by rfl) (hs : starEach [a] X.env = [(false, eval a X.env)] := by rfl) (hk : X.K = K := by rfl) : JI K X tg (.Call (.Name "reversed" p) [a] [] pos) (iRev K tl) (fi1 List.reverse fl) := by
  subst hk
  exact ⟨pi_reversed hg hm h.p hs, ri_rev h.r⟩
end
/-! ### defs -/
/-- what the text's name x stands for: a def that computes g -/
def Dk (P : Program) (w : World) (K : Fr) (mg : Str → Option Value) (base : Heap) (k : Nat) (x : Str) (n : Nat) (g : List D → Option OV) : Prop :=
  ∃ (f : Addr) (fd : FuncData) (ps : List Str), FnOk P w K mg base CX0 k f fd ps (spF K n g) ∧ mg x = some (.ref f) ∧ PySem.W.keepIn K (.ref f) = true ∧ Binds K fd ps []
theorem Dk.le {P : Program} {w : World} {K : Fr} {mg : Str → Option Value} {base : Heap} {k k' : Nat} {x : Str} {n : Nat} {g : List D → Option OV} (h : Dk P w K mg base k x n g) (hk : k ≤ k') : Dk P w K mg base k' x n g :=
  let ⟨f, fd, ps, h1, h2⟩ := h; ⟨f, fd, ps, h1.mono hk, h2⟩
section
variable {K : Fr} {X : Cx} {e : Expr} {es : List Expr} {tl : TA} {fl : DS → Option (List RV × DS)} {pos p : Pos} {k : Nat} {x : Str} {n : Nat} {g : List D → Option OV}
theorem j_call (d : Dk X.prog X.w X.K X.mg X.base k x n g) (hr : Room k X.A) (h : JA K X (e :: es) tl fl) (hg : Gl X x := by rfl) (hdb : (x == ("__debug__" : Str)) = false := by decide) (he : starEach (e :: es) X.env = (false, eval e X.env) :: starEach es X.env := by rfl) (hpl : (backTo pos (starEach es X.env)).any (·.1) = false := by rfl) (hk : X.K = K := by rfl) :
    JE K X (.Call (.Name x p) (e :: es) [] pos) (tCall (spF K n g) [] E0 tl) (fCall n g fl) := by
  subst hk
  obtain ⟨f, fd, ps, F, hm, hk, hb⟩ := d
  exact ⟨pe_call F hr hg hm hk hb .nil pass0 h.p hdb he hpl, re_call h.r⟩
theorem j_call0 (d : Dk X.prog X.w X.K X.mg X.base k x n g) (hr : Room k X.A) (hg : Gl X x := by rfl) (hdb : (x == ("__debug__" : Str)) = false := by decide) (hk : X.K = K := by rfl) :
    JE K X (.Call (.Name x p) [] [] pos) (tCall (spF K n g) [] E0 tNil) (fCall n g fNil) := by
  subst hk
  obtain ⟨f, fd, ps, F, hm, hk, hb⟩ := d
  exact ⟨pe_call0 F hr hg hm hk hb .nil pass0 hdb, re_call ra_nil⟩
end
/-- the slots at the start -/
@[simp] def startD (n : Nat) (l : List D) : DS := (l.map fun d => some (OV.sh d)) ++ List.replicate (n - l.length) none
/-- what a body computes of its arguments -/
def funOf (n : Nat) (f : DS → Option Out) (l : List D) : Option OV := match f (startD n l) with
  | some (.ret o) => some o
  | some (.nx _) => some (.sh .none)
  | _ => none
theorem SI.start {K : Fr} {G H : Hp} {N : List Str} {vs : List V} {l : List D} (s : Same G H) (h : DpAll K G vs l) : SI K G H (L2.start N vs) (startD N.length l) (fun _ => []) where
  sub := s
  len := by
    unfold L2.start startD
    rw [List.length_append, List.length_append, List.length_map, List.length_map, List.length_replicate, List.length_replicate, dpsLen h]
  rep := fun i o e => by
    unfold startD at e
    by_cases hi : i < l.length
    · rw [List.getElem?_append_left (by simpa using hi), List.getElem?_map] at e
      obtain ⟨d, h1, h2⟩ := Option.map_eq_some_iff.mp e
      cases h2
      obtain ⟨v, h3, h4⟩ := dpsGet h h1
      refine ⟨v, ?_, h4, rfl⟩
      unfold L2.start
      rw [List.getElem?_append_left (by rw [List.length_map, dpsLen h]; exact hi), List.getElem?_map, h3]
      rfl
    · rw [List.getElem?_append_right (by simpa using hi), List.getElem?_replicate] at e
      split at e <;> cases e
  nod := fun _ => .nil
  off := fun _ _ h => nomatch h
  dis := fun _ _ _ h => nomatch h
theorem noW {b : Addr} (h : Wf (fun _ => []) b) : False := by
  obtain ⟨i, h⟩ := h
  cases h
theorem def_ok {P : Program} {w : World} {K : Fr} {mg : Str → Option Value} {base : Heap} {x qual : Str} {st : Stmt} {f : Addr} {fd : FuncData} {N ps : List Str} {k : Nat} {fb : DS → Option Out} (F : L2.Fun K x qual st f fd) (hm : mg x = some (.ref f)) (hb : Binds K fd ps []) (S : FnScope N ps (defScope st))
    (body : ∀ (cdv : Value) (A : Around) (outer : List Env) (s : Shared) (H : Hp) (E : XK), Room k (A.deeper (PyProof.Rows.envOfC qual (defScope st) s.heap.objs.size f cdv)) → ∃ t T, JB K (cxOf CX0 P w K mg base N qual (defScope st) f cdv A outer s H E).nox T (defBody st) t fb) :
    Dk P w K mg base (k + 1) x ps.length (funOf N.length fb) := by
  refine ⟨f, fd, ps, F.ok S (fun vs H Q E h => ?_) fun cdv A outer s H vs Q E hr h => ?_, hm, F.kp, hb⟩
  · obtain ⟨G, ds, r, _, h2, h3, _⟩ := h
    rw [dpsLen h2, h3]
  · obtain ⟨G, ds, r, sG, h2, h3, h4, q⟩ := h
    obtain ⟨t, _, J⟩ := body cdv A outer s H E hr
    refine ⟨t, J.p, ?_⟩
    have S0 := SI.start (N := N) sG h2
    unfold funOf at h4
    split at h4
    · rename_i o ho
      cases h4
      refine J.r G H _ _ _ _ _ S0 ho fun v G' H' W' fp sg t1 r1 f1 => ?_
      refine q v G' H' fp (fun b x e => t1.keep b x e noW) t1.sg sg (fun b x e => (t1.new b x e).imp id fun z => z.elim (fun z => (noW z).elim) id) r1 f1.nod fun a ha => ?_
      exact ⟨(f1.off a ha).1, (f1.new a ha).elim (fun z => (noW z).elim) id, (f1.off a ha).2.1⟩
    · rename_i d hd
      cases h4
      refine J.r G H _ _ _ _ _ S0 hd fun σ' G' H' F' S' t1 _ => ?_
      exact q .non G' H' [] (fun b x e => t1.keep b x e noW) t1.sg S'.sub (fun b x e => (t1.new b x e).imp id fun z => z.elim (fun z => (noW z).elim) id) ⟨.non, rfl⟩ .nil fun _ h => nomatch h
    · cases h4
end Fx
set_option Elab.async false
set_option linter.all false
/-! Fx: one step of each combinator at a state that is written out (lines of mkfxs.py's print) -/
namespace Fx
open PySem PySem.Spec L2
@[simp] theorem fVar_c  (i : Nat)  {x0 : Option OV} {l0 : DS} : fVar i (x0 :: l0) = match (x0 :: l0)[i]? with
  | some (some (.sh d)) => some (.ov (.sh d), (x0 :: l0))
  | some (some _) => some (.loc i, (x0 :: l0))
  | _ => none := rfl
@[simp] theorem fC_c  (d : D)  {x0 : Option OV} {l0 : DS} : fC d (x0 :: l0) = some (.ov (.sh d), (x0 :: l0)) := rfl
@[simp] theorem fOp_c  (g : D → D → Option D) (fa fb : DS → Option (RV × DS))  {x0 : Option OV} {l0 : DS} : fOp g fa fb (x0 :: l0) =
  (fa (x0 :: l0)).bind fun p => (fb p.2).bind fun q => (see p.1 q.2).bind fun d => (see q.1 q.2).bind fun e => (g d e).map fun z => (.ov (.sh z), q.2) := rfl
@[simp] theorem fUn_c  (g : D → Option D) (fa : DS → Option (RV × DS))  {x0 : Option OV} {l0 : DS} : fUn g fa (x0 :: l0) =
  (fa (x0 :: l0)).bind fun p => (see p.1 p.2).bind fun d => (g d).map fun z => (.ov (.sh z), p.2) := rfl
@[simp] theorem fNil_c   {x0 : Option OV} {l0 : DS} : fNil  (x0 :: l0) = some ([], (x0 :: l0)) := rfl
@[simp] theorem fCons_c  (fa : DS → Option (RV × DS)) (fr : DS → Option (List RV × DS))  {x0 : Option OV} {l0 : DS} : fCons fa fr (x0 :: l0) =
  (fa (x0 :: l0)).bind fun p => (fr p.2).map fun q => (p.1 :: q.1, q.2) := rfl
@[simp] theorem fCa_c  (g : List D → Option D) (fa : DS → Option (List RV × DS))  {x0 : Option OV} {l0 : DS} : fCa g fa (x0 :: l0) =
  (fa (x0 :: l0)).bind fun p => (sees p.1 p.2).bind fun l => (g l).map fun z => (.ov (.sh z), p.2) := rfl
@[simp] theorem fNew_c  (g : List D → Option (List D)) (fa : DS → Option (List RV × DS))  {x0 : Option OV} {l0 : DS} : fNew g fa (x0 :: l0) =
  (fa (x0 :: l0)).bind fun p => (frzs p.1 p.2).bind fun q => (g q.1).map fun z => (.ov (.flat z), q.2) := rfl
@[simp] theorem fNewOp_c  (g : D → D → Option (List D)) (fa fb : DS → Option (RV × DS))  {x0 : Option OV} {l0 : DS} : fNewOp g fa fb (x0 :: l0) =
  (fa (x0 :: l0)).bind fun p => (fb p.2).bind fun q => (frzs [p.1, q.1] q.2).bind fun w => match w.1 with
    | [d, e] => (g d e).map fun z => (.ov (.flat z), w.2)
    | _ => none := rfl
@[simp] theorem fLst_c  (fa : DS → Option (List RV × DS))  {x0 : Option OV} {l0 : DS} : fLst fa (x0 :: l0) = (fa (x0 :: l0)).bind fun p => (frzs p.1 p.2).bind fun q => if q.1.length ≤ 1000 then some (.ov (.flat q.1), q.2) else none := rfl
@[simp] theorem fTup_c  (fa : DS → Option (List RV × DS))  {x0 : Option OV} {l0 : DS} : fTup fa (x0 :: l0) = (fa (x0 :: l0)).bind fun p => (frzs p.1 p.2).bind fun q => if q.1.length ≤ 1000 then some (.ov (.sh (.tuple q.1)), q.2) else none := rfl
@[simp] theorem fCall_c  (n : Nat) (g : List D → Option OV) (fa : DS → Option (List RV × DS))  {x0 : Option OV} {l0 : DS} : fCall n g fa (x0 :: l0) =
  (fa (x0 :: l0)).bind fun p => (sees p.1 p.2).bind fun l => if l.length = n then (g l).bind fun r => if r.own?.isSome then some (.ov r, p.2) else (frzs p.1 p.2).map fun q => (.ov r, q.2) else none := rfl
@[simp] theorem fBool_c  (f : DS → Option (RV × DS))  {x0 : Option OV} {l0 : DS} : fBool f (x0 :: l0) = (f (x0 :: l0)).bind fun p => match p.1 with
  | .ov (.sh (.bool b)) => some (b, p.2)
  | _ => none := rfl
@[simp] theorem fTru_c  (f : DS → Option (RV × DS))  {x0 : Option OV} {l0 : DS} : fTru f (x0 :: l0) = (f (x0 :: l0)).bind fun p => (see p.1 p.2).bind fun d => (truD d).map fun b => (b, p.2) := rfl
@[simp] theorem fAndT_c  (f g : DS → Option (Bool × DS))  {x0 : Option OV} {l0 : DS} : fAndT f g (x0 :: l0) = (f (x0 :: l0)).bind fun p => if p.1 = true then g p.2 else some (false, p.2) := rfl
@[simp] theorem fOrT_c  (f g : DS → Option (Bool × DS))  {x0 : Option OV} {l0 : DS} : fOrT f g (x0 :: l0) = (f (x0 :: l0)).bind fun p => if p.1 = true then some (true, p.2) else g p.2 := rfl
@[simp] theorem fNotT_c  (f : DS → Option (Bool × DS))  {x0 : Option OV} {l0 : DS} : fNotT f (x0 :: l0) = (f (x0 :: l0)).map fun p => (!p.1, p.2) := rfl
@[simp] theorem fYes_c   {x0 : Option OV} {l0 : DS} : fYes  (x0 :: l0) = some (true, (x0 :: l0)) := rfl
@[simp] theorem fAndV_c  (f g : DS → Option (RV × DS))  {x0 : Option OV} {l0 : DS} : fAndV f g (x0 :: l0) = (fBool f (x0 :: l0)).bind fun p => if p.1 = true then g p.2 else some (.ov (.sh (.bool false)), p.2) := rfl
@[simp] theorem fOrV_c  (f g : DS → Option (RV × DS))  {x0 : Option OV} {l0 : DS} : fOrV f g (x0 :: l0) = (fBool f (x0 :: l0)).bind fun p => if p.1 = true then some (.ov (.sh (.bool true)), p.2) else g p.2 := rfl
@[simp] theorem fNotV_c  (f : DS → Option (RV × DS))  {x0 : Option OV} {l0 : DS} : fNotV f (x0 :: l0) = (fBool f (x0 :: l0)).map fun p => (.ov (.sh (.bool (!p.1))), p.2) := rfl
@[simp] theorem fIf_c  (c : DS → Option (Bool × DS)) (f g : DS → Option (RV × DS))  {x0 : Option OV} {l0 : DS} : fIf c f g (x0 :: l0) = (c (x0 :: l0)).bind fun p => if p.1 = true then f p.2 else g p.2 := rfl
@[simp] theorem fNext_c   {x0 : Option OV} {l0 : DS} : fNext  (x0 :: l0) = some (.nx (x0 :: l0)) := rfl
@[simp] theorem fBreak_c   {x0 : Option OV} {l0 : DS} : fBreak  (x0 :: l0) = some (.bk (x0 :: l0)) := rfl
@[simp] theorem fCont_c   {x0 : Option OV} {l0 : DS} : fCont  (x0 :: l0) = some (.ct (x0 :: l0)) := rfl
@[simp] theorem fSeq_c  (f g : DS → Option Out)  {x0 : Option OV} {l0 : DS} : fSeq f g (x0 :: l0) = (f (x0 :: l0)).bind fun o => match o with
  | .nx d => g d
  | o => some o := rfl
@[simp] theorem fExpr_c  (f : DS → Option (RV × DS))  {x0 : Option OV} {l0 : DS} : fExpr f (x0 :: l0) = (f (x0 :: l0)).map fun p => .nx p.2 := rfl
@[simp] theorem fRet_c  (f : DS → Option (RV × DS))  {x0 : Option OV} {l0 : DS} : fRet f (x0 :: l0) = (f (x0 :: l0)).bind fun p => (mov p.1 p.2).map fun o => .ret o := rfl
@[simp] theorem fRetN_c   {x0 : Option OV} {l0 : DS} : fRetN  (x0 :: l0) = some (.ret (.sh .none)) := rfl
@[simp] theorem fIfS_c  (c : DS → Option (Bool × DS)) (f g : DS → Option Out)  {x0 : Option OV} {l0 : DS} : fIfS c f g (x0 :: l0) = (c (x0 :: l0)).bind fun p => if p.1 = true then f p.2 else g p.2 := rfl
@[simp] theorem fSet_c  (i : Nat) (f : DS → Option (RV × DS))  {x0 : Option OV} {l0 : DS} : fSet i f (x0 :: l0) = (f (x0 :: l0)).bind fun p => match p.1 with
  | .ov o => some (.nx (p.2.set i (some o)))
  | .loc j => (frz (.loc j) p.2).map fun q => .nx (q.2.set i (some (.sh q.1))) := rfl
@[simp] theorem fAsg_c  (g : D → DS → Option DS) (f : DS → Option (RV × DS))  {x0 : Option OV} {l0 : DS} : fAsg g f (x0 :: l0) = (f (x0 :: l0)).bind fun p => (frz p.1 p.2).bind fun q => (g q.1 q.2).map fun d => .nx d := rfl
@[simp] theorem fFor_c  (fi : DS → Option (List D × DS)) (g : D → DS → Option DS) (body : DS → Option Out)  {x0 : Option OV} {l0 : DS} : fFor fi g body (x0 :: l0) = (fi (x0 :: l0)).bind fun p => loopF g body p.1 p.2 := rfl
@[simp] theorem fiList_c  (f : DS → Option (RV × DS))  {x0 : Option OV} {l0 : DS} : fiList f (x0 :: l0) = (f (x0 :: l0)).bind fun p => (frz p.1 p.2).bind fun q => match q.1 with
  | .list l => some (l, q.2)
  | _ => none := rfl
@[simp] theorem fiTup_c  (f : DS → Option (RV × DS))  {x0 : Option OV} {l0 : DS} : fiTup f (x0 :: l0) = (f (x0 :: l0)).bind fun p => (frz p.1 p.2).bind fun q => match q.1 with
  | .tuple l => some (l, q.2)
  | _ => none := rfl
@[simp] theorem fiR1_c  (fa : DS → Option (List RV × DS))  {x0 : Option OV} {l0 : DS} : fiR1 fa (x0 :: l0) = (fa (x0 :: l0)).bind fun p => (sees p.1 p.2).bind fun l => match l with
  | [.int j] => if small62 j then some (rangeD 0 j, p.2) else none
  | _ => none := rfl
@[simp] theorem fiR2_c  (fa : DS → Option (List RV × DS))  {x0 : Option OV} {l0 : DS} : fiR2 fa (x0 :: l0) = (fa (x0 :: l0)).bind fun p => (sees p.1 p.2).bind fun l => match l with
  | [.int i, .int j] => if small62 i && small62 j then some (rangeD i j, p.2) else none
  | _ => none := rfl
@[simp] theorem fAdd_c  (fa fb : DS → Option (RV × DS))  {x0 : Option OV} {l0 : DS} : fAdd fa fb (x0 :: l0) = (fa (x0 :: l0)).bind fun p => (fb p.2).bind fun q => match see p.1 q.2, see q.1 q.2 with
  | some (.int i), some (.int j) => some (.ov (.sh (.int (i + j))), q.2)
  | _, _ => fCat p.1 q.1 q.2 := rfl
@[simp] theorem fMul_c  (fa fb : DS → Option (RV × DS))  {x0 : Option OV} {l0 : DS} : fMul fa fb (x0 :: l0) = (fa (x0 :: l0)).bind fun p => (fb p.2).bind fun q => match see q.1 q.2 with
  | some (.int j) => match p.1 with
    | .ov (.flat l) => if repOk l j = true then some (.ov (.flat (repD l j)), q.2) else none
    | r => match see r q.2 with
      | some (.int i) => if mulOk i j = true then some (.ov (.sh (.int (i * j))), q.2) else none
      | _ => none
  | _ => none := rfl
@[simp] theorem fIx_c  (fa fb : DS → Option (RV × DS))  {x0 : Option OV} {l0 : DS} : fIx fa fb (x0 :: l0) = (fa (x0 :: l0)).bind fun p => (fb p.2).bind fun q => match see q.1 q.2 with
  | some (.int k) => match see p.1 q.2 with
    | some (.list l) => (atI l k).bind fun e => if isSc e = true then some (.ov (.sh e), q.2) else (items p.1 q.2).map fun w => (.ov (.sh e), w.2)
    | some (.tuple l) => (atI l k).bind fun e => if isSc e = true then some (.ov (.sh e), q.2) else (items p.1 q.2).map fun w => (.ov (.sh e), w.2)
    | _ => none
  | _ => none := rfl
@[simp] theorem fNoPart_c   {x0 : Option OV} {l0 : DS} : fNoPart  (x0 :: l0) = some (none, (x0 :: l0)) := rfl
@[simp] theorem fPart_c  (f : DS → Option (RV × DS))  {x0 : Option OV} {l0 : DS} : fPart f (x0 :: l0) = (f (x0 :: l0)).bind fun p => match see p.1 p.2 with
  | some (.int i) => some (some i, p.2)
  | _ => none := rfl
@[simp] theorem fSl_c  (fe : DS → Option (RV × DS)) (fl fh : DS → Option (Option Int × DS))  {x0 : Option OV} {l0 : DS} : fSl fe fl fh (x0 :: l0) = (fe (x0 :: l0)).bind fun p => (fl p.2).bind fun a => (fh a.2).bind fun b =>
  (items p.1 b.2).bind fun w => if isT p.1 b.2 = true then none else some (.ov (.flat (cutD w.1 a.1 b.1)), w.2) := rfl
@[simp] theorem fListOf_c  (fa : DS → Option (List RV × DS))  {x0 : Option OV} {l0 : DS} : fListOf fa (x0 :: l0) = (fa (x0 :: l0)).bind fun p => match p.1 with
  | [r] => (items r p.2).map fun w => (.ov (.flat w.1), w.2)
  | _ => none := rfl
@[simp] theorem fCat_c  (a b : RV)  {x0 : Option OV} {l0 : DS} : fCat a b (x0 :: l0) = (items a (x0 :: l0)).bind fun p => (items b p.2).bind fun q => if isT a (x0 :: l0) || isT b (x0 :: l0) || decide (1000000 < p.1.length + q.1.length) then none else some (.ov (.flat (p.1 ++ q.1)), q.2) := rfl
@[simp] theorem fiZip_c  (fa : DS → Option (List RV × DS))  {x0 : Option OV} {l0 : DS} : fiZip fa (x0 :: l0) = (fa (x0 :: l0)).bind fun p => (frzs p.1 p.2).bind fun q => match q.1 with
  | [.list l, .list m] => some ((l.zip m).map pairD, q.2)
  | _ => none := rfl
@[simp] theorem fi1_c  (k : List D → List D) (fa : DS → Option (List RV × DS))  {x0 : Option OV} {l0 : DS} : fi1 k fa (x0 :: l0) = (fa (x0 :: l0)).bind fun p => (frzs p.1 p.2).bind fun q => match q.1 with
  | [.list l] => some (k l, q.2)
  | _ => none := rfl
@[simp] theorem fiR3_c  (fa : DS → Option (List RV × DS))  {x0 : Option OV} {l0 : DS} : fiR3 fa (x0 :: l0) = (fa (x0 :: l0)).bind fun p => (sees p.1 p.2).bind fun l => match l with
  | [.int i, .int j, .int c] => if rgOk i j c = true then some (range3D i j c, p.2) else none
  | _ => none := rfl
@[simp] theorem fIsi_c  (n : String) (f : DS → Option (RV × DS))  {x0 : Option OV} {l0 : DS} : fIsi n f (x0 :: l0) = (f (x0 :: l0)).bind fun p => (see p.1 p.2).bind fun d => (tyD d).bind fun t => (kitB t n).map fun b => (.ov (.sh (.bool b)), p.2) := rfl
@[simp] theorem fApp_c  (i : Nat) (f : DS → Option (RV × DS))  {x0 : Option OV} {l0 : DS} : fApp i f (x0 :: l0) = match (x0 :: l0)[i]? with
  | some (some (.flat _)) => (f (x0 :: l0)).bind fun p => (frz p.1 p.2).bind fun q => match q.2[i]? with
    | some (some (.flat l)) => if l.length ≤ 1000000 then some (.nx (q.2.set i (some (.flat (l ++ [q.1]))))) else none
    | _ => none
  | _ => none := rfl
@[simp] theorem fSetIx_c  (i : Nat) (f fk : DS → Option (RV × DS))  {x0 : Option OV} {l0 : DS} : fSetIx i f fk (x0 :: l0) = (f (x0 :: l0)).bind fun p => (frz p.1 p.2).bind fun q => match q.2[i]? with
  | some (some (.flat _)) => (fk q.2).bind fun w => match see w.1 w.2, w.2[i]? with
    | some (.int k), some (some (.flat l)) => (ixN l.length k).map fun j => .nx (w.2.set i (some (.flat (l.set j q.1))))
    | _, _ => none
  | _ => none := rfl
@[simp] theorem fAug_c  (i : Nat) (g : Int → Int → Int) (f : DS → Option (RV × DS))  {x0 : Option OV} {l0 : DS} : fAug i g f (x0 :: l0) = match (x0 :: l0)[i]? with
  | some (some (.sh (.int a))) => (f (x0 :: l0)).bind fun p => match see p.1 p.2 with
    | some (.int b) => some (.nx (p.2.set i (some (.sh (.int (g a b))))))
    | _ => none
  | _ => none := rfl
@[simp] theorem items_sh {l : List D} {ds : DS} : items (.ov (.sh (.list l))) ds = some (l, ds) := rfl
@[simp] theorem items_sht {l : List D} {ds : DS} : items (.ov (.sh (.tuple l))) ds = some (l, ds) := rfl
@[simp] theorem items_flat {l : List D} {ds : DS} : items (.ov (.flat l)) ds = some (l, ds) := rfl
@[simp] theorem items_tree {l : List D} {ds : DS} : items (.ov (.tree (.list l))) ds = some (l, ds) := rfl
@[simp] theorem items_loc {i : Nat} {x0 : Option OV} {l0 : DS} : items (.loc i) (x0 :: l0) = (match (x0 :: l0)[i]? with
    | some (some (.flat l)) => some (l, (x0 :: l0))
    | some (some o) => match o.view with
      | .list l => some (l, (x0 :: l0).set i (some (.sh (.list l))))
      | .tuple l => some (l, (x0 :: l0).set i (some (.sh (.tuple l))))
      | _ => none
    | _ => none) := rfl
@[simp] theorem isT_sh {d : D} {ds : DS} : isT (.ov (.sh d)) ds = (match d with | .tuple _ => true | _ => false) := by
  cases d <;> rfl
@[simp] theorem isT_flat {l : List D} {ds : DS} : isT (.ov (.flat l)) ds = false := rfl
@[simp] theorem isT_tree {d : D} {ds : DS} : isT (.ov (.tree d)) ds = (match d with | .tuple _ => true | _ => false) := by
  cases d <;> rfl
@[simp] theorem isT_loc {i : Nat} {x0 : Option OV} {l0 : DS} : isT (.loc i) (x0 :: l0) = (match see (.loc i) (x0 :: l0) with | some (.tuple _) => true | _ => false) := rfl
@[simp] theorem view_sh {d : D} : (OV.sh d).view = d := rfl
@[simp] theorem view_flat {l : List D} : (OV.flat l).view = .list l := rfl
@[simp] theorem view_tree {d : D} : (OV.tree d).view = d := rfl
@[simp] theorem see_ov {o : OV} {ds : DS} : see (.ov o) ds = some o.view := rfl
@[simp] theorem see_loc {i : Nat} {x0 : Option OV} {l0 : DS} : see (.loc i) (x0 :: l0) = (match (x0 :: l0)[i]? with
    | some (some o) => some o.view
    | _ => none) := rfl
@[simp] theorem frz_ov {o : OV} {ds : DS} : frz (.ov o) ds = some (o.view, ds) := rfl
@[simp] theorem frz_loc {i : Nat} {x0 : Option OV} {l0 : DS} : frz (.loc i) (x0 :: l0) = (match (x0 :: l0)[i]? with
    | some (some o) => some (o.view, (x0 :: l0).set i (some (.sh o.view)))
    | _ => none) := rfl
@[simp] theorem sees_nil {ds : DS} : sees [] ds = some [] := rfl
@[simp] theorem sees_cons {r : RV} {rs : List RV} {ds : DS} : sees (r :: rs) ds = (see r ds).bind fun d => (sees rs ds).map fun l => d :: l := rfl
@[simp] theorem frzs_nil {ds : DS} : frzs [] ds = some ([], ds) := rfl
@[simp] theorem frzs_cons {r : RV} {rs : List RV} {ds : DS} : frzs (r :: rs) ds = (frz r ds).bind fun p => (frzs rs p.2).map fun q => (p.1 :: q.1, q.2) := rfl
@[simp] theorem mov_ov {o : OV} {ds : DS} : mov (.ov o) ds = some o := rfl
@[simp] theorem mov_loc {i : Nat} {x0 : Option OV} {l0 : DS} : mov (.loc i) (x0 :: l0) = (match (x0 :: l0)[i]? with
    | some (some o) => some o
    | _ => none) := rfl
@[simp] theorem truD_none : truD .none = some false := rfl
@[simp] theorem truD_bool {b : Bool} : truD (.bool b) = some b := rfl
@[simp] theorem truD_int {i : Int} : truD (.int i) = some (i != 0) := rfl
@[simp] theorem truD_list {l : List D} : truD (.list l) = some (!l.isEmpty) := rfl
@[simp] theorem truD_tuple {l : List D} : truD (.tuple l) = some (!l.isEmpty) := rfl
@[simp] theorem tyD_none : tyD .none = some "NoneType" := rfl
@[simp] theorem tyD_bool {b : Bool} : tyD (.bool b) = some "bool" := rfl
@[simp] theorem tyD_int {i : Int} : tyD (.int i) = some "int" := rfl
@[simp] theorem tyD_str {i : Str} : tyD (.str i) = some "str" := rfl
@[simp] theorem tyD_list {l : List D} : tyD (.list l) = some "list" := rfl
@[simp] theorem tyD_tuple {l : List D} : tyD (.tuple l) = some "tuple" := rfl
@[simp] theorem isSc_none : isSc .none = true := rfl
@[simp] theorem isSc_bool {b : Bool} : isSc (.bool b) = true := rfl
@[simp] theorem isSc_int {b : Int} : isSc (.int b) = true := rfl
@[simp] theorem isSc_str {b : Str} : isSc (.str b) = true := rfl
@[simp] theorem isSc_list {b : List D} : isSc (.list b) = false := rfl
@[simp] theorem isSc_tuple {b : List D} : isSc (.tuple b) = false := rfl
@[simp] theorem isNd_none : isNd .none = true := rfl
@[simp] theorem isNd_bool {b : Bool} : isNd (.bool b) = false := rfl
@[simp] theorem isNd_int {b : Int} : isNd (.int b) = false := rfl
@[simp] theorem isNd_str {b : Str} : isNd (.str b) = false := rfl
@[simp] theorem isNd_list {b : List D} : isNd (.list b) = false := rfl
@[simp] theorem isNd_tuple {b : List D} : isNd (.tuple b) = false := rfl
@[simp] theorem own_ov {o : OV} : own (.ov o) = o.own? := rfl
@[simp] theorem shB_sh {d : D} : shB (some (some (.sh d))) = true := rfl
@[simp] theorem shB_dead : shB (some none) = true := rfl
@[simp] theorem shB_none : shB none = true := rfl
@[simp] theorem fgName_c {i : Nat} {d : D} {x0 : Option OV} {l0 : DS} : fgName i d (x0 :: l0) = some ((x0 :: l0).set i (some (.sh d))) := rfl
@[simp] theorem fgNil_c {ds : DS} : fgNil [] ds = some ds := rfl
@[simp] theorem fgCons_c {f : D → DS → Option DS} {g : List D → DS → Option DS} {d : D} {r : List D} {x0 : Option OV} {l0 : DS} : fgCons f g (d :: r) (x0 :: l0) = (f d (x0 :: l0)).bind fun ds1 => g r ds1 := rfl
@[simp] theorem fgTup_c {n : Nat} {g : List D → DS → Option DS} {l : List D} {x0 : Option OV} {l0 : DS} : fgTup n g (.tuple l) (x0 :: l0) = if l.length = n then g l (x0 :: l0) else none := rfl
@[simp] theorem wipeD_nil {ds : DS} : wipeD ds [] = ds := rfl
@[simp] theorem wipeD_cons {ds : DS} {v : Nat} {vs : List Nat} : wipeD ds (v :: vs) = (wipeD ds vs).set v none := rfl
@[simp] theorem mend_nil {d0 d : DS} : mend d0 d [] = d := rfl
@[simp] theorem mend_cons {d0 d : DS} {v : Nat} {vs : List Nat} : mend d0 d (v :: vs) = (mend d0 d vs).set v ((d0[v]?).getD none) := rfl
@[simp] theorem gI_ii {c : Int → Int → Bool} {f : Int → Int → D} {i j : Int} : gI c f (.int i) (.int j) = if c i j = true then some (f i j) else none := rfl
@[simp] theorem gLen_l {xs : List D} : gLen [.list xs] = some (.int xs.length) := rfl
@[simp] theorem gLen_t {xs : List D} : gLen [.tuple xs] = some (.int xs.length) := rfl
@[simp] theorem g1I_i {f : Int → D} {i : Int} : g1I f [.int i] = some (f i) := rfl
@[simp] theorem gInt_i {i : Int} : gInt [.int i] = some (.int i) := rfl
@[simp] theorem gInt_b {b : Bool} : gInt [.bool b] = some (.int (if b then 1 else 0)) := rfl
@[simp] theorem gGcd_ii {a b : Int} : gGcd [.int a, .int b] = some (.int ((Nat.gcd a.natAbs b.natAbs : Nat) : Int)) := rfl
@[simp] theorem gBits_i {i : Int} : gBits (.int i) = some (.int (Builtin.Int.intBits i : Nat)) := rfl
@[simp] theorem gNeg_i {i : Int} : gNeg (.int i) = some (.int (-i)) := rfl
@[simp] theorem gIsN2_n {d : D} : gIsN2 d .none = some (.bool (isNd d)) := rfl
@[simp] theorem gNotN2_n {d : D} : gNotN2 d .none = some (.bool (!isNd d)) := rfl
end Fx
set_option Elab.async false
set_option linter.all false
/-! Fx: plain tools: what loops and comprehensions compute. -/
namespace Fx
open PySem PySem.Spec L2

theorem bindSome {α β : Type} (a : α) (f : α → Option β) : (some a).bind f = f a := rfl
/-- a loop that goes through: S the state, by what is carried -/
theorem loopF_fold {β : Type} {g : D → DS → Option DS} {body : DS → Option Out} (S : β → DS) (step : β → D → β) : ∀ (l : List D) (b : β), (∀ b d, d ∈ l → (g d (S b)).bind body = some (.nx (S (step b d)))) → loopF g body l (S b) = some (.nx (S (l.foldl step b)))
  | [], b, _ => rfl
  | d :: l, b, h => by
    have h1 := h b d (by simp)
    rw [Option.bind_eq_some_iff] at h1
    obtain ⟨ds1, e1, e2⟩ := h1
    show (g d (S b)).bind _ = _
    rw [e1, bindSome, e2, bindSome]
    exact loopF_fold S step l (step b d) fun b d hd => h b d (by simp [hd])
/-- the same with an invariant -/
theorem loopF_inv {β : Type} {g : D → DS → Option DS} {body : DS → Option Out} (S : β → DS) (I : β → Prop) (step : β → D → β) : ∀ (l : List D) (b : β), I b → (∀ b d, d ∈ l → I b → (g d (S b)).bind body = some (.nx (S (step b d))) ∧ I (step b d)) → loopF g body l (S b) = some (.nx (S (l.foldl step b))) ∧ I (l.foldl step b)
  | [], b, i, _ => ⟨rfl, i⟩
  | d :: l, b, i, h => by
    obtain ⟨h1, h2⟩ := h b d (by simp) i
    rw [Option.bind_eq_some_iff] at h1
    obtain ⟨ds1, e1, e2⟩ := h1
    have ih := loopF_inv S I step l (step b d) h2 fun b d hd => h b d (by simp [hd])
    refine ⟨?_, ih.2⟩
    show (g d (S b)).bind _ = _
    rw [e1, bindSome, e2, bindSome]
    exact ih.1
theorem lcF_map {τ : D → DS → Option (Option D × DS)} {w : DS} (h : D → D) : ∀ (l : List D) (acc : List D), (∀ d ∈ l, τ d w = some (some (h d), w)) → lcF τ l w acc = some (acc ++ l.map h, w)
  | [], acc, _ => by simp [lcF]
  | d :: l, acc, e => by
    simp only [lcF, e d (by simp), bindSome]
    rw [lcF_map h l _ fun d hd => e d (by simp [hd])]
    simp
theorem lcF_filterMap {τ : D → DS → Option (Option D × DS)} {w : DS} (h : D → Option D) : ∀ (l : List D) (acc : List D), (∀ d ∈ l, τ d w = some (h d, w)) → lcF τ l w acc = some (acc ++ l.filterMap h, w)
  | [], acc, _ => by simp [lcF]
  | d :: l, acc, e => by
    simp only [lcF, e d (by simp), bindSome]
    rw [lcF_filterMap h l _ fun d hd => e d (by simp [hd])]
    cases hd : h d <;> simp [hd]
theorem fLc_map {fi : DS → Option (List D × DS)} {g : D → DS → Option DS} {ft : DS → Option (Bool × DS)} {fe : DS → Option (RV × DS)} {vs : List Nat} {ds ds1 : DS} {l : List D} (h : D → D) (e1 : fi ds = some (l, ds1)) (e2 : (vs.all fun i => shB ds1[i]?) = true) (e3 : l.length ≤ 1000000)
    (e4 : ∀ d ∈ l, turnC g ft fe vs d (wipeD ds1 vs) = some (some (h d), wipeD ds1 vs)) : fLc fi g ft fe vs ds = some (.ov (.flat (l.map h)), mend ds1 (wipeD ds1 vs) vs) := by
  simp only [fLc, fLcG, e1, bindSome, e2, decide_eq_true e3, Bool.and_self, if_true]
  rw [lcF_map h l [] e4]
  simp
/-- a list of ints as data -/
abbrev IL (v : List Int) : D := .list (v.map PyData.int)
theorem allSc_ints (v : List Int) : (v.map PyData.int).all isSc = true := by
  rw [List.all_map]
  exact List.all_eq_true.mpr fun _ _ => rfl
theorem own_flat_ints (v : List Int) : (OV.flat (v.map PyData.int)).own? = some (IL v) := by
  simp only [OV.own?, allSc_ints, if_true]
theorem own_sh_int (i : Int) : (OV.sh (.int i)).own? = some (.int i) := rfl
theorem own_sh_bool (i : Bool) : (OV.sh (.bool i)).own? = some (.bool i) := rfl
theorem own_sh_none : (OV.sh .none).own? = some .none := rfl
theorem zip_ints (v w : List Int) : ((v.map PyData.int).zip (w.map PyData.int)).map pairD = (v.zip w).map fun p => .tuple [.int p.1, .int p.2] := by
  rw [List.zip_map, List.map_map]
  rfl
end Fx
set_option Elab.async false
set_option linter.all false
set_option maxRecDepth 100000
/-! Fx: a for over an owned list that stays owned: the slot is shut while the loop runs. -/
namespace Fx
open PySem PySem.Spec L2
def back (i : Nat) (l : List D) : Out → Out
  | .nx d => .nx (d.set i (some (.flat l)))
  | .bk d => .bk (d.set i (some (.flat l)))
  | .ct d => .ct (d.set i (some (.flat l)))
  | .ret o => .ret o
def fForB (i : Nat) (g : D → DS → Option DS) (body : DS → Option Out) (ds : DS) : Option Out := match ds[i]? with
  | some (some (.flat l)) => (loopF g body l (ds.set i none)).map (back i l)
  | _ => none
variable {K : Fr}
theorem SI.shut {G H : Hp} {σ : St} {ds : DS} {F : Nat → List Addr} (S : SI K G H σ ds F) (i : Nat) : SI K G H σ (ds.set i none) (offF F i []) where
  sub := S.sub
  len := by rw [List.length_set]; exact S.len
  rep := fun j o e => by
    by_cases hj : j = i
    · subst hj
      by_cases hl : j < ds.length
      · rw [List.getElem?_set_self hl] at e; cases e
      · rw [List.getElem?_eq_none (by rw [List.length_set]; omega)] at e; cases e
    · rw [List.getElem?_set_ne (Ne.symm hj)] at e
      obtain ⟨v, h1, h2⟩ := S.rep j o e
      refine ⟨v, h1, ?_⟩
      unfold offF; rw [if_neg hj]
      exact h2
  nod := fun j => by unfold offF; split; exact .nil; exact S.nod j
  off := fun j a ha => by
    unfold offF at ha
    split at ha
    · cases ha
    · exact S.off j a ha
  dis := fun j k a h1 h2 => by
    unfold offF at h1 h2
    split at h1
    · cases h1
    · split at h2
      · cases h2
      · exact S.dis j k a h1 h2
/-- an owned list comes back to its slot -/
theorem SI.open' {G H H0 : Hp} {σ : St} {ds : DS} {F : Nat → List Addr} {W0 : Addr → Prop} {v : V} {o : OV} {fp : List Addr} (S : SI K G H σ ds F) (i : Nat) (hσ : σ[i]? = some (some v)) (r : Rep K G H v o fp) (f : Fp G H (Wf F) W0 H0 fp) : SI K G H σ (ds.set i (some o)) (offF F i fp) := by
  have e : σ.set i (some v) = σ := by
    refine List.ext_getElem? fun j => ?_
    by_cases hj : i = j
    · subst hj
      rw [hσ]
      exact List.getElem?_set_self (List.getElem?_eq_some_iff.mp hσ).1
    · exact List.getElem?_set_ne hj
  have := S.put i r f
  rwa [e] at this
theorem rs_forB {i : Nat} {T T' : List Nat} {g : TG} {tb : TS} {fg : D → DS → Option DS} {fb : DS → Option Out} (hn : i ∉ T ++ T') (hg : RG K T g fg) (hb : RS K T' tb fb) : RS K (T ++ T') (tFor (iList K (tVar i)) g tb) (fForB i fg fb) := by
  intro G0 H0 F0 σ0 ds0 o E S0 e q
  unfold fForB at e
  split at e
  · rename_i l hl
    obtain ⟨a, xs, k1, k2, k3, k4⟩ := slot_flat S0 hl
    simp only [Option.map_eq_some_iff] at e
    obtain ⟨o', e1, e2⟩ := e
    refine ⟨.ref a, k1, a, rfl, ⟨xs, SqL.of k2⟩, fun j m σ H => m = l.length - j ∧ j ≤ l.length ∧ ∃ G F ds, SI K G H σ ds F ∧ Step (Wf F0) G0 H0 G H (Wf F) ∧ H a = some (.lst xs) ∧ Same G0 G ∧ Fp G H (Wf F) (Wf F0) H0 [a] ∧ Off (T ++ T') σ0 σ ∧ loopF fg fb (l.drop j) ds = some o',
      ⟨l.length, by simp, Nat.zero_le _, G0, _, _, S0.shut i, (Step.refl _ _ _).reown fun b hb => .inl ((wf_off hb).elim id fun z => nomatch z), k2, Same.refl _, ⟨by simp, fun b hb => ?_, fun b hb => ?_⟩, Off.refl _ _, by simpa using e1⟩, ?_⟩
    · obtain rfl : b = a := by simpa using hb
      refine ⟨(S0.off i b (by simp [k4])).1, ⟨_, k2⟩, fun ⟨j, hj⟩ => ?_⟩
      unfold offF at hj
      split at hj
      · cases hj
      · rename_i hji
        exact hji (S0.dis j i b hj (by simp [k4]))
    · obtain rfl : b = a := by simpa using hb
      exact .inl ⟨i, by simp [k4]⟩
    rintro j m σ H ⟨rfl, hj, G, F, ds, S, t, ha, sg, hf, off, hrun⟩
    have hS : SqL K H a xs := SqL.of ha
    by_cases hlt : j < l.length
    · have hlx : j < xs.length := by rw [dpsLen k3]; exact hlt
      refine .inr ⟨⟨xs, xs[j], hS, by simp [hlx]⟩, fun σ' H' => ∃ G F ds, SI K G H' σ' ds F ∧ Step (Wf F0) G0 H0 G H' (Wf F) ∧ H' a = some (.lst xs) ∧ Same G0 G ∧ Fp G H' (Wf F) (Wf F0) H0 [a] ∧ Off (T ++ T') σ0 σ' ∧ loopF fg fb (l.drop (j + 1)) ds = some o',
        fun σ' H' h => ⟨l.length - (j + 1), by omega, rfl, hlt, h⟩, fun x H' y => ?_⟩
      obtain ⟨rfl, y⟩ := y
      have hx := y xs hS
      obtain ⟨d, d1, d2⟩ := dpsGetV k3 hx
      rw [List.drop_eq_getElem_cons hlt] at hrun
      have dl : l[j] = d := by
        rw [List.getElem?_eq_getElem hlt] at d1
        exact Option.some.inj d1
      rw [dl] at hrun
      simp only [loopF, Option.bind_eq_some_iff] at hrun
      obtain ⟨ds2, h1, oo, h2, h3⟩ := hrun
      refine hg G _ F σ ds x d ds2 _ S (dpMono sg _ _ d2) h1 fun σ2 F2 S2 w2 o2 => ?_
      have t2 : Step (Wf F0) G0 H0 G _ (Wf F2) := t.reown fun b hb => t.own b (w2 b hb)
      have hf2 : Fp G _ (Wf F2) (Wf F0) H0 [a] := ⟨hf.nod, fun b hb => ⟨(hf.off b hb).1, (hf.off b hb).2.1, fun z => (hf.off b hb).2.2 (w2 b z)⟩, hf.new⟩
      have off2 := off.trans (o2.left (T' := T'))
      refine hb G _ F2 σ2 ds2 oo _ S2 h2 ?_
      cases oo with
      | nx ds3 => exact fun σ3 G3 H3 F3 S3 t3 f3 => ⟨G3, F3, ds3, S3, t2.trans t3, hf2.keeps t3 a (by simp) _ ha, sg.trans t3.sg, hf2.step t3, off2.trans f3.right, h3⟩
      | ct ds3 => exact fun σ3 G3 H3 F3 S3 t3 f3 => ⟨G3, F3, ds3, S3, t2.trans t3, hf2.keeps t3 a (by simp) _ ha, sg.trans t3.sg, hf2.step t3, off2.trans f3.right, h3⟩
      | bk ds3 =>
        cases h3
        cases e2
        intro σ3 G3 H3 F3 S3 t3 f3
        have o3 := off2.trans f3.right
        have f4 := hf2.step t3
        exact q σ3 G3 H3 _ (S3.open' i ((o3.2 i hn).trans k1) ⟨a, xs, rfl, hf2.keeps t3 a (by simp) _ ha, dpsMono (sg.trans t3.sg) _ _ k3, rfl⟩ f4) ((t2.trans t3).put f4.new) o3
      | ret r => cases h3; cases e2; exact fun v G3 H3 W3 fp sg' t3 r3 f3 => q v G3 H3 W3 fp sg' (t2.trans t3) r3 (f3.since t2)
    · have ej : j = l.length := by omega
      subst ej
      rw [List.drop_length] at hrun
      cases hrun
      cases e2
      exact .inl ⟨⟨xs, hS, by rw [dpsLen k3]; exact Nat.le_refl _⟩, q σ G H _ (S.open' i ((off.2 i hn).trans k1) ⟨a, xs, rfl, ha, dpsMono sg _ _ k3, rfl⟩ hf) (t.put hf.new) off⟩
  · cases e
section
variable {X : Cx} {tg : Expr} {sts : List Stmt} {ts : TS} {fs : DS → Option Out} {g : TG} {fg : D → DS → Option DS} {T T' : List Nat} {pos p : Pos}
theorem s_forB (i : Nat) {x : Str} (hc : X.calm = true) (hg : JG K X T tg g fg) (hb : JB K X T' sts ts fs) (hN : X.N[i]? = some x := by rfl) (hv : Vis X.env.scope x := by first | exact Or.inl rfl | exact Or.inr (Or.inl rfl) | exact Or.inr (Or.inr rfl)) (hd : (x == ("__debug__" : Str)) = false := by decide)
    (hcd : (x == ("__classdict__" : Str)) = false := by decide) (hn : i ∉ T ++ T' := by decide) (hp : PassesOwn (model X.prog X.w) X.A X.env X.xe := by exact PassesOwn.never)
    (hs : ∀ y, foldedSetIterable (.Name x p) X.env y = pure y := by intro _; rfl) (hk : X.K = K := by rfl) : JS K X (T ++ T') (.For tg (.Name x p) sts [] pos) (tFor (iList K (tVar i)) g ts) (fForB i fg fs) := by
  subst hk
  exact ⟨ps_for hp hc (pi_list (pe_var hN hv hd hcd)) hg.p hb.p hs, rs_forB hn hg.r hb.r⟩
end
end Fx
set_option Elab.async false
set_option linter.all false
set_option maxRecDepth 100000
/-! Fx: the end of a law's row, where the law's own def calls repr (no call of repr runs around it). -/
namespace Fx
open PySem PySem.Spec L2
/-- the abstract heap in which the script alone is told -/
def scriptH (a : Addr) (us : List Value) (ns : List Int) : Hp := fun c => if c = a then some (.frz { cls := .type "list", data := .seq us.toArray } (.lst (ns.map V.int))) else none
theorem scriptH_at {a : Addr} {us : List Value} {ns : List Int} : scriptH a us ns a = some (.frz { cls := .type "list", data := .seq us.toArray } (.lst (ns.map V.int))) := if_pos rfl
theorem scriptH_off {a c : Addr} {us : List Value} {ns : List Int} (h : c ≠ a) : scriptH a us ns c = none := if_neg h
theorem only_script {a : Addr} {us : List Value} {ns : List Int} : Only (scriptH a us ns) := fun c => by
  by_cases h : c = a
  · subst h; exact .inr ⟨_, _, scriptH_at⟩
  · exact .inl (scriptH_off h)
/-- what a def of the text wants at the law's call -/
theorem law_env {P : Program} {w : World} {K : Fr} {mg mb : Str → Option Value} {a : Addr} {z : Shared} {us : List Value} {ns : List Int} (kin : K.In z.heap) (gl : z.heap.Ns mainGlobals mg) (bl : z.heap.Ns builtinsNs mb)
    (bb : ∀ x : Str, x ≠ "__name__" → mb x = bootBuiltins x) (lim : z.heap.NoLimit) (gens : z.gens = #[]) (ho : z.heap.get? a = some { cls := .type "list", data := .seq us.toArray }) (hi : PyProof.Rows.IntsAre us ns) (small : ns.length ≤ sizeLine) :
    ∃ (H : Hp) (base : Heap), Only H ∧ SqL K H a (ns.map V.int) ∧ K.In base ∧ base.Ns mainGlobals mg ∧ Env0 P w K mg base callerA [] z H := by
  have vals := vals_ints hi
  have step : ∀ T : Hp, Only T → SqL K T a (ns.map V.int) → HOk P w T z.heap → (∀ c u, T c = some u → c = a ∧ K.lookup a = none) → ∃ (H : Hp) (base : Heap), Only H ∧ SqL K H a (ns.map V.int) ∧ K.In base ∧ base.Ns mainGlobals mg ∧ Env0 P w K mg base callerA [] z H := by
    intro T oT sT okT onlyA
    have out : ∀ {c : Addr}, (∀ u, T c ≠ some u) → T c = none := fun {c} h => by
      rcases some_or (T c) with ⟨u, e⟩ | e
      · exact absurd e (h u)
      · exact e
    have names : ∀ {c : Addr} {m : Str → Option Value}, z.heap.Ns c m → (hidT z.heap T).Ns c m := by
      rintro c m ⟨o, es, ep, e1, e2, e3⟩
      refine ⟨o, es, ep, hidT_get e1 (out fun u e => ?_), e2, e3⟩
      obtain ⟨rfl, _⟩ := onlyA c u e
      rw [ho] at e1
      cases e1
      cases e2
    have inn : K.In (hidT z.heap T) := fun c o e => hidT_get (kin c o e) (out fun u q => by
      obtain ⟨rfl, n⟩ := onlyA c u q
      rw [n] at e
      cases e)
    obtain ⟨mc, l1, l2⟩ := lim
    exact ⟨T, hidT z.heap T, oT, sT, inn, names gl, rfl, ⟨inn, names gl, ⟨mb, names bl, bb⟩, mc, names l1, l2⟩, fun c o e => of_hidT e, Nat.le_of_eq (hidT_size _ _), trivial, fun c hc => (nomatch (show c ∈ ([] : List Addr) from hc)), okT, .of_eq gens⟩
  rcases some_or (K.lookup a) with ⟨o, e⟩ | e
  · have e1 := kin a o e
    rw [ho] at e1
    cases e1
    exact step (fun _ => none) (fun _ => .inl rfl) (.inr ⟨_, us.toArray, _, e, rfl, rfl, rfl, by rw [List.size_toArray, hi.length]; exact small, by simpa using vals⟩) (fun _ _ q => nomatch q) fun _ _ q => nomatch q
  · refine step (scriptH a us ns) only_script (.inl (.inr ⟨_, scriptH_at⟩)) (fun c u q => ?_) fun c u q => ?_
    · by_cases h : c = a
      · subst h
        rw [scriptH_at] at q
        cases q
        exact ⟨ho, by rw [List.length_map]; exact small, us, _, vals, ho⟩
      · rw [scriptH_off h] at q; cases q
    · by_cases h : c = a
      · exact ⟨h, e⟩
      · rw [scriptH_off h] at q; cases q
/-- the law's own def: its body at the law's call -/
theorem law_runG {P : Program} {w : World} {K : Fr} {mg : Str → Option Value} {base : Heap} {k : Nat} {x : Str} {st : Stmt} {f a : Addr} {fd : FuncData} {N : List Str} {v : Str} {fb : DS → Option Out} {ns : List Int} {z : Shared} {H : Hp} (F : L2.Fun K x x st f fd) (S : FnScope N [v] (defScope st))
    (bind : ∀ (s : Shared) (u : Value), BindsTo s fd ⟨[u], []⟩ [(v, u)]) (hr : Room (k + 1) callerA) (oH : Only H) (sH : SqL K H a (ns.map V.int)) (env : Env0 P w K mg base callerA [] z H)
    (body : ∀ (cdv : Value) (A : Around) (outer : List Env) (s : Shared) (H : Hp) (E : XK), Room k (A.deeper (PyProof.Rows.envOfC x (defScope st) s.heap.objs.size f cdv)) → (A.deeper (PyProof.Rows.envOfC x (defScope st) s.heap.objs.size f cdv)).guards = some [] →
      ∃ t T, JB K (cxOf CX0 P w K mg base N x (defScope st) f cdv A outer s H E).nox T (defBody st) t fb) (yes : funOf N.length fb [.list (ns.map PyData.int)] = some (.sh (.bool true))) :
    codeAny (model P w) callerA (.call (.ref f) ⟨[.ref a], []⟩) (fun r s' => r = .ok (.ret (.bool true)) ∧ PySem.OldK z.heap s'.heap ∧ s'.os = z.os ∧ PyProof.Rows.AllBare s'.gens) z := by
  obtain ⟨oc, od, kV, doc, pm, an, cdv, ct, osl, rfl, lk, hcd⟩ := F.ex
  have kin : K.In z.heap := env.mod.kin.keeps fun b o e => (env.bs b o e).1
  have lim : z.heap.NoLimit := env.mod.nolimit.keeps fun b o e => (env.bs b o e).1
  have kinds : ∀ y ∈ [v].zip [Value.ref a], (defScope st).names.lookup y.1 = some .local ∨ ((defScope st).names.lookup y.1 = some .cell ∧ ((cellsFrom (z.heap.objs.size + 1) (defScope st).names []).lookup y.1).isSome = true) := by
    intro y hy
    obtain rfl : y = (v, Value.ref a) := by simpa using hy
    rcases S.par v (by simp) with q | q
    · exact .inl q
    · exact .inr ⟨q, PySem.W.cellsFrom_some _ _ _ (.inl q)⟩
  refine codeAny_call_function hr.depth (kin _ _ lk) rfl S.co S.gen rfl (PySem.W.codeRec_of kin hcd) (bind z (.ref a) _ _ _ _ ?_)
  refine wpAny_newFunctionEnv_cells (binds := [(v, Value.ref a)]) S.kind kinds fun envv he s1 xx => ?_
  subst he
  refine ⟨lim.keeps xx.toInCall.keep, codeAny_func ?_⟩
  obtain ⟨t, _, J⟩ := body cdv callerA [] z H (fun _ _ _ => False) (hr.deeper _) rfl
  have I := inv_start (CX := CX0) (E := fun _ _ _ => False) (vs := [V.ref a]) (us := [Value.ref a]) S hr.hd env rfl (.cons rfl .nil) xx
  have dlist : DpAll K H [V.ref a] [PyData.list (ns.map PyData.int)] := .cons (.lst sH (by
    clear sH yes
    induction ns with
    | nil => exact .nil
    | cons n ns ih => exact .cons (.int n) ih)) .nil
  have rd : t { nx := fun _ _ => False, rt := fun v _ => v = .bl true } (L2.start N [V.ref a]) H := by
    unfold funOf at yes
    split at yes
    · rename_i o ho
      cases yes
      exact J.r H H _ _ _ _ _ (SI.start (N := N) (Same.refl H) dlist) ho fun v G' H' W' fp sg t1 r1 f1 => by
        have r1 : Dp K G' v (.bool true) := r1.1
        cases r1
        rfl
    · cases yes
    · cases yes
  refine wpAny_mono (J.p.run [] s1 (L2.start N [V.ref a]) H _ (I.wish _) rd) (fun fl s' hs => ?_) fun e s' hs => hs.elim
  cases fl with
  | next => obtain ⟨_, _, _, q⟩ := hs; exact q.elim
  | brk => obtain ⟨_, _, _, q⟩ := hs; exact q.elim
  | cont => obtain ⟨_, _, _, q⟩ := hs; exact q.elim
  | ret u =>
    obtain ⟨v', σ', H', J', rv, q⟩ := hs
    have q : v' = .bl true := q
    subst q
    obtain rfl : u = Value.bool true := rv
    refine ⟨rfl, PySem.OldK.of_keep fun c o e => ?_, J'.os, J'.bare⟩
    rcases some_or (H c) with ⟨y, h⟩ | h
    · rcases oH c with n | ⟨ob, xs, n⟩
      · rw [h] at n; cases n
      · have later := J'.base.frzs c ob _ n
        obtain ⟨e1, _⟩ := env.hok c _ n
        obtain ⟨e2, _⟩ := J'.hok c _ later
        rw [e] at e1
        cases e1
        exact e2
    · exact J'.base.keep c o e h (by intro z; exact (nomatch (show c ∈ ([] : List Addr) from z))) (by intro z; exact (nomatch (show c ∈ ([] : List Addr) from z)))
/-- the goal that k_head leaves, for such a law -/
theorem walk_G {l : PySem.W.OpenLaw} {n k : Nat} {q : Program} {loose : List Str} {XP : (Str → Option Value) → Heap → Prop} {YP : World → Heap → Prop} {d : DefRec} {K : Params → Fr} {st : Stmt} {N : List Str} {v : Str} {fb : DS → Option Out}
    (hn : l.most = some n) (hn2 : n ≤ sizeLine) (hdf : d.params.defaults = []) (hr : Room (k + 1) callerA) (hY : ∀ (w : World) (h : Heap), YP w h → (K w.params).In h)
    (F : ∀ (w : World) (mg : Str → Option Value) (fa : Addr) (h : Heap), (K w.params).In h → h.Ns mainGlobals mg → mg d.name = some (.ref fa) →
      ∃ (x : Str) (fd : FuncData), L2.Fun (K w.params) x x st fa fd ∧ (∀ (s : Shared) (u : Value), BindsTo s fd ⟨[u], []⟩ [(v, u)]) ∧
        ∀ base : Heap, (K w.params).In base → base.Ns mainGlobals mg → ∀ (cdv : Value) (A : Around) (outer : List Env) (s : Shared) (H : Hp) (E : XK), Room k (A.deeper (PyProof.Rows.envOfC x (defScope st) s.heap.objs.size fa cdv)) →
          (A.deeper (PyProof.Rows.envOfC x (defScope st) s.heap.objs.size fa cdv)).guards = some [] → ∃ t T, JB (K w.params) (cxOf CX0 l.prog w (K w.params) mg base N x (defScope st) fa cdv A outer s H E).nox T (defBody st) t fb)
    (S : FnScope N [v] (defScope st)) (yes : ∀ ns : List Int, ns.length ≤ n → funOf N.length fb [.list (ns.map PyData.int)] = some (.sh (.bool true))) :
    PySem.W.WalkO q loose XP YP l.row.toRowW d [] (fun f vs => PySem.call f vs) := by
  refine Att.attach_call hn hdf fun w s₀ z mg mb fa o pm cd doc a us ns G Y ho hd hcd hmg hobj hints hlen hg => ?_
  have KX := hY w _ Y
  obtain ⟨x, fd, FF, bd, body⟩ := F w mg fa _ KX G.T.g hmg
  obtain ⟨H, base, oH, sH, b1, b2, env⟩ := law_env (P := l.prog) (w := w) KX G.T.g G.T.b G.T.builtins G.T.nolimit hg hobj hints (Nat.le_trans hlen hn2)
  exact law_runG FF S bd hr oH sH env (body base b1 b2) (yes ns hlen)
end Fx
set_option Elab.async false
set_option linter.all false
set_option maxRecDepth 100000
set_option maxHeartbeats 4000000
/-! what each def of the linked text computes (printed by gen.py) -/
namespace Lw
open PySem PySem.Spec L2 Fx
def topS (i : Nat) : Stmt := PySem.Challenge.pw_floodmark_k01_vectors_combined.main.body.getD i (.Pass ⟨0, 0, 0, 0⟩)
abbrev s_common_divisor : Stmt := topS 2
abbrev nm_common_divisor : List Str := ["vector", "divisor", "item"]
theorem sc_common_divisor : FnScope nm_common_divisor ["vector"] (defScope s_common_divisor) := ⟨rfl, rfl, rfl, by decide +kernel, rfl, by decide +kernel, by decide +kernel⟩
abbrev s_primitive : Stmt := topS 3
abbrev nm_primitive : List Str := ["vector", "divisor", "item"]
theorem sc_primitive : FnScope nm_primitive ["vector"] (defScope s_primitive) := ⟨rfl, rfl, rfl, by decide +kernel, rfl, by decide +kernel, by decide +kernel⟩
abbrev s_dot : Stmt := topS 4
abbrev nm_dot : List Str := ["first", "second", "a", "b"]
theorem sc_dot : FnScope nm_dot ["first", "second"] (defScope s_dot) := ⟨rfl, rfl, rfl, by decide +kernel, rfl, by decide +kernel, by decide +kernel⟩
abbrev s_combined : Stmt := topS 5
abbrev nm_combined : List Str := ["first", "vector", "second", "other", "a", "b"]
theorem sc_combined : FnScope nm_combined ["first", "vector", "second", "other"] (defScope s_combined) := ⟨rfl, rfl, rfl, by decide +kernel, rfl, by decide +kernel, by decide +kernel⟩
abbrev s_law_cell : Stmt := topS 7
abbrev nm_law_cell : List Str := ["_law_script", "_law_k"]
theorem sc_law_cell : FnScope nm_law_cell ["_law_script", "_law_k"] (defScope s_law_cell) := ⟨rfl, rfl, rfl, by decide +kernel, rfl, by decide +kernel, by decide +kernel⟩
abbrev s_law_draws : Stmt := topS 8
abbrev nm_law_draws : List Str := ["_law_cell_here", "_law_limits", "_law_found", "_law_rest", "_law_state", "_law_free", "_law_limit"]
theorem sc_law_draws : FnScope nm_law_draws ["_law_cell_here", "_law_limits"] (defScope s_law_draws) := ⟨rfl, rfl, rfl, by decide +kernel, rfl, by decide +kernel, by decide +kernel⟩
abbrev s_law_gcd : Stmt := topS 9
abbrev nm_law_gcd : List Str := ["_law_a", "_law_b", "_law_k", "_law_rest"]
theorem sc_law_gcd : FnScope nm_law_gcd ["_law_a", "_law_b"] (defScope s_law_gcd) := ⟨rfl, rfl, rfl, by decide +kernel, rfl, by decide +kernel, by decide +kernel⟩
abbrev s_law_primitive : Stmt := topS 10
abbrev nm_law_primitive : List Str := ["_law_vector_here", "_law_common", "_law_item"]
theorem sc_law_primitive : FnScope nm_law_primitive ["_law_vector_here"] (defScope s_law_primitive) := ⟨rfl, rfl, rfl, by decide +kernel, rfl, by decide +kernel, by decide +kernel⟩
abbrev s_law_dot : Stmt := topS 11
abbrev nm_law_dot : List Str := ["_law_first", "_law_second", "_law_k"]
theorem sc_law_dot : FnScope nm_law_dot ["_law_first", "_law_second"] (defScope s_law_dot) := ⟨rfl, rfl, rfl, by decide +kernel, rfl, by decide +kernel, by decide +kernel⟩
abbrev s_law_sum : Stmt := topS 12
abbrev nm_law_sum : List Str := ["_law_first", "_law_vector_here", "_law_second", "_law_other", "_law_k"]
theorem sc_law_sum : FnScope nm_law_sum ["_law_first", "_law_vector_here", "_law_second", "_law_other"] (defScope s_law_sum) := ⟨rfl, rfl, rfl, by decide +kernel, rfl, by decide +kernel, by decide +kernel⟩
abbrev s_law_pivot : Stmt := topS 13
abbrev nm_law_pivot : List Str := ["_law_vector_here", "_law_column"]
theorem sc_law_pivot : FnScope nm_law_pivot ["_law_vector_here"] (defScope s_law_pivot) := ⟨rfl, rfl, rfl, by decide +kernel, rfl, by decide +kernel, by decide +kernel⟩
abbrev s_law_vector : Stmt := topS 14
abbrev nm_law_vector : List Str := ["_law_cell_here", "_law_size", "_law_draws_here", "_law_k"]
theorem sc_law_vector : FnScope nm_law_vector ["_law_cell_here", "_law_size"] (defScope s_law_vector) := ⟨rfl, rfl, rfl, by decide +kernel, rfl, by decide +kernel, by decide +kernel⟩
abbrev s_law_integers : Stmt := topS 15
abbrev nm_law_integers : List Str := ["_law_vector_here", "_law_size", "_law_item"]
theorem sc_law_integers : FnScope nm_law_integers ["_law_vector_here", "_law_size"] (defScope s_law_integers) := ⟨rfl, rfl, rfl, by decide +kernel, rfl, by decide +kernel, by decide +kernel⟩
abbrev s_law : Stmt := topS 16
abbrev nm_law : List Str := ["_law_script", "_law_k", "_law_size", "_law_vector_here", "_law_other", "_law_factor", "_law_kept", "_law_actual", "_law_common", "_law_item", "_law_told", "_law_joined"]
theorem sc_law : FnScope nm_law ["_law_script"] (defScope s_law) := ⟨rfl, rfl, rfl, by decide +kernel, rfl, by decide +kernel, by decide +kernel⟩
structure Tx (K : PySem.W.Frag) (mg : Str → Option Value) : Prop where
  m_abs : mg "abs" = none
  m_all : mg "all" = none
  m_any : mg "any" = none
  m_bool : mg "bool" = none
  m_int : mg "int" = none
  m_isinstance : mg "isinstance" = none
  m_len : mg "len" = none
  m_list : mg "list" = none
  m_range : mg "range" = none
  m_repr : mg "repr" = none
  m_sum : mg "sum" = none
  m_zip : mg "zip" = none
  m_gcd : mg "gcd" = some (.builtin "math.gcd")
  F_common_divisor : ∃ f fd, L2.Fun K "common_divisor" "common_divisor" s_common_divisor f fd ∧ mg "common_divisor" = some (.ref f) ∧ Binds K fd ["vector"] []
  F_primitive : ∃ f fd, L2.Fun K "primitive" "primitive" s_primitive f fd ∧ mg "primitive" = some (.ref f) ∧ Binds K fd ["vector"] []
  F_dot : ∃ f fd, L2.Fun K "dot" "dot" s_dot f fd ∧ mg "dot" = some (.ref f) ∧ Binds K fd ["first", "second"] []
  F_combined : ∃ f fd, L2.Fun K "combined" "combined" s_combined f fd ∧ mg "combined" = some (.ref f) ∧ Binds K fd ["first", "vector", "second", "other"] []
  F_law_cell : ∃ f fd, L2.Fun K "_law_cell" "_law_cell" s_law_cell f fd ∧ mg "_law_cell" = some (.ref f) ∧ Binds K fd ["_law_script", "_law_k"] []
  F_law_draws : ∃ f fd, L2.Fun K "_law_draws" "_law_draws" s_law_draws f fd ∧ mg "_law_draws" = some (.ref f) ∧ Binds K fd ["_law_cell_here", "_law_limits"] []
  F_law_gcd : ∃ f fd, L2.Fun K "_law_gcd" "_law_gcd" s_law_gcd f fd ∧ mg "_law_gcd" = some (.ref f) ∧ Binds K fd ["_law_a", "_law_b"] []
  F_law_primitive : ∃ f fd, L2.Fun K "_law_primitive" "_law_primitive" s_law_primitive f fd ∧ mg "_law_primitive" = some (.ref f) ∧ Binds K fd ["_law_vector_here"] []
  F_law_dot : ∃ f fd, L2.Fun K "_law_dot" "_law_dot" s_law_dot f fd ∧ mg "_law_dot" = some (.ref f) ∧ Binds K fd ["_law_first", "_law_second"] []
  F_law_sum : ∃ f fd, L2.Fun K "_law_sum" "_law_sum" s_law_sum f fd ∧ mg "_law_sum" = some (.ref f) ∧ Binds K fd ["_law_first", "_law_vector_here", "_law_second", "_law_other"] []
  F_law_pivot : ∃ f fd, L2.Fun K "_law_pivot" "_law_pivot" s_law_pivot f fd ∧ mg "_law_pivot" = some (.ref f) ∧ Binds K fd ["_law_vector_here"] []
  F_law_vector : ∃ f fd, L2.Fun K "_law_vector" "_law_vector" s_law_vector f fd ∧ mg "_law_vector" = some (.ref f) ∧ Binds K fd ["_law_cell_here", "_law_size"] []
  F_law_integers : ∃ f fd, L2.Fun K "_law_integers" "_law_integers" s_law_integers f fd ∧ mg "_law_integers" = some (.ref f) ∧ Binds K fd ["_law_vector_here", "_law_size"] []
  F_law : ∃ f fd, L2.Fun K "law" "law" s_law f fd ∧ mg "law" = some (.ref f) ∧ Binds K fd ["_law_script"] []
theorem r65 {k : Nat} {A : Around} (r : Room k A) : A.units + 65 < cLine := by have := r.un; omega
noncomputable def fb_common_divisor : DS → Option Out := (fSeq (fSet 1 (fC (.int 0))) (fSeq (fFor (fiList (fVar 0)) (fgName 2) (fSet 1 (fCa gGcd (fCons (fVar 1) (fCons (fVar 2) fNil))))) (fRet (fVar 1))))
noncomputable def g_common_divisor : List D → Option OV := funOf 3 fb_common_divisor
noncomputable def fb_primitive : DS → Option Out := (fSeq (fSet 1 (fCall 1 g_common_divisor (fCons (fVar 0) fNil))) (fSeq (fIfS (fBool (fOp (gCmp fun i j => decide (i ≤ j)) (fVar 1) (fC (.int 1)))) (fRet (fListOf (fCons (fVar 0) fNil))) fNext) (fRet (fLc (fiList (fVar 0)) (fgName 2) fYes (fOp (gI cFd fun i j => .int (i.fdiv j)) (fVar 2) (fVar 1)) [2]))))
noncomputable def g_primitive : List D → Option OV := funOf 3 fb_primitive
noncomputable def fb_dot : DS → Option Out := (fRet (fCa gSum (fCons (fLc (fiZip (fCons (fVar 0) (fCons (fVar 1) fNil))) (fgTup 2 (fgCons (fgName 2) (fgCons (fgName 3) fgNil))) fYes (fMul (fVar 2) (fVar 3)) [2, 3]) fNil)))
noncomputable def g_dot : List D → Option OV := funOf 4 fb_dot
noncomputable def fb_combined : DS → Option Out := (fRet (fLc (fiZip (fCons (fVar 1) (fCons (fVar 3) fNil))) (fgTup 2 (fgCons (fgName 4) (fgCons (fgName 5) fgNil))) fYes (fAdd (fMul (fVar 0) (fVar 4)) (fMul (fVar 2) (fVar 5))) [4, 5]))
noncomputable def g_combined : List D → Option OV := funOf 6 fb_combined
noncomputable def fb_law_cell : DS → Option Out := (fSeq (fIfS (fBool (fOp (gCmp fun i j => decide (i < j)) (fVar 1) (fCa gLen (fCons (fVar 0) fNil)))) (fRet (fCa gInt (fCons (fIx (fVar 0) (fVar 1)) fNil))) fNext) (fRet (fC (.int 0))))
noncomputable def g_law_cell : List D → Option OV := funOf 2 fb_law_cell
noncomputable def fb_law_draws : DS → Option Out := (fSeq (fSet 2 (fLst fNil)) (fSeq (fSet 3 (fCa (g1I fun i => .int (if i < 0 then -i else i)) (fCons (fCa gInt (fCons (fVar 0) fNil)) fNil))) (fSeq (fSet 4 (fOp (gI cNz fun i j => .int (i.fmod j)) (fCa gInt (fCons (fVar 3) fNil)) (fC (.int 2147483647)))) (fSeq (fSet 5 (fOrV (fOp (gCmp fun i j => decide (i < j)) (fVar 0) (fC (.int 0))) (fOp (gCmp fun i j => decide (j ≤ i)) (fVar 0) (fOp (gI cPow fun i j => .int (i ^ j.toNat)) (fC (.int 10)) (fC (.int 18)))))) (fSeq (fFor (fiList (fVar 1)) (fgName 6) (fIfS (fAndT (fTru (fVar 5)) (fBool (fOp (gCmp fun i j => decide (j < i)) (fVar 3) (fC (.int 1))))) (fSeq (fApp 2 (fOp (gI cNz fun i j => .int (i.fmod j)) (fCa gInt (fCons (fVar 3) fNil)) (fVar 6))) (fSet 3 (fOp (gI cFd fun i j => .int (i.fdiv j)) (fVar 3) (fVar 6)))) (fSeq (fSet 4 (fOp (gI cNz fun i j => .int (i.fmod j)) (fCa gInt (fCons (fAdd (fMul (fVar 4) (fC (.int 48271))) (fC (.int 11))) fNil)) (fC (.int 2147483647)))) (fSeq (fSet 4 (fOp (gI cNz fun i j => .int (i.fmod j)) (fCa gInt (fCons (fAdd (fMul (fVar 4) (fC (.int 69621))) (fC (.int 7))) fNil)) (fC (.int 2147483647)))) (fApp 2 (fOp (gI cNz fun i j => .int (i.fmod j)) (fCa gInt (fCons (fOp (gI cFd fun i j => .int (i.fdiv j)) (fVar 4) (fC (.int 13))) fNil)) (fVar 6))))))) (fRet (fVar 2)))))))
noncomputable def g_law_draws : List D → Option OV := funOf 7 fb_law_draws
noncomputable def fb_law_gcd : DS → Option Out := (fSeq (fSet 0 (fCa (g1I fun i => .int (if i < 0 then -i else i)) (fCons (fVar 0) fNil))) (fSeq (fSet 1 (fCa (g1I fun i => .int (if i < 0 then -i else i)) (fCons (fVar 1) fNil))) (fSeq (fFor (fiR1 (fCons (fAdd (fAdd (fUn gBits (fVar 0)) (fUn gBits (fVar 1))) (fC (.int 4))) fNil)) (fgName 2) (fSeq (fIfS (fBool (fOp gEqX (fVar 1) (fC (.int 0)))) (fRet (fVar 0)) fNext) (fSeq (fSet 3 (fOp (gI cNz fun i j => .int (i.fmod j)) (fCa gInt (fCons (fVar 0) fNil)) (fVar 1))) (fSeq (fSet 0 (fVar 1)) (fSet 1 (fVar 3)))))) (fRet (fVar 0)))))
noncomputable def g_law_gcd : List D → Option OV := funOf 4 fb_law_gcd
noncomputable def fb_law_primitive : DS → Option Out := (fSeq (fSet 1 (fC (.int 0))) (fSeq (fFor (fiList (fVar 0)) (fgName 2) (fSet 1 (fCall 2 g_law_gcd (fCons (fVar 1) (fCons (fVar 2) fNil))))) (fSeq (fIfS (fBool (fOp gEqX (fVar 1) (fC (.int 0)))) (fRet (fListOf (fCons (fVar 0) fNil))) fNext) (fRet (fLc (fiList (fVar 0)) (fgName 2) fYes (fOp (gI cFd fun i j => .int (i.fdiv j)) (fVar 2) (fVar 1)) [2])))))
noncomputable def g_law_primitive : List D → Option OV := funOf 3 fb_law_primitive
noncomputable def fb_law_dot : DS → Option Out := (fRet (fCa gSum (fCons (fLc (fiR1 (fCons (fCa gLen (fCons (fVar 0) fNil)) fNil)) (fgName 2) fYes (fMul (fIx (fVar 0) (fVar 2)) (fIx (fVar 1) (fVar 2))) [2]) fNil)))
noncomputable def g_law_dot : List D → Option OV := funOf 3 fb_law_dot
noncomputable def fb_law_sum : DS → Option Out := (fRet (fLc (fiR1 (fCons (fCa gLen (fCons (fVar 1) fNil)) fNil)) (fgName 4) fYes (fAdd (fMul (fVar 0) (fIx (fVar 1) (fVar 4))) (fMul (fVar 2) (fIx (fVar 3) (fVar 4)))) [4]))
noncomputable def g_law_sum : List D → Option OV := funOf 5 fb_law_sum
noncomputable def fb_law_pivot : DS → Option Out := (fSeq (fFor (fiR2 (fCons (fC (.int 1)) (fCons (fCa gLen (fCons (fVar 0) fNil)) fNil))) (fgName 1) (fIfS (fBool (fOp gNeX (fIx (fVar 0) (fVar 1)) (fC (.int 0)))) (fRet (fVar 1)) fNext)) (fSeq (fIfS (fAndT (fBool (fOp (gCmp fun i j => decide (j < i)) (fCa gLen (fCons (fVar 0) fNil)) (fC (.int 0)))) (fBool (fOp gNeX (fIx (fVar 0) (fC (.int 0))) (fC (.int 0))))) (fRet (fC (.int 0))) fNext) (fRet (fC .none))))
noncomputable def g_law_pivot : List D → Option OV := funOf 2 fb_law_pivot
noncomputable def fb_law_vector : DS → Option Out := (fSeq (fSet 2 (fCall 2 g_law_draws (fCons (fVar 0) (fCons (fAdd (fAdd (fLst (fCons (fC (.int 6)) fNil)) (fMul (fLst (fCons (fC (.int 2000001)) fNil)) (fVar 1))) (fMul (fLst (fCons (fC (.int 7)) fNil)) (fVar 1))) fNil)))) (fSeq (fIfS (fBool (fOp gEqX (fIx (fVar 2) (fC (.int 0))) (fC (.int 0)))) (fRet (fLc (fiR1 (fCons (fVar 1) fNil)) (fgName 3) fYes (fOp (gI cT fun i j => .int (i - j)) (fIx (fVar 2) (fAdd (fC (.int 1)) (fVar 3))) (fC (.int 1000000))) [3])) fNext) (fSeq (fIfS (fBool (fOp gEqX (fIx (fVar 2) (fC (.int 0))) (fC (.int 1)))) (fRet (fLc (fiR1 (fCons (fVar 1) fNil)) (fgName 3) fYes (fMul (fOp (gI cT fun i j => .int (i - j)) (fIx (fVar 2) (fAdd (fAdd (fC (.int 1)) (fVar 1)) (fVar 3))) (fC (.int 3))) (fC (.int 6))) [3])) fNext) (fSeq (fIfS (fBool (fOp gEqX (fIx (fVar 2) (fC (.int 0))) (fC (.int 2)))) (fRet (fLc (fiR1 (fCons (fVar 1) fNil)) (fgName 3) fYes (fMul (fCa gInt (fCons (fOp gEqX (fIx (fVar 2) (fAdd (fAdd (fC (.int 1)) (fVar 1)) (fVar 3))) (fC (.int 3))) fNil)) (fAdd (fC (.int 1)) (fIx (fVar 2) (fAdd (fC (.int 1)) (fVar 3))))) [3])) fNext) (fRet (fLc (fiR1 (fCons (fVar 1) fNil)) (fgName 3) fYes (fOp (gI cT fun i j => .int (i - j)) (fIx (fVar 2) (fAdd (fAdd (fC (.int 1)) (fVar 1)) (fVar 3))) (fC (.int 3))) [3]))))))
noncomputable def g_law_vector : List D → Option OV := funOf 4 fb_law_vector
noncomputable def fb_law_integers : DS → Option Out := (fRet (fAndV (fIsi "list" (fVar 0)) (fAndV (fOp gEqX (fCa gLen (fCons (fVar 0) fNil)) (fVar 1)) (fCa gAll (fCons (fLc (fiList (fVar 0)) (fgName 2) fYes (fAndV (fIsi "int" (fVar 2)) (fNotV (fIsi "bool" (fVar 2)))) [2]) fNil)))))
noncomputable def g_law_integers : List D → Option OV := funOf 3 fb_law_integers
noncomputable def fb_law : DS → Option Out := (fSeq (fFor (fiR3 (fCons (fC (.int 0)) (fCons (fAdd (fCa gLen (fCons (fVar 0) fNil)) (fC (.int 4))) (fCons (fC (.int 4)) fNil)))) (fgName 1) (fSeq (fSet 2 (fOp (gI cNz fun i j => .int (i.fmod j)) (fCa gInt (fCons (fCall 2 g_law_cell (fCons (fVar 0) (fCons (fVar 1) fNil))) fNil)) (fC (.int 7)))) (fSeq (fSet 3 (fCall 2 g_law_vector (fCons (fCall 2 g_law_cell (fCons (fVar 0) (fCons (fAdd (fVar 1) (fC (.int 1))) fNil))) (fCons (fVar 2) fNil)))) (fSeq (fSet 4 (fCall 2 g_law_vector (fCons (fCall 2 g_law_cell (fCons (fVar 0) (fCons (fAdd (fVar 1) (fC (.int 2))) fNil))) (fCons (fVar 2) fNil)))) (fSeq (fSet 5 (fOp (gI cT fun i j => .int (i - j)) (fOp (gI cNz fun i j => .int (i.fmod j)) (fCa gInt (fCons (fCall 2 g_law_cell (fCons (fVar 0) (fCons (fAdd (fVar 1) (fC (.int 3))) fNil))) fNil)) (fC (.int 2000003))) (fC (.int 1000001)))) (fSeq (fIfS (fBool (fOp gEqX (fOp (gI cNz fun i j => .int (i.fmod j)) (fOp (gI cFd fun i j => .int (i.fdiv j)) (fCa gInt (fCons (fCall 2 g_law_cell (fCons (fVar 0) (fCons (fVar 1) fNil))) fNil)) (fC (.int 7))) (fC (.int 3))) (fC (.int 1)))) (fSet 3 (fLc (fiList (fVar 3)) (fgName 9) fYes (fMul (fVar 5) (fVar 9)) [9])) fNext) (fSeq (fSet 6 (fCa gRepr (fCons (fLst (fCons (fVar 3) (fCons (fVar 4) fNil))) fNil))) (fSeq (fSet 7 (fCall 1 g_primitive (fCons (fVar 3) fNil))) (fSeq (fIfS (fOrT (fNotT (fTru (fCall 2 g_law_integers (fCons (fVar 7) (fCons (fVar 2) fNil))))) (fBool (fOp gNeX (fVar 7) (fCall 1 g_law_primitive (fCons (fVar 3) fNil))))) (fRet (fC (.bool false))) fNext) (fSeq (fSet 8 (fC (.int 0))) (fSeq (fForB 7 (fgName 9) (fSet 8 (fCall 2 g_law_gcd (fCons (fVar 8) (fCons (fVar 9) fNil))))) (fSeq (fIfS (fOrT (fAndT (fTru (fCa gAny (fCons (fVar 3) fNil))) (fBool (fOp gNeX (fVar 8) (fC (.int 1))))) (fBool (fOp gNeX (fCall 1 g_primitive (fCons (fVar 7) fNil)) (fVar 7)))) (fRet (fC (.bool false))) fNext) (fSeq (fSet 10 (fCall 2 g_dot (fCons (fVar 3) (fCons (fVar 4) fNil)))) (fSeq (fIfS (fOrT (fTru (fIsi "bool" (fVar 10))) (fBool (fOp gNeX (fVar 10) (fCall 2 g_law_dot (fCons (fVar 3) (fCons (fVar 4) fNil)))))) (fRet (fC (.bool false))) fNext) (fSeq (fSet 11 (fCall 4 g_combined (fCons (fVar 5) (fCons (fVar 3) (fCons (fOp (gI cT fun i j => .int (i - j)) (fVar 1) (fC (.int 3))) (fCons (fVar 4) fNil)))))) (fSeq (fIfS (fOrT (fNotT (fTru (fCall 2 g_law_integers (fCons (fVar 11) (fCons (fVar 2) fNil))))) (fOrT (fBool (fOp gNeX (fVar 11) (fCall 4 g_law_sum (fCons (fVar 5) (fCons (fVar 3) (fCons (fOp (gI cT fun i j => .int (i - j)) (fVar 1) (fC (.int 3))) (fCons (fVar 4) fNil))))))) (fBool (fOp gNeX (fCa gRepr (fCons (fLst (fCons (fVar 3) (fCons (fVar 4) fNil))) fNil)) (fVar 6))))) (fRet (fC (.bool false))) fNext) (fSeq (fApp 7 (fC (.int 1))) (fSeq (fApp 11 (fC (.int 1))) (fIfS (fBool (fOp gNeX (fCa gRepr (fCons (fLst (fCons (fVar 3) (fCons (fVar 4) fNil))) fNil)) (fVar 6))) (fRet (fC (.bool false))) fNext))))))))))))))))))) (fRet (fC (.bool true))))
noncomputable def g_law : List D → Option OV := funOf 12 fb_law
section
variable {P : Program} {w : World} {K : PySem.W.Frag} {mg : Str → Option Value} {base : Heap}
theorem d_common_divisor (T : Tx K mg) : Dk P w K mg base 1 "common_divisor" 1 g_common_divisor := by
  obtain ⟨f, fd, F, hm, hb⟩ := T.F_common_divisor
  exact def_ok F hm hb sc_common_divisor fun cdv A outer s H E hr => ⟨_, _, (b_cons (s_set 1 sc_common_divisor.nd j_int) (b_cons (s_for rfl (i_list (jv 0)) (g_name 2 sc_common_divisor.nd) (b_one (s_set 1 sc_common_divisor.nd (j_gcd T.m_gcd (a_cons (jv 1) (a_cons (jv 2) a_nil)))))) (b_one (s_ret (jv 1)))))⟩
theorem d_primitive (T : Tx K mg) : Dk P w K mg base 2 "primitive" 1 g_primitive := by
  obtain ⟨f, fd, F, hm, hb⟩ := T.F_primitive
  exact def_ok F hm hb sc_primitive fun cdv A outer s H E hr => ⟨_, _, (b_cons (s_set 1 sc_primitive.nd (j_call (d_common_divisor T) (hr.mono (by decide)) (a_cons (jv 0) a_nil))) (b_cons (s_if (k_le (jv 1) j_int) (b_one (s_ret (j_list T.m_list (a_cons (jv 0) a_nil)))) b_nil) (b_one (s_ret (j_lc (own := [("item", 2)]) (T := [2]) rfl sc_primitive.nd (i_list (jv 0)) (blkOk_by (own := [("item", 2)]) (N := nm_primitive) (sc := defScope s_primitive) (by decide +kernel)) (fun _ _ _ _ _ => (g_name 2 sc_primitive.nd)) (fun _ _ _ _ _ => s_nil) (fun _ _ _ _ _ => (j_fdiv (jv 2) (jv 1))) (by decide) s H)))))⟩
theorem d_dot (T : Tx K mg) : Dk P w K mg base 1 "dot" 2 g_dot := by
  obtain ⟨f, fd, F, hm, hb⟩ := T.F_dot
  exact def_ok F hm hb sc_dot fun cdv A outer s H E hr => ⟨_, _, (b_one (s_ret (j_sum rfl T.m_sum (a_cons (j_lc (own := [("a", 2), ("b", 3)]) (T := [2, 3]) rfl sc_dot.nd (i_zip T.m_zip (a_cons (jv 0) (a_cons (jv 1) a_nil))) (blkOk_by (own := [("a", 2), ("b", 3)]) (N := nm_dot) (sc := defScope s_dot) (by decide +kernel)) (fun _ _ _ _ _ => (g_tup rfl (gs_cons (g_name 2 sc_dot.nd) (gs_cons (g_name 3 sc_dot.nd) gs_nil)))) (fun _ _ _ _ _ => s_nil) (fun _ _ _ _ _ => (j_mul (jv 2) (jv 3))) (by decide) s H) a_nil))))⟩
theorem d_combined (T : Tx K mg) : Dk P w K mg base 1 "combined" 4 g_combined := by
  obtain ⟨f, fd, F, hm, hb⟩ := T.F_combined
  exact def_ok F hm hb sc_combined fun cdv A outer s H E hr => ⟨_, _, (b_one (s_ret (j_lc (own := [("a", 4), ("b", 5)]) (T := [4, 5]) rfl sc_combined.nd (i_zip T.m_zip (a_cons (jv 1) (a_cons (jv 3) a_nil))) (blkOk_by (own := [("a", 4), ("b", 5)]) (N := nm_combined) (sc := defScope s_combined) (by decide +kernel)) (fun _ _ _ _ _ => (g_tup rfl (gs_cons (g_name 4 sc_combined.nd) (gs_cons (g_name 5 sc_combined.nd) gs_nil)))) (fun _ _ _ _ _ => s_nil) (fun _ _ _ _ _ => (j_add (j_mul (jv 0) (jv 4)) (j_mul (jv 2) (jv 5)))) (by decide) s H)))⟩
theorem d_law_cell (T : Tx K mg) : Dk P w K mg base 1 "_law_cell" 2 g_law_cell := by
  obtain ⟨f, fd, F, hm, hb⟩ := T.F_law_cell
  exact def_ok F hm hb sc_law_cell fun cdv A outer s H E hr => ⟨_, _, (b_cons (s_if (k_lt (jv 1) (j_len T.m_len (a_cons (jv 0) a_nil))) (b_one (s_ret (j_intc T.m_int (a_cons (j_ix (jv 0) (jv 1)) a_nil)))) b_nil) (b_one (s_ret j_int)))⟩
theorem d_law_draws (T : Tx K mg) : Dk P w K mg base 1 "_law_draws" 2 g_law_draws := by
  obtain ⟨f, fd, F, hm, hb⟩ := T.F_law_draws
  exact def_ok F hm hb sc_law_draws fun cdv A outer s H E hr => ⟨_, _, (b_cons (s_set 2 sc_law_draws.nd (j_lst a_nil)) (b_cons (s_set 3 sc_law_draws.nd (j_abs T.m_abs (a_cons (j_intc T.m_int (a_cons (jv 0) a_nil)) a_nil))) (b_cons (s_set 4 sc_law_draws.nd (j_mod (j_intc T.m_int (a_cons (jv 3) a_nil)) j_int)) (b_cons (s_set 5 sc_law_draws.nd (j_or (j_lt (jv 0) j_int) (j_one (j_ge (jv 0) (j_pow j_int j_int))))) (b_cons (s_for rfl (i_list (jv 1)) (g_name 6 sc_law_draws.nd) (b_one (s_if (k_w (w_and (k_tru (jv 5)) (w_and1 (k_gt (jv 3) j_int)))) (b_cons (s_app 2 (j_mod (j_intc T.m_int (a_cons (jv 3) a_nil)) (jv 6))) (b_one (s_set 3 sc_law_draws.nd (j_fdiv (jv 3) (jv 6))))) (b_cons (s_set 4 sc_law_draws.nd (j_mod (j_intc T.m_int (a_cons (j_add (j_mul (jv 4) j_int) j_int) a_nil)) j_int)) (b_cons (s_set 4 sc_law_draws.nd (j_mod (j_intc T.m_int (a_cons (j_add (j_mul (jv 4) j_int) j_int) a_nil)) j_int)) (b_one (s_app 2 (j_mod (j_intc T.m_int (a_cons (j_fdiv (jv 4) j_int) a_nil)) (jv 6))))))))) (b_one (s_ret (jv 2))))))))⟩
theorem d_law_gcd (T : Tx K mg) : Dk P w K mg base 1 "_law_gcd" 2 g_law_gcd := by
  obtain ⟨f, fd, F, hm, hb⟩ := T.F_law_gcd
  exact def_ok F hm hb sc_law_gcd fun cdv A outer s H E hr => ⟨_, _, (b_cons (s_set 0 sc_law_gcd.nd (j_abs T.m_abs (a_cons (jv 0) a_nil))) (b_cons (s_set 1 sc_law_gcd.nd (j_abs T.m_abs (a_cons (jv 1) a_nil))) (b_cons (s_for rfl (i_r1 T.m_range (a_cons (j_add (j_add (j_bits (jv 0)) (j_bits (jv 1))) j_int) a_nil)) (g_name 2 sc_law_gcd.nd) (b_cons (s_if (k_eq hr.units (jv 1) j_int) (b_one (s_ret (jv 0))) b_nil) (b_cons (s_set 3 sc_law_gcd.nd (j_mod (j_intc T.m_int (a_cons (jv 0) a_nil)) (jv 1))) (b_cons (s_set 0 sc_law_gcd.nd (jv 1)) (b_one (s_set 1 sc_law_gcd.nd (jv 3))))))) (b_one (s_ret (jv 0))))))⟩
theorem d_law_primitive (T : Tx K mg) : Dk P w K mg base 2 "_law_primitive" 1 g_law_primitive := by
  obtain ⟨f, fd, F, hm, hb⟩ := T.F_law_primitive
  exact def_ok F hm hb sc_law_primitive fun cdv A outer s H E hr => ⟨_, _, (b_cons (s_set 1 sc_law_primitive.nd j_int) (b_cons (s_for rfl (i_list (jv 0)) (g_name 2 sc_law_primitive.nd) (b_one (s_set 1 sc_law_primitive.nd (j_call (d_law_gcd T) (hr.mono (by decide)) (a_cons (jv 1) (a_cons (jv 2) a_nil)))))) (b_cons (s_if (k_eq hr.units (jv 1) j_int) (b_one (s_ret (j_list T.m_list (a_cons (jv 0) a_nil)))) b_nil) (b_one (s_ret (j_lc (own := [("_law_item", 2)]) (T := [2]) rfl sc_law_primitive.nd (i_list (jv 0)) (blkOk_by (own := [("_law_item", 2)]) (N := nm_law_primitive) (sc := defScope s_law_primitive) (by decide +kernel)) (fun _ _ _ _ _ => (g_name 2 sc_law_primitive.nd)) (fun _ _ _ _ _ => s_nil) (fun _ _ _ _ _ => (j_fdiv (jv 2) (jv 1))) (by decide) s H))))))⟩
theorem d_law_dot (T : Tx K mg) : Dk P w K mg base 1 "_law_dot" 2 g_law_dot := by
  obtain ⟨f, fd, F, hm, hb⟩ := T.F_law_dot
  exact def_ok F hm hb sc_law_dot fun cdv A outer s H E hr => ⟨_, _, (b_one (s_ret (j_sum rfl T.m_sum (a_cons (j_lc (own := [("_law_k", 2)]) (T := [2]) rfl sc_law_dot.nd (i_r1 T.m_range (a_cons (j_len T.m_len (a_cons (jv 0) a_nil)) a_nil)) (blkOk_by (own := [("_law_k", 2)]) (N := nm_law_dot) (sc := defScope s_law_dot) (by decide +kernel)) (fun _ _ _ _ _ => (g_name 2 sc_law_dot.nd)) (fun _ _ _ _ _ => s_nil) (fun _ _ _ _ _ => (j_mul (j_ix (jv 0) (jv 2)) (j_ix (jv 1) (jv 2)))) (by decide) s H) a_nil))))⟩
theorem d_law_sum (T : Tx K mg) : Dk P w K mg base 1 "_law_sum" 4 g_law_sum := by
  obtain ⟨f, fd, F, hm, hb⟩ := T.F_law_sum
  exact def_ok F hm hb sc_law_sum fun cdv A outer s H E hr => ⟨_, _, (b_one (s_ret (j_lc (own := [("_law_k", 4)]) (T := [4]) rfl sc_law_sum.nd (i_r1 T.m_range (a_cons (j_len T.m_len (a_cons (jv 1) a_nil)) a_nil)) (blkOk_by (own := [("_law_k", 4)]) (N := nm_law_sum) (sc := defScope s_law_sum) (by decide +kernel)) (fun _ _ _ _ _ => (g_name 4 sc_law_sum.nd)) (fun _ _ _ _ _ => s_nil) (fun _ _ _ _ _ => (j_add (j_mul (jv 0) (j_ix (jv 1) (jv 4))) (j_mul (jv 2) (j_ix (jv 3) (jv 4))))) (by decide) s H)))⟩
theorem d_law_pivot (T : Tx K mg) : Dk P w K mg base 1 "_law_pivot" 1 g_law_pivot := by
  obtain ⟨f, fd, F, hm, hb⟩ := T.F_law_pivot
  exact def_ok F hm hb sc_law_pivot fun cdv A outer s H E hr => ⟨_, _, (b_cons (s_for rfl (i_r2 T.m_range (a_cons j_int (a_cons (j_len T.m_len (a_cons (jv 0) a_nil)) a_nil))) (g_name 1 sc_law_pivot.nd) (b_one (s_if (k_ne hr.units (j_ix (jv 0) (jv 1)) j_int) (b_one (s_ret (jv 1))) b_nil))) (b_cons (s_if (k_w (w_and (k_gt (j_len T.m_len (a_cons (jv 0) a_nil)) j_int) (w_and1 (k_ne hr.units (j_ix (jv 0) j_int) j_int)))) (b_one (s_ret j_int)) b_nil) (b_one (s_ret j_non))))⟩
theorem d_law_vector (T : Tx K mg) : Dk P w K mg base 2 "_law_vector" 2 g_law_vector := by
  obtain ⟨f, fd, F, hm, hb⟩ := T.F_law_vector
  exact def_ok F hm hb sc_law_vector fun cdv A outer s H E hr => ⟨_, _, (b_cons (s_set 2 sc_law_vector.nd (j_call (d_law_draws T) (hr.mono (by decide)) (a_cons (jv 0) (a_cons (j_add (j_add (j_lst (a_cons j_int a_nil)) (j_mul (j_lst (a_cons j_int a_nil)) (jv 1))) (j_mul (j_lst (a_cons j_int a_nil)) (jv 1))) a_nil)))) (b_cons (s_if (k_eq hr.units (j_ix (jv 2) j_int) j_int) (b_one (s_ret (j_lc (own := [("_law_k", 3)]) (T := [3]) rfl sc_law_vector.nd (i_r1 T.m_range (a_cons (jv 1) a_nil)) (blkOk_by (own := [("_law_k", 3)]) (N := nm_law_vector) (sc := defScope s_law_vector) (by decide +kernel)) (fun _ _ _ _ _ => (g_name 3 sc_law_vector.nd)) (fun _ _ _ _ _ => s_nil) (fun _ _ _ _ _ => (j_sub (j_ix (jv 2) (j_add j_int (jv 3))) j_int)) (by decide) s H))) b_nil) (b_cons (s_if (k_eq hr.units (j_ix (jv 2) j_int) j_int) (b_one (s_ret (j_lc (own := [("_law_k", 3)]) (T := [3]) rfl sc_law_vector.nd (i_r1 T.m_range (a_cons (jv 1) a_nil)) (blkOk_by (own := [("_law_k", 3)]) (N := nm_law_vector) (sc := defScope s_law_vector) (by decide +kernel)) (fun _ _ _ _ _ => (g_name 3 sc_law_vector.nd)) (fun _ _ _ _ _ => s_nil) (fun _ _ _ _ _ => (j_mul (j_sub (j_ix (jv 2) (j_add (j_add j_int (jv 1)) (jv 3))) j_int) j_int)) (by decide) s H))) b_nil) (b_cons (s_if (k_eq hr.units (j_ix (jv 2) j_int) j_int) (b_one (s_ret (j_lc (own := [("_law_k", 3)]) (T := [3]) rfl sc_law_vector.nd (i_r1 T.m_range (a_cons (jv 1) a_nil)) (blkOk_by (own := [("_law_k", 3)]) (N := nm_law_vector) (sc := defScope s_law_vector) (by decide +kernel)) (fun _ _ _ _ _ => (g_name 3 sc_law_vector.nd)) (fun _ _ _ _ _ => s_nil) (fun _ _ _ _ _ => (j_mul (j_intc T.m_int (a_cons (j_eq hr.units (j_ix (jv 2) (j_add (j_add j_int (jv 1)) (jv 3))) j_int) a_nil)) (j_add j_int (j_ix (jv 2) (j_add j_int (jv 3)))))) (by decide) s H))) b_nil) (b_one (s_ret (j_lc (own := [("_law_k", 3)]) (T := [3]) rfl sc_law_vector.nd (i_r1 T.m_range (a_cons (jv 1) a_nil)) (blkOk_by (own := [("_law_k", 3)]) (N := nm_law_vector) (sc := defScope s_law_vector) (by decide +kernel)) (fun _ _ _ _ _ => (g_name 3 sc_law_vector.nd)) (fun _ _ _ _ _ => s_nil) (fun _ _ _ _ _ => (j_sub (j_ix (jv 2) (j_add (j_add j_int (jv 1)) (jv 3))) j_int)) (by decide) s H)))))))⟩
theorem d_law_integers (T : Tx K mg) : Dk P w K mg base 1 "_law_integers" 2 g_law_integers := by
  obtain ⟨f, fd, F, hm, hb⟩ := T.F_law_integers
  exact def_ok F hm hb sc_law_integers fun cdv A outer s H E hr => ⟨_, _, (b_one (s_ret (j_and (j_isi (n := "list") T.m_isinstance T.m_list (jv 0)) (j_and (j_eq hr.units (j_len T.m_len (a_cons (jv 0) a_nil)) (jv 1)) (j_one (j_all rfl T.m_all (a_cons (j_lc (own := [("_law_item", 2)]) (T := [2]) rfl sc_law_integers.nd (i_list (jv 0)) (blkOk_by (own := [("_law_item", 2)]) (N := nm_law_integers) (sc := defScope s_law_integers) (by decide +kernel)) (fun _ _ _ _ _ => (g_name 2 sc_law_integers.nd)) (fun _ _ _ _ _ => s_nil) (fun _ _ _ _ _ => (j_and (j_isi (n := "int") T.m_isinstance T.m_int (jv 2)) (j_one (j_not (j_isi (n := "bool") T.m_isinstance T.m_bool (jv 2)))))) (by decide) s H) a_nil)))))))⟩
theorem d_law (T : Tx K mg) (f : Addr) (cdv : Value) (A : Around) (outer : List Env) (s : Shared) (H : Hp) (E : XK) (hr : Room 2 (A.deeper (PyProof.Rows.envOfC "law" (defScope s_law) s.heap.objs.size f cdv))) (hA : (A.deeper (PyProof.Rows.envOfC "law" (defScope s_law) s.heap.objs.size f cdv)).guards = some []) :
  ∃ t T, JB K (cxOf CX0 P w K mg base nm_law "law" (defScope s_law) f cdv A outer s H E).nox T (defBody s_law) t fb_law := ⟨_, _, (b_cons (s_for rfl (i_r3 T.m_range (a_cons j_int (a_cons (j_add (j_len T.m_len (a_cons (jv 0) a_nil)) j_int) (a_cons j_int a_nil)))) (g_name 1 sc_law.nd) (b_cons (s_set 2 sc_law.nd (j_mod (j_intc T.m_int (a_cons (j_call (d_law_cell T) (hr.mono (by decide)) (a_cons (jv 0) (a_cons (jv 1) a_nil))) a_nil)) j_int)) (b_cons (s_set 3 sc_law.nd (j_call (d_law_vector T) (hr.mono (by decide)) (a_cons (j_call (d_law_cell T) (hr.mono (by decide)) (a_cons (jv 0) (a_cons (j_add (jv 1) j_int) a_nil))) (a_cons (jv 2) a_nil)))) (b_cons (s_set 4 sc_law.nd (j_call (d_law_vector T) (hr.mono (by decide)) (a_cons (j_call (d_law_cell T) (hr.mono (by decide)) (a_cons (jv 0) (a_cons (j_add (jv 1) j_int) a_nil))) (a_cons (jv 2) a_nil)))) (b_cons (s_set 5 sc_law.nd (j_sub (j_mod (j_intc T.m_int (a_cons (j_call (d_law_cell T) (hr.mono (by decide)) (a_cons (jv 0) (a_cons (j_add (jv 1) j_int) a_nil))) a_nil)) j_int) j_int)) (b_cons (s_if (k_eq hr.units (j_mod (j_fdiv (j_intc T.m_int (a_cons (j_call (d_law_cell T) (hr.mono (by decide)) (a_cons (jv 0) (a_cons (jv 1) a_nil))) a_nil)) j_int) j_int) j_int) (b_one (s_setLc (own := [("_law_item", 9)]) (T := [9]) 3 rfl sc_law.nd (sw_true rfl rfl rfl (by decide +kernel)) (i_list (jv 3)) (blkOk_by (own := [("_law_item", 9)]) (N := nm_law) (sc := defScope s_law) (by decide +kernel)) (fun _ _ _ _ _ => (g_name 9 sc_law.nd)) (fun _ _ _ _ _ => s_nil) (fun _ _ _ _ _ => (j_mul (jv 5) (jv 9))) (by decide) s H)) b_nil) (b_cons (s_set 6 sc_law.nd (j_repr hA hr.units T.m_repr (a_cons (j_lst (a_cons (jv 3) (a_cons (jv 4) a_nil))) a_nil))) (b_cons (s_set 7 sc_law.nd (j_call (d_primitive T) (hr.mono (by decide)) (a_cons (jv 3) a_nil))) (b_cons (s_if (k_w (w_or (k_not (k_tru (j_call (d_law_integers T) (hr.mono (by decide)) (a_cons (jv 7) (a_cons (jv 2) a_nil))))) (w_or1 (k_ne hr.units (jv 7) (j_call (d_law_primitive T) (hr.mono (by decide)) (a_cons (jv 3) a_nil)))))) (b_one (s_ret j_bl)) b_nil) (b_cons (s_set 8 sc_law.nd j_int) (b_cons (s_forB 7 rfl (g_name 9 sc_law.nd) (b_one (s_set 8 sc_law.nd (j_call (d_law_gcd T) (hr.mono (by decide)) (a_cons (jv 8) (a_cons (jv 9) a_nil)))))) (b_cons (s_if (k_w (w_or (k_w (w_and (k_tru (j_any rfl T.m_any (a_cons (jv 3) a_nil))) (w_and1 (k_ne hr.units (jv 8) j_int)))) (w_or1 (k_ne hr.units (j_call (d_primitive T) (hr.mono (by decide)) (a_cons (jv 7) a_nil)) (jv 7))))) (b_one (s_ret j_bl)) b_nil) (b_cons (s_set 10 sc_law.nd (j_call (d_dot T) (hr.mono (by decide)) (a_cons (jv 3) (a_cons (jv 4) a_nil)))) (b_cons (s_if (k_w (w_or (k_tru (j_isi (n := "bool") T.m_isinstance T.m_bool (jv 10))) (w_or1 (k_ne hr.units (jv 10) (j_call (d_law_dot T) (hr.mono (by decide)) (a_cons (jv 3) (a_cons (jv 4) a_nil))))))) (b_one (s_ret j_bl)) b_nil) (b_cons (s_set 11 sc_law.nd (j_call (d_combined T) (hr.mono (by decide)) (a_cons (jv 5) (a_cons (jv 3) (a_cons (j_sub (jv 1) j_int) (a_cons (jv 4) a_nil)))))) (b_cons (s_if (k_w (w_or (k_not (k_tru (j_call (d_law_integers T) (hr.mono (by decide)) (a_cons (jv 11) (a_cons (jv 2) a_nil))))) (w_or (k_ne hr.units (jv 11) (j_call (d_law_sum T) (hr.mono (by decide)) (a_cons (jv 5) (a_cons (jv 3) (a_cons (j_sub (jv 1) j_int) (a_cons (jv 4) a_nil)))))) (w_or1 (k_ne hr.units (j_repr hA hr.units T.m_repr (a_cons (j_lst (a_cons (jv 3) (a_cons (jv 4) a_nil))) a_nil)) (jv 6)))))) (b_one (s_ret j_bl)) b_nil) (b_cons (s_app 7 j_int) (b_cons (s_app 11 j_int) (b_one (s_if (k_ne hr.units (j_repr hA hr.units T.m_repr (a_cons (j_lst (a_cons (jv 3) (a_cons (jv 4) a_nil))) a_nil)) (jv 6)) (b_one (s_ret j_bl)) b_nil)))))))))))))))))))) (b_one (s_ret j_bl)))⟩
end
end Lw
set_option Elab.async false
set_option linter.all false
set_option maxRecDepth 100000
/-! what some defs of the linked texts compute (lines of gen.py's print) -/
namespace LF
open PySem PySem.Spec L2 Fx
noncomputable def fb_common_divisor : DS → Option Out := (fSeq (fSet 1 (fC (.int 0))) (fSeq (fFor (fiList (fVar 0)) (fgName 2) (fSet 1 (fCa gGcd (fCons (fVar 1) (fCons (fVar 2) fNil))))) (fRet (fVar 1))))
noncomputable def g_common_divisor : List D → Option OV := funOf 3 fb_common_divisor
noncomputable def fb_primitive : DS → Option Out := (fSeq (fSet 1 (fCall 1 g_common_divisor (fCons (fVar 0) fNil))) (fSeq (fIfS (fBool (fOp (gCmp fun i j => decide (i ≤ j)) (fVar 1) (fC (.int 1)))) (fRet (fListOf (fCons (fVar 0) fNil))) fNext) (fRet (fLc (fiList (fVar 0)) (fgName 2) fYes (fOp (gI cFd fun i j => .int (i.fdiv j)) (fVar 2) (fVar 1)) [2]))))
noncomputable def g_primitive : List D → Option OV := funOf 3 fb_primitive
noncomputable def fb_dot : DS → Option Out := (fRet (fCa gSum (fCons (fLc (fiZip (fCons (fVar 0) (fCons (fVar 1) fNil))) (fgTup 2 (fgCons (fgName 2) (fgCons (fgName 3) fgNil))) fYes (fMul (fVar 2) (fVar 3)) [2, 3]) fNil)))
noncomputable def g_dot : List D → Option OV := funOf 4 fb_dot
noncomputable def fb_combined : DS → Option Out := (fRet (fLc (fiZip (fCons (fVar 1) (fCons (fVar 3) fNil))) (fgTup 2 (fgCons (fgName 4) (fgCons (fgName 5) fgNil))) fYes (fAdd (fMul (fVar 0) (fVar 4)) (fMul (fVar 2) (fVar 5))) [4, 5]))
noncomputable def g_combined : List D → Option OV := funOf 6 fb_combined
noncomputable def fb_law_cell : DS → Option Out := (fSeq (fIfS (fBool (fOp (gCmp fun i j => decide (i < j)) (fVar 1) (fCa gLen (fCons (fVar 0) fNil)))) (fRet (fCa gInt (fCons (fIx (fVar 0) (fVar 1)) fNil))) fNext) (fRet (fC (.int 0))))
noncomputable def g_law_cell : List D → Option OV := funOf 2 fb_law_cell
noncomputable def fb_law_draws : DS → Option Out := (fSeq (fSet 2 (fLst fNil)) (fSeq (fSet 3 (fCa (g1I fun i => .int (if i < 0 then -i else i)) (fCons (fCa gInt (fCons (fVar 0) fNil)) fNil))) (fSeq (fSet 4 (fOp (gI cNz fun i j => .int (i.fmod j)) (fCa gInt (fCons (fVar 3) fNil)) (fC (.int 2147483647)))) (fSeq (fSet 5 (fOrV (fOp (gCmp fun i j => decide (i < j)) (fVar 0) (fC (.int 0))) (fOp (gCmp fun i j => decide (j ≤ i)) (fVar 0) (fOp (gI cPow fun i j => .int (i ^ j.toNat)) (fC (.int 10)) (fC (.int 18)))))) (fSeq (fFor (fiList (fVar 1)) (fgName 6) (fIfS (fAndT (fTru (fVar 5)) (fBool (fOp (gCmp fun i j => decide (j < i)) (fVar 3) (fC (.int 1))))) (fSeq (fApp 2 (fOp (gI cNz fun i j => .int (i.fmod j)) (fCa gInt (fCons (fVar 3) fNil)) (fVar 6))) (fSet 3 (fOp (gI cFd fun i j => .int (i.fdiv j)) (fVar 3) (fVar 6)))) (fSeq (fSet 4 (fOp (gI cNz fun i j => .int (i.fmod j)) (fCa gInt (fCons (fAdd (fMul (fVar 4) (fC (.int 48271))) (fC (.int 11))) fNil)) (fC (.int 2147483647)))) (fSeq (fSet 4 (fOp (gI cNz fun i j => .int (i.fmod j)) (fCa gInt (fCons (fAdd (fMul (fVar 4) (fC (.int 69621))) (fC (.int 7))) fNil)) (fC (.int 2147483647)))) (fApp 2 (fOp (gI cNz fun i j => .int (i.fmod j)) (fCa gInt (fCons (fOp (gI cFd fun i j => .int (i.fdiv j)) (fVar 4) (fC (.int 13))) fNil)) (fVar 6))))))) (fRet (fVar 2)))))))
noncomputable def g_law_draws : List D → Option OV := funOf 7 fb_law_draws
noncomputable def fb_law_gcd : DS → Option Out := (fSeq (fSet 0 (fCa (g1I fun i => .int (if i < 0 then -i else i)) (fCons (fVar 0) fNil))) (fSeq (fSet 1 (fCa (g1I fun i => .int (if i < 0 then -i else i)) (fCons (fVar 1) fNil))) (fSeq (fFor (fiR1 (fCons (fAdd (fAdd (fUn gBits (fVar 0)) (fUn gBits (fVar 1))) (fC (.int 4))) fNil)) (fgName 2) (fSeq (fIfS (fBool (fOp gEqX (fVar 1) (fC (.int 0)))) (fRet (fVar 0)) fNext) (fSeq (fSet 3 (fOp (gI cNz fun i j => .int (i.fmod j)) (fCa gInt (fCons (fVar 0) fNil)) (fVar 1))) (fSeq (fSet 0 (fVar 1)) (fSet 1 (fVar 3)))))) (fRet (fVar 0)))))
noncomputable def g_law_gcd : List D → Option OV := funOf 4 fb_law_gcd
noncomputable def fb_law_primitive : DS → Option Out := (fSeq (fSet 1 (fC (.int 0))) (fSeq (fFor (fiList (fVar 0)) (fgName 2) (fSet 1 (fCall 2 g_law_gcd (fCons (fVar 1) (fCons (fVar 2) fNil))))) (fSeq (fIfS (fBool (fOp gEqX (fVar 1) (fC (.int 0)))) (fRet (fListOf (fCons (fVar 0) fNil))) fNext) (fRet (fLc (fiList (fVar 0)) (fgName 2) fYes (fOp (gI cFd fun i j => .int (i.fdiv j)) (fVar 2) (fVar 1)) [2])))))
noncomputable def g_law_primitive : List D → Option OV := funOf 3 fb_law_primitive
noncomputable def fb_law_dot : DS → Option Out := (fRet (fCa gSum (fCons (fLc (fiR1 (fCons (fCa gLen (fCons (fVar 0) fNil)) fNil)) (fgName 2) fYes (fMul (fIx (fVar 0) (fVar 2)) (fIx (fVar 1) (fVar 2))) [2]) fNil)))
noncomputable def g_law_dot : List D → Option OV := funOf 3 fb_law_dot
noncomputable def fb_law_sum : DS → Option Out := (fRet (fLc (fiR1 (fCons (fCa gLen (fCons (fVar 1) fNil)) fNil)) (fgName 4) fYes (fAdd (fMul (fVar 0) (fIx (fVar 1) (fVar 4))) (fMul (fVar 2) (fIx (fVar 3) (fVar 4)))) [4]))
noncomputable def g_law_sum : List D → Option OV := funOf 5 fb_law_sum
noncomputable def fb_law_pivot : DS → Option Out := (fSeq (fFor (fiR2 (fCons (fC (.int 1)) (fCons (fCa gLen (fCons (fVar 0) fNil)) fNil))) (fgName 1) (fIfS (fBool (fOp gNeX (fIx (fVar 0) (fVar 1)) (fC (.int 0)))) (fRet (fVar 1)) fNext)) (fSeq (fIfS (fAndT (fBool (fOp (gCmp fun i j => decide (j < i)) (fCa gLen (fCons (fVar 0) fNil)) (fC (.int 0)))) (fBool (fOp gNeX (fIx (fVar 0) (fC (.int 0))) (fC (.int 0))))) (fRet (fC (.int 0))) fNext) (fRet (fC .none))))
noncomputable def g_law_pivot : List D → Option OV := funOf 2 fb_law_pivot
noncomputable def fb_law_vector : DS → Option Out := (fSeq (fSet 2 (fCall 2 g_law_draws (fCons (fVar 0) (fCons (fAdd (fAdd (fLst (fCons (fC (.int 6)) fNil)) (fMul (fLst (fCons (fC (.int 2000001)) fNil)) (fVar 1))) (fMul (fLst (fCons (fC (.int 7)) fNil)) (fVar 1))) fNil)))) (fSeq (fIfS (fBool (fOp gEqX (fIx (fVar 2) (fC (.int 0))) (fC (.int 0)))) (fRet (fLc (fiR1 (fCons (fVar 1) fNil)) (fgName 3) fYes (fOp (gI cT fun i j => .int (i - j)) (fIx (fVar 2) (fAdd (fC (.int 1)) (fVar 3))) (fC (.int 1000000))) [3])) fNext) (fSeq (fIfS (fBool (fOp gEqX (fIx (fVar 2) (fC (.int 0))) (fC (.int 1)))) (fRet (fLc (fiR1 (fCons (fVar 1) fNil)) (fgName 3) fYes (fMul (fOp (gI cT fun i j => .int (i - j)) (fIx (fVar 2) (fAdd (fAdd (fC (.int 1)) (fVar 1)) (fVar 3))) (fC (.int 3))) (fC (.int 6))) [3])) fNext) (fSeq (fIfS (fBool (fOp gEqX (fIx (fVar 2) (fC (.int 0))) (fC (.int 2)))) (fRet (fLc (fiR1 (fCons (fVar 1) fNil)) (fgName 3) fYes (fMul (fCa gInt (fCons (fOp gEqX (fIx (fVar 2) (fAdd (fAdd (fC (.int 1)) (fVar 1)) (fVar 3))) (fC (.int 3))) fNil)) (fAdd (fC (.int 1)) (fIx (fVar 2) (fAdd (fC (.int 1)) (fVar 3))))) [3])) fNext) (fRet (fLc (fiR1 (fCons (fVar 1) fNil)) (fgName 3) fYes (fOp (gI cT fun i j => .int (i - j)) (fIx (fVar 2) (fAdd (fAdd (fC (.int 1)) (fVar 1)) (fVar 3))) (fC (.int 3))) [3]))))))
noncomputable def g_law_vector : List D → Option OV := funOf 4 fb_law_vector
noncomputable def fb_law_integers : DS → Option Out := (fRet (fAndV (fIsi "list" (fVar 0)) (fAndV (fOp gEqX (fCa gLen (fCons (fVar 0) fNil)) (fVar 1)) (fCa gAll (fCons (fLc (fiList (fVar 0)) (fgName 2) fYes (fAndV (fIsi "int" (fVar 2)) (fNotV (fIsi "bool" (fVar 2)))) [2]) fNil)))))
noncomputable def g_law_integers : List D → Option OV := funOf 3 fb_law_integers
end LF
set_option Elab.async false
set_option linter.all false
set_option maxRecDepth 100000
namespace LF
open PySem PySem.Spec L2 Fx
/-! ### ints -/
theorem fmod_pos {a b : Int} (h : 0 < b) : 0 ≤ a.fmod b ∧ a.fmod b < b := ⟨Int.fmod_nonneg_of_pos a h, Int.fmod_lt_of_pos a h⟩
theorem cFd_small {i j : Int} (h : j ≠ 0) (hb : j.natAbs.log2 < 9000) : cFd i j = true := by
  exact yes_of ⟨h, PyProof.noPylong_of_log2 hb⟩
theorem cFd_30 {i j : Int} (h : j ≠ 0) (hb : j.natAbs < 1073741824) : cFd i j = true := by
  exact yes_of ⟨h, PyProof.noPylong_small hb⟩
theorem cNz_ok {i j : Int} (h : j ≠ 0) : cNz i j = true := decide_eq_true h
theorem mul_ok {i j : Int} {a b : Nat} (ha : i.natAbs < 2 ^ a) (hb : j.natAbs < 2 ^ b) (h : a + b ≤ 134217728) : mulOk i j = true := mulOk_of (mulx_ok ha hb h)
/-! ### _law_cell -/
theorem atI_ints {ns : List Int} {k : Nat} (h : k < ns.length) : atI (ns.map PyData.int) (k : Int) = some (.int (ns[k])) := atI_nat (by simp [h])
theorem cell_eq (ns : List Int) (k : Nat) : g_law_cell [IL ns, .int (k : Int)] = some (.sh (.int (ns.getD k 0))) := by
  by_cases h : k < ns.length
  · have h' : (k : Int) < (ns.length : Int) := by omega
    simp [g_law_cell, funOf, fb_law_cell, h', atI_ints h, h]
  · have h' : ¬ (k : Int) < (ns.length : Int) := by omega
    simp [g_law_cell, funOf, fb_law_cell, h', h]
/-! ### _law_draws -/
/-- each of ds lies below its limit -/
inductive Below : List Int → List Int → Prop
  | nil : Below [] []
  | cons {d m : Int} {ds ms : List Int} : 0 ≤ d → d < m → Below ds ms → Below (d :: ds) (m :: ms)
theorem Below.len : ∀ {ds ms : List Int}, Below ds ms → ds.length = ms.length
  | _, _, .nil => rfl
  | _, _, .cons _ _ h => by simp [h.len]
theorem Below.get : ∀ {ds ms : List Int}, Below ds ms → ∀ (i : Nat) (m : Int), ms[i]? = some m → ∃ d, ds[i]? = some d ∧ 0 ≤ d ∧ d < m
  | _, _, .nil, i, m, e => by simp at e
  | _, _, .cons (d := d) h1 h2 t, 0, m, e => by simp at e; subst e; exact ⟨d, by simp, h1, h2⟩
  | _, _, .cons h1 h2 t, i + 1, m, e => by
    obtain ⟨d, a, b⟩ := t.get i m (by simpa using e)
    exact ⟨d, by simpa using a, b⟩
noncomputable def dTurn : DS → Option Out := (fIfS (fAndT (fTru (fVar 5)) (fBool (fOp (gCmp fun i j => decide (j < i)) (fVar 3) (fC (.int 1))))) (fSeq (fApp 2 (fOp (gI cNz fun i j => .int (i.fmod j)) (fCa gInt (fCons (fVar 3) fNil)) (fVar 6))) (fSet 3 (fOp (gI cFd fun i j => .int (i.fdiv j)) (fVar 3) (fVar 6)))) (fSeq (fSet 4 (fOp (gI cNz fun i j => .int (i.fmod j)) (fCa gInt (fCons (fAdd (fMul (fVar 4) (fC (.int 48271))) (fC (.int 11))) fNil)) (fC (.int 2147483647)))) (fSeq (fSet 4 (fOp (gI cNz fun i j => .int (i.fmod j)) (fCa gInt (fCons (fAdd (fMul (fVar 4) (fC (.int 69621))) (fC (.int 7))) fNil)) (fC (.int 2147483647)))) (fApp 2 (fOp (gI cNz fun i j => .int (i.fmod j)) (fCa gInt (fCons (fOp (gI cFd fun i j => .int (i.fdiv j)) (fVar 4) (fC (.int 13))) fNil)) (fVar 6))))))
theorem dTurn_a {c L x : Option OV} {fnd : List Int} {rest st m : Int} (m0 : 0 < m) (m1 : m < 1073741824) (hr : 1 < rest) (hl : fnd.length ≤ 1000000) :
    (fgName 6 (.int m) [c, L, some (.flat (fnd.map PyData.int)), some (.sh (.int rest)), some (.sh (.int st)), some (.sh (.bool true)), x]).bind dTurn =
      some (.nx [c, L, some (.flat ((fnd ++ [rest.fmod m]).map PyData.int)), some (.sh (.int (rest.fdiv m))), some (.sh (.int st)), some (.sh (.bool true)), some (.sh (.int m))]) := by
  have nz : cNz rest m = true := cNz_ok (by omega)
  have fz : cFd rest m = true := cFd_30 (by omega) (by omega)
  simp [dTurn, hr, nz, fz, hl]
theorem dTurn_b {c L x : Option OV} {fnd : List Int} {rest st st1 st2 m : Int} {b : Bool} (m0 : 0 < m) (hb : b = false ∨ ¬ 1 < rest) (hl : fnd.length ≤ 1000000) (k1 : mulOk st 48271 = true) (k2 : mulOk st1 69621 = true) (e1 : (st * 48271 + 11).fmod 2147483647 = st1) (e2 : (st1 * 69621 + 7).fmod 2147483647 = st2) :
    (fgName 6 (.int m) [c, L, some (.flat (fnd.map PyData.int)), some (.sh (.int rest)), some (.sh (.int st)), some (.sh (.bool b)), x]).bind dTurn =
      some (.nx [c, L, some (.flat ((fnd ++ [(st2.fdiv 13).fmod m]).map PyData.int)), some (.sh (.int rest)), some (.sh (.int st2)), some (.sh (.bool b)), some (.sh (.int m))]) := by
  have n1 : ∀ s : Int, cNz s 2147483647 = true := fun s => cNz_ok (by omega)
  have n2 : ∀ s : Int, cNz s m = true := fun s => cNz_ok (by omega)
  have n3 : ∀ s : Int, cFd s 13 = true := fun s => cFd_30 (by omega) (by omega)
  have hc : (if b = true then some (decide (1 < rest)) else some false) = some false := by
    rcases hb with rfl | h
    · rfl
    · simp [h]
  cases b with
  | false => simp [dTurn, k1, k2, n1, n2, n3, e1, e2, hl]
  | true =>
    have hr : ¬ 1 < rest := hb.resolve_left (by simp)
    simp [dTurn, hr, k1, k2, n1, n2, n3, e1, e2, hl]
theorem draws_loop {c L : Option OV} {b : Bool} : ∀ (ms : List Int) (fnd : List Int) (rest st : Int) (x : Option OV), (∀ m ∈ ms, 0 < m ∧ m < 1073741824) → 0 ≤ rest → 0 ≤ st → st < 2147483647 → fnd.length + ms.length ≤ 1000 → ∃ ds rest' st' x', Below ds ms ∧
    loopF (fgName 6) dTurn (ms.map PyData.int) [c, L, some (.flat (fnd.map PyData.int)), some (.sh (.int rest)), some (.sh (.int st)), some (.sh (.bool b)), x] =
    some (.nx [c, L, some (.flat ((fnd ++ ds).map PyData.int)), some (.sh (.int rest')), some (.sh (.int st')), some (.sh (.bool b)), x']) := by
  intro ms
  induction ms with
  | nil => intro fnd rest st x _ _ _ _ _; exact ⟨[], rest, st, x, .nil, by simp [loopF]⟩
  | cons m ms ih =>
    intro fnd rest st x hm h1 h2 h3 hl
    obtain ⟨m0, m1⟩ := hm m (by simp)
    have hm' : ∀ y ∈ ms, 0 < y ∧ y < 1073741824 := fun y hy => hm y (by simp [hy])
    simp only [List.length_cons] at hl
    have hlen : fnd.length ≤ 1000000 := by omega
    have go : ∀ {S S1 : DS} {o : Out}, (fgName 6 (.int m) S).bind dTurn = some (.nx S1) → loopF (fgName 6) dTurn (ms.map PyData.int) S1 = some o → loopF (fgName 6) dTurn ((m :: ms).map PyData.int) S = some o := by
      intro S S1 o e1 e2
      rw [Option.bind_eq_some_iff] at e1
      obtain ⟨d1, e3, e4⟩ := e1
      rw [List.map_cons]
      show (fgName 6 (.int m) S).bind _ = _
      rw [e3, bindSome, e4, bindSome]
      exact e2
    by_cases hc : b = true ∧ 1 < rest
    · obtain ⟨rfl, hr⟩ := hc
      have bd := fmod_pos (a := rest) m0
      have nn : 0 ≤ rest.fdiv m := Int.fdiv_nonneg h1 (by omega)
      obtain ⟨ds, r', s', x', hb, hrun⟩ := ih (fnd ++ [rest.fmod m]) (rest.fdiv m) st (some (.sh (.int m))) hm' nn h2 h3 (by simp; omega)
      refine ⟨rest.fmod m :: ds, r', s', x', .cons bd.1 bd.2 hb, go (dTurn_a m0 m1 hr hlen) ?_⟩
      rw [hrun, List.append_assoc]
      rfl
    · have s1 := fmod_pos (a := st * 48271 + 11) (b := 2147483647) (by omega)
      have s2 := fmod_pos (a := (st * 48271 + 11).fmod 2147483647 * 69621 + 7) (b := 2147483647) (by omega)
      have bd := fmod_pos (a := ((((st * 48271 + 11).fmod 2147483647) * 69621 + 7).fmod 2147483647).fdiv 13) m0
      have k1 : mulOk st 48271 = true := mul_ok (a := 31) (b := 17) (by omega) (by omega) (by omega)
      have k2 : mulOk ((st * 48271 + 11).fmod 2147483647) 69621 = true := mul_ok (a := 31) (b := 17) (by omega) (by omega) (by omega)
      have hb' : b = false ∨ ¬ 1 < rest := by
        cases b with
        | false => exact .inl rfl
        | true => exact .inr fun z => hc ⟨rfl, z⟩
      obtain ⟨ds, r', s', x', hb, hrun⟩ := ih (fnd ++ [((((st * 48271 + 11).fmod 2147483647 * 69621 + 7).fmod 2147483647).fdiv 13).fmod m]) rest ((((st * 48271 + 11).fmod 2147483647) * 69621 + 7).fmod 2147483647) (some (.sh (.int m))) hm' h1 s2.1 s2.2 (by simp; omega)
      refine ⟨_ :: ds, r', s', x', .cons bd.1 bd.2 hb, go (dTurn_b m0 hb' hlen k1 k2 rfl rfl) ?_⟩
      rw [hrun, List.append_assoc]
      rfl
theorem draws_eq (c : Int) (ms : List Int) (hm : ∀ m ∈ ms, 0 < m ∧ m < 1073741824) (hl : ms.length ≤ 1000) : ∃ ds, Below ds ms ∧ g_law_draws [.int c, IL ms] = some (.flat (ds.map PyData.int)) := by
  have sb := fmod_pos (a := (if c < 0 then -c else c)) (b := 2147483647) (by decide)
  have nn : 0 ≤ (if c < 0 then -c else c) := by split <;> omega
  obtain ⟨ds, r', s', x', hb, hrun⟩ := draws_loop (c := some (.sh (.int c))) (L := some (.sh (IL ms))) (b := decide (c < 0) || decide (10 ^ 18 ≤ c)) ms [] _ _ none hm nn sb.1 sb.2 (by simpa using hl)
  refine ⟨ds, hb, ?_⟩
  have n1 : ∀ s : Int, cNz s 2147483647 = true := fun s => cNz_ok (by omega)
  have p1 : cPow 10 18 = true := yes_of ⟨by decide, by decide, by decide⟩
  unfold dTurn at hrun
  simp at hrun
  by_cases hc : c < 0
  · simp [hc] at hrun
    simp [g_law_draws, funOf, fb_law_draws, n1, p1, hc, hrun]
  · simp [hc] at hrun
    simp [g_law_draws, funOf, fb_law_draws, n1, p1, hc, hrun]
/-! ### _law_gcd -/
noncomputable def gTurn : DS → Option Out := (fSeq (fIfS (fBool (fOp gEqX (fVar 1) (fC (.int 0)))) (fRet (fVar 0)) fNext) (fSeq (fSet 3 (fOp (gI cNz fun i j => .int (i.fmod j)) (fCa gInt (fCons (fVar 0) fNil)) (fVar 1))) (fSeq (fSet 0 (fVar 1)) (fSet 1 (fVar 3)))))
@[simp] theorem gEqX_ii {i j : Int} : gEqX (.int i) (.int j) = some (.bool (i == j)) := by
  have h : SeqAt.shaped (.int i) = true := rfl
  have h2 : SeqAt.shaped (.int j) = true := rfl
  simp [gEqX, gEq, h, h2, PyData.eqv]
@[simp] theorem gNeX_ii {i j : Int} : gNeX (.int i) (.int j) = some (.bool (!(i == j))) := by
  have h : SeqAt.shaped (.int i) = true := rfl
  have h2 : SeqAt.shaped (.int j) = true := rfl
  simp [gNeX, gNe, h, h2, PyData.eqv]
def bits (n : Nat) : Nat := if n = 0 then 0 else n.log2 + 1
theorem bits_mod {a b : Nat} (hb : 0 < b) (h : b ≤ a) : bits (a % b) + 1 ≤ bits a := by
  have ha : a ≠ 0 := by omega
  unfold bits
  rw [if_neg ha]
  by_cases hz : a % b = 0
  · rw [if_pos hz]; omega
  · rw [if_neg hz]
    have h2 : 2 * (a % b) ≤ a := by
      have h3 := Nat.mod_add_div a b
      have h4 := Nat.mod_lt a hb
      have h5 : 1 ≤ a / b := Nat.div_pos h hb
      have h6 : b * 1 ≤ b * (a / b) := Nat.mul_le_mul_left b h5
      omega
    have h3 : (a % b).log2 + 1 ≤ a.log2 := by
      rw [Nat.le_log2 ha, Nat.pow_succ]
      have := (Nat.le_log2 hz).mp (Nat.le_refl _)
      omega
    omega
theorem gcd_loop : ∀ (l : List D) (a b : Nat) (x y : Option OV), (if b ≤ a then bits a + bits b + 1 else bits a + bits b + 2) ≤ l.length →
    loopF (fgName 2) gTurn l [some (.sh (.int (a : Int))), some (.sh (.int (b : Int))), x, y] = some (.ret (.sh (.int ((Nat.gcd a b : Nat) : Int)))) := by
  intro l
  induction l with
  | nil => intro a b x y h; simp at h; split at h <;> omega
  | cons d l ih =>
    intro a b x y h
    by_cases hb : b = 0
    · subst hb
      simp [loopF, gTurn]
    · have nz : cNz (a : Int) (b : Int) = true := cNz_ok (by omega)
      have hb0 : ((b : Int) == 0) = false := by simp [hb]
      have em : (a : Int).fmod (b : Int) = ((a % b : Nat) : Int) := by
        rw [Int.fmod_eq_emod_of_nonneg _ (by omega)]
        rfl
      have step : loopF (fgName 2) gTurn (d :: l) [some (.sh (.int (a : Int))), some (.sh (.int (b : Int))), x, y] = loopF (fgName 2) gTurn l [some (.sh (.int (b : Int))), some (.sh (.int ((a % b : Nat) : Int))), some (.sh d), some (.sh (.int ((a % b : Nat) : Int)))] := by
        simp [loopF, gTurn, hb, nz, em]
      rw [step, ih]
      · rw [Nat.gcd_comm b, ← Nat.gcd_rec, Nat.gcd_comm]
      · have hlt := Nat.mod_lt a (show 0 < b by omega)
        rw [if_pos (by omega)]
        simp only [List.length_cons] at h
        split at h
        · have := bits_mod (a := a) (b := b) (by omega) (by assumption)
          omega
        · rw [Nat.mod_eq_of_lt (by omega)]
          omega
theorem bits_of (n : Nat) : Builtin.Int.intBits (n : Int) = bits n := by
  unfold Builtin.Int.intBits bits
  by_cases h : n = 0
  · subst h; rfl
  · simp [h]
theorem gcd_eq (a b : Int) (h : bits a.natAbs + bits b.natAbs < 2 ^ 60) : g_law_gcd [.int a, .int b] = some (.sh (.int ((Nat.gcd a.natAbs b.natAbs : Nat) : Int))) := by
  have ea : (if a < 0 then -a else a) = ((a.natAbs : Nat) : Int) := by split <;> omega
  have eb : (if b < 0 then -b else b) = ((b.natAbs : Nat) : Int) := by split <;> omega
  have sm : small62 (((bits a.natAbs : Nat) : Int) + ((bits b.natAbs : Nat) : Int) + 4) = true := yes_of (by omega)
  have run := gcd_loop (rangeD 0 (((bits a.natAbs : Nat) : Int) + ((bits b.natAbs : Nat) : Int) + 4)) a.natAbs b.natAbs none none (by
    unfold rangeD
    rw [List.length_map, List.length_range]
    split <;> omega)
  unfold gTurn at run
  simp [g_law_gcd, funOf, fb_law_gcd, ea, eb, bits_of, sm, run]
end LF
set_option Elab.async false
set_option linter.all false
set_option maxRecDepth 100000
namespace LF
open PySem PySem.Spec L2 Fx
theorem lcF_mapX {α : Type} {τ : D → DS → Option (Option D × DS)} {w : DS} (e r : α → D) : ∀ (xs : List α) (acc : List D), (∀ x ∈ xs, τ (e x) w = some (some (r x), w)) → lcF τ (xs.map e) w acc = some (acc ++ xs.map r, w)
  | [], acc, _ => by simp [lcF]
  | x :: xs, acc, h => by
    simp only [List.map_cons, lcF, h x (by simp), bindSome]
    rw [lcF_mapX e r xs _ fun d hd => h d (by simp [hd])]
    simp
/-- a comprehension that keeps every item and leaves the state -/
theorem fLc_X {α : Type} {fi : DS → Option (List D × DS)} {g : D → DS → Option DS} {ft : DS → Option (Bool × DS)} {fe : DS → Option (RV × DS)} {vs : List Nat} {ds ds1 : DS} {xs : List α} (e r : α → D) (e1 : fi ds = some (xs.map e, ds1)) (e2 : (vs.all fun i => shB ds1[i]?) = true) (e3 : xs.length ≤ 1000000)
    (e4 : ∀ x ∈ xs, turnC g ft fe vs (e x) (wipeD ds1 vs) = some (some (r x), wipeD ds1 vs)) (e5 : mend ds1 (wipeD ds1 vs) vs = ds1) : fLc fi g ft fe vs ds = some (.ov (.flat (xs.map r)), ds1) := by
  have e3' : (xs.map e).length ≤ 1000000 := by simpa using e3
  simp only [fLc, fLcG, e1, bindSome, e2, decide_eq_true e3', Bool.and_self, if_true]
  rw [lcF_mapX e r xs [] e4]
  simp [e5]
/-! ### sizes -/
def Lt (k : Nat) (v : List Int) : Prop := ∀ i ∈ v, i.natAbs < 2 ^ k
theorem bits_le {n k : Nat} (h : n < 2 ^ k) : bits n ≤ k := by
  unfold bits
  split
  · omega
  · rename_i h0
    have := (Nat.log2_lt h0).mpr h
    omega
theorem log2_lt9 {n k : Nat} (h : n < 2 ^ k) (hk : k ≤ 9000) (h0 : 0 < k) : n.log2 < 9000 := by
  by_cases hn : n = 0
  · subst hn; decide
  · have := (Nat.log2_lt hn).mpr h
    omega
theorem gcd_lt {a b k : Nat} (ha : a < 2 ^ k) (hb : b < 2 ^ k) : Nat.gcd a b < 2 ^ k := by
  by_cases h : a = 0
  · subst h; simpa using hb
  · exact Nat.lt_of_le_of_lt (Nat.gcd_le_left b (by omega)) ha
def gcdF (d : Nat) (v : List Int) : Nat := v.foldl (fun d i => Nat.gcd d i.natAbs) d
theorem gcdF_lt {k : Nat} : ∀ {v : List Int} {d : Nat}, Lt k v → d < 2 ^ k → gcdF d v < 2 ^ k
  | [], _, _, h => h
  | i :: v, d, hv, h => gcdF_lt (v := v) (d := Nat.gcd d i.natAbs) (fun j hj => hv j (by simp [hj])) (gcd_lt h (hv i (by simp)))
abbrev gcdL (v : List Int) : Nat := gcdF 0 v
/-! ### the program's primitive -/
theorem common_loop {w : D} : ∀ (v : List Int) (d : Nat) (o : Option OV), ∃ o', loopF (fgName 2) (fSet 1 (fCa gGcd (fCons (fVar 1) (fCons (fVar 2) fNil)))) (v.map PyData.int) [some (OV.sh w), some (OV.sh (.int d)), o] = some (.nx [some (OV.sh w), some (OV.sh (.int (gcdF d v : Nat))), o']) := by
  intro v
  induction v with
  | nil => intro d o; exact ⟨o, rfl⟩
  | cons i v ih =>
    intro d o
    obtain ⟨o', h⟩ := ih (Nat.gcd d i.natAbs) (some (.sh (.int i)))
    refine ⟨o', ?_⟩
    simp [loopF]
    exact h
theorem common_divisor_eq (v : List Int) : g_common_divisor [IL v] = some (.sh (.int (gcdL v))) := by
  obtain ⟨o', h⟩ := common_loop (w := IL v) v 0 none
  simp at h
  simp [g_common_divisor, funOf, fb_common_divisor, h]
def prim (v : List Int) : List Int := if gcdL v ≤ 1 then v else v.map fun i => i.fdiv (gcdL v)
theorem primitive_eq (v : List Int) {k : Nat} (h : Lt k v) (hk : k ≤ 9000) (h0 : 0 < k) (hl : v.length ≤ 1000000) : g_primitive [IL v] = some (.flat ((prim v).map PyData.int)) := by
  have hg9 : (gcdL v).log2 < 9000 := log2_lt9 (gcdF_lt h (Nat.two_pow_pos k)) hk h0
  unfold prim
  by_cases hg : gcdL v ≤ 1
  · have hg' : (gcdL v : Int) ≤ 1 := by omega
    simp [g_primitive, funOf, fb_primitive, common_divisor_eq, hg, hg']
  · have hg' : ¬ (gcdL v : Int) ≤ 1 := by omega
    have hc : ∀ i : Int, cFd i (gcdL v) = true := fun i => cFd_small (by omega) (by simpa using hg9)
    rw [if_neg hg]
    have e := fLc_X (fi := fiList (fVar 0)) (g := fgName 2) (ft := fYes) (fe := fOp (gI cFd fun i j => .int (i.fdiv j)) (fVar 2) (fVar 1)) (vs := [2]) (ds := [some (.sh (IL v)), some (.sh (.int (gcdL v))), none]) (ds1 := [some (.sh (IL v)), some (.sh (.int (gcdL v))), none])
      PyData.int (fun i => .int (i.fdiv (gcdL v))) (xs := v) (by simp) (by simp) hl (by
        intro i _
        simp [turnC, hc]) (by simp)
    simp [g_primitive, funOf, fb_primitive, common_divisor_eq, hg', e, List.map_map]
theorem prim_len (v : List Int) : (prim v).length = v.length := by
  unfold prim; split <;> simp
/-! ### the law's primitive -/
theorem lcommon_loop {w : D} {k : Nat} (hk : k ≤ 2 ^ 50) : ∀ (v : List Int) (d : Nat) (o : Option OV), Lt k v → d < 2 ^ k → shB (some o) = true → ∃ o', shB (some o') = true ∧ loopF (fgName 2) (fSet 1 (fCall 2 g_law_gcd (fCons (fVar 1) (fCons (fVar 2) fNil)))) (v.map PyData.int) [some (OV.sh w), some (OV.sh (.int d)), o] = some (.nx [some (OV.sh w), some (OV.sh (.int (gcdF d v : Nat))), o']) := by
  intro v
  induction v with
  | nil => intro d o _ _ ho; exact ⟨o, ho, rfl⟩
  | cons i v ih =>
    intro d o hv hd ho
    have hi := hv i (by simp)
    obtain ⟨o', ho', h⟩ := ih (Nat.gcd d i.natAbs) (some (.sh (.int i))) (fun j hj => hv j (by simp [hj])) (gcd_lt hd hi) rfl
    refine ⟨o', ho', ?_⟩
    have b1 := bits_le hd
    have b2 := bits_le hi
    have eg := gcd_eq (d : Int) i (by
      simp only [Int.natAbs_natCast]
      omega)
    simp at eg
    simp [loopF, eg, own_sh_int]
    exact h
theorem lprimitive_eq (v : List Int) {k : Nat} (h : Lt k v) (hk : k ≤ 9000) (h0 : 0 < k) (hl : v.length ≤ 1000000) : g_law_primitive [IL v] = some (.flat ((prim v).map PyData.int)) := by
  have hlt := gcdF_lt h (Nat.two_pow_pos k) (d := 0)
  have hg9 : (gcdL v).log2 < 9000 := log2_lt9 hlt hk h0
  obtain ⟨o', ho', hrun⟩ := lcommon_loop (w := IL v) (k := k) (by omega) v 0 none h (Nat.two_pow_pos k) rfl
  simp at hrun
  by_cases hg : gcdL v = 0
  · have : prim v = v := by unfold prim; rw [if_pos (by omega)]
    rw [this]
    simp [g_law_primitive, funOf, fb_law_primitive, hrun, hg]
  · have hc : ∀ i : Int, cFd i (gcdL v) = true := fun i => cFd_small (by omega) (by simpa using hg9)
    have e := fLc_X (fi := fiList (fVar 0)) (g := fgName 2) (ft := fYes) (fe := fOp (gI cFd fun i j => .int (i.fdiv j)) (fVar 2) (fVar 1)) (vs := [2]) (ds := [some (.sh (IL v)), some (.sh (.int (gcdL v))), o']) (ds1 := [some (.sh (IL v)), some (.sh (.int (gcdL v))), o'])
      PyData.int (fun i => .int (i.fdiv (gcdL v))) (xs := v) (by simp) (by simpa using ho') hl (by
        intro i _
        simp [turnC, hc]) (by simp)
    have ep : v.map (fun i => i.fdiv (gcdL v)) = prim v := by
      unfold prim
      split
      · have h1 : gcdL v = 1 := by omega
        rw [h1]
        simp
      · rfl
    rw [← ep]
    simp [g_law_primitive, funOf, fb_law_primitive, hrun, hg, e, List.map_map]
/-! ### dot -/
def dotL (v w : List Int) : Int := ((v.zip w).map fun p => p.1 * p.2).sum
theorem mem_zip_lt {k m : Nat} {v w : List Int} (hv : Lt k v) (hw : Lt m w) {p : Int × Int} (hp : p ∈ v.zip w) : p.1.natAbs < 2 ^ k ∧ p.2.natAbs < 2 ^ m :=
  ⟨hv _ (List.of_mem_zip hp).1, hw _ (List.of_mem_zip hp).2⟩
theorem dot_eq (v w : List Int) {k m : Nat} (hv : Lt k v) (hw : Lt m w) (hk : k + m ≤ 134217728) (hl : v.length ≤ 1000000) : g_dot [IL v, IL w] = some (.sh (.int (dotL v w))) := by
  have hm : ∀ p ∈ v.zip w, mulOk p.1 p.2 = true := fun p hp => mul_ok (mem_zip_lt hv hw hp).1 (mem_zip_lt hv hw hp).2 hk
  have e := fLc_X (fi := fiZip (fCons (fVar 0) (fCons (fVar 1) fNil))) (g := fgTup 2 (fgCons (fgName 2) (fgCons (fgName 3) fgNil))) (ft := fYes) (fe := fMul (fVar 2) (fVar 3)) (vs := [2, 3]) (ds := [some (.sh (IL v)), some (.sh (IL w)), none, none]) (ds1 := [some (.sh (IL v)), some (.sh (IL w)), none, none])
    (fun p : Int × Int => .tuple [.int p.1, .int p.2]) (fun p => .int (p.1 * p.2)) (xs := v.zip w) (by simp [zip_ints]) (by simp) (by simp; omega) (by
      intro p hp
      simp [turnC, hm p hp]) (by simp)
  have ei : intsD ((v.zip w).map fun p => PyData.int (p.1 * p.2)) = some ((v.zip w).map fun p => p.1 * p.2) := by
    have := intsD_map ((v.zip w).map fun p => p.1 * p.2)
    rwa [List.map_map] at this
  simp [g_dot, funOf, fb_dot, e, gSum, ei, dotL]
theorem range_list (n : Nat) : rangeD 0 (n : Int) = (List.range n).map fun i => .int ((i : Nat) : Int) := by
  unfold rangeD
  have : ((n : Int) - 0).toNat = n := by omega
  rw [this]
  exact List.map_congr_left fun i _ => by simp
theorem small_nat {n : Nat} (h : n ≤ 1000000000) : small62 (n : Int) = true := yes_of (by omega)
theorem ldot_eq (v w : List Int) {k m : Nat} (hv : Lt k v) (hw : Lt m w) (hk : k + m ≤ 134217728) (hl : v.length ≤ 1000000) (hvw : v.length = w.length) : g_law_dot [IL v, IL w] = some (.sh (.int (dotL v w))) := by
  have e := fLc_X (fi := fiR1 (fCons (fCa gLen (fCons (fVar 0) fNil)) fNil)) (g := fgName 2) (ft := fYes) (fe := fMul (fIx (fVar 0) (fVar 2)) (fIx (fVar 1) (fVar 2))) (vs := [2]) (ds := [some (.sh (IL v)), some (.sh (IL w)), none]) (ds1 := [some (.sh (IL v)), some (.sh (IL w)), none])
    (fun i : Nat => .int (i : Int)) (fun i => .int (v.getD i 0 * w.getD i 0)) (xs := List.range v.length) (by simp [small_nat (show v.length ≤ 1000000000 by omega), range_list]) (by simp) (by simpa using hl) (by
      intro i hi
      have h1 : i < v.length := by simpa using hi
      have h2 : i < w.length := by omega
      have hm : mulOk v[i] w[i] = true := mul_ok (hv _ (List.getElem_mem h1)) (hw _ (List.getElem_mem h2)) hk
      simp [turnC, atI_ints h1, atI_ints h2, hm, h1, h2]) (by simp)
  have ei : intsD ((List.range v.length).map fun i => PyData.int (v.getD i 0 * w.getD i 0)) = some ((List.range v.length).map fun i => v.getD i 0 * w.getD i 0) := by
    have := intsD_map ((List.range v.length).map fun i => v.getD i 0 * w.getD i 0)
    rwa [List.map_map] at this
  have es : (List.range v.length).map (fun i => v.getD i 0 * w.getD i 0) = (v.zip w).map fun p => p.1 * p.2 := by
    refine List.ext_getElem (by simp [hvw]) fun i h1 h2 => ?_
    have h3 : i < v.length := by simpa using h1
    have h4 : i < w.length := by omega
    simp [h3, h4]
  rw [es] at ei
  simp only [List.getD_eq_getElem?_getD] at ei
  simp [g_law_dot, funOf, fb_law_dot, e, gSum, ei, dotL]
/-! ### combined -/
def combL (a : Int) (v : List Int) (b : Int) (w : List Int) : List Int := (v.zip w).map fun p => a * p.1 + b * p.2
theorem combined_eq (a b : Int) (v w : List Int) {k m : Nat} (ha : a.natAbs < 2 ^ m) (hb : b.natAbs < 2 ^ m) (hv : Lt k v) (hw : Lt k w) (hk : m + k ≤ 134217728) (hl : v.length ≤ 1000000) : g_combined [.int a, IL v, .int b, IL w] = some (.flat ((combL a v b w).map PyData.int)) := by
  have hm : ∀ p ∈ v.zip w, mulOk a p.1 = true ∧ mulOk b p.2 = true := fun p hp => ⟨mul_ok ha (mem_zip_lt hv hw hp).1 hk, mul_ok hb (mem_zip_lt hv hw hp).2 hk⟩
  have e := fLc_X (fi := fiZip (fCons (fVar 1) (fCons (fVar 3) fNil))) (g := fgTup 2 (fgCons (fgName 4) (fgCons (fgName 5) fgNil))) (ft := fYes) (fe := fAdd (fMul (fVar 0) (fVar 4)) (fMul (fVar 2) (fVar 5))) (vs := [4, 5]) (ds := [some (.sh (.int a)), some (.sh (IL v)), some (.sh (.int b)), some (.sh (IL w)), none, none]) (ds1 := [some (.sh (.int a)), some (.sh (IL v)), some (.sh (.int b)), some (.sh (IL w)), none, none])
    (fun p : Int × Int => .tuple [.int p.1, .int p.2]) (fun p => .int (a * p.1 + b * p.2)) (xs := v.zip w) (by simp [zip_ints]) (by simp) (by simp; omega) (by
      intro p hp
      simp [turnC, (hm p hp).1, (hm p hp).2]) (by simp)
  simp [g_combined, funOf, fb_combined, e, combL, List.map_map]
theorem lsum_eq (a b : Int) (v w : List Int) {k m : Nat} (ha : a.natAbs < 2 ^ m) (hb : b.natAbs < 2 ^ m) (hv : Lt k v) (hw : Lt k w) (hk : m + k ≤ 134217728) (hl : v.length ≤ 1000000) (hvw : v.length = w.length) : g_law_sum [.int a, IL v, .int b, IL w] = some (.flat ((combL a v b w).map PyData.int)) := by
  have e := fLc_X (fi := fiR1 (fCons (fCa gLen (fCons (fVar 1) fNil)) fNil)) (g := fgName 4) (ft := fYes) (fe := fAdd (fMul (fVar 0) (fIx (fVar 1) (fVar 4))) (fMul (fVar 2) (fIx (fVar 3) (fVar 4)))) (vs := [4]) (ds := [some (.sh (.int a)), some (.sh (IL v)), some (.sh (.int b)), some (.sh (IL w)), none]) (ds1 := [some (.sh (.int a)), some (.sh (IL v)), some (.sh (.int b)), some (.sh (IL w)), none])
    (fun i : Nat => .int (i : Int)) (fun i => .int (a * v.getD i 0 + b * w.getD i 0)) (xs := List.range v.length) (by simp [small_nat (show v.length ≤ 1000000000 by omega), range_list]) (by simp) (by simpa using hl) (by
      intro i hi
      have h1 : i < v.length := by simpa using hi
      have h2 : i < w.length := by omega
      have m1 : mulOk a v[i] = true := mul_ok ha (hv _ (List.getElem_mem h1)) hk
      have m2 : mulOk b w[i] = true := mul_ok hb (hw _ (List.getElem_mem h2)) hk
      simp [turnC, atI_ints h1, atI_ints h2, m1, m2, h1, h2]) (by simp)
  have es : (List.range v.length).map (fun i => PyData.int (a * v.getD i 0 + b * w.getD i 0)) = (combL a v b w).map PyData.int := by
    unfold combL
    refine List.ext_getElem (by simp [hvw]) fun i h1 h2 => ?_
    have h3 : i < v.length := by simpa using h1
    have h4 : i < w.length := by omega
    simp [h3, h4]
  rw [es] at e
  simp [g_law_sum, funOf, fb_law_sum, e]
end LF
set_option Elab.async false
set_option linter.all false
set_option maxRecDepth 100000
namespace LF
open PySem PySem.Spec L2 Fx
/-! ### _law_vector -/
theorem repD_one (i : Int) (n : Nat) : repD [.int i] (n : Int) = (List.replicate n i).map PyData.int := by
  unfold repD
  rw [Int.toNat_natCast]
  induction n with
  | zero => rfl
  | succ n ih => rw [List.replicate_succ, List.flatten_cons, ih, List.replicate_succ, List.map_cons]; rfl
theorem repOk_one (i : Int) {n : Nat} (h : n ≤ 1000) : repOk [.int i] (n : Int) = true := repOk_of ⟨by omega, by simp, by omega⟩
def limV (n : Nat) : List Int := 6 :: (List.replicate n 2000001 ++ List.replicate n 7)
theorem limV_0 (n : Nat) : (limV n)[0]? = some 6 := rfl
theorem limV_1 {n k : Nat} (h : k < n) : (limV n)[1 + k]? = some 2000001 := by
  unfold limV
  rw [Nat.add_comm, List.getElem?_cons_succ, List.getElem?_append_left (by simpa using h)]
  simp [h]
theorem limV_2 {n k : Nat} (h : k < n) : (limV n)[1 + n + k]? = some 7 := by
  unfold limV
  rw [show 1 + n + k = (n + k) + 1 by omega, List.getElem?_cons_succ, List.getElem?_append_right (by simp)]
  simp [h]
theorem vector_eq (c : Int) (n : Nat) (hn : n ≤ 100) : ∃ v : List Int, v.length = n ∧ Lt 22 v ∧ g_law_vector [.int c, .int (n : Int)] = some (.flat (v.map PyData.int)) := by
  obtain ⟨ds, hb, hd⟩ := draws_eq c (limV n) (by
    intro m hm
    unfold limV at hm
    simp only [List.mem_cons, List.mem_append, List.mem_replicate] at hm
    rcases hm with rfl | ⟨_, rfl⟩ | ⟨_, rfl⟩ <;> omega) (by simp [limV]; omega)
  obtain ⟨d0, g0, l0, u0⟩ := hb.get 0 6 (limV_0 n)
  have h0 : atI (ds.map PyData.int) 0 = some (.int d0) := by
    have := atI_nat (xs := ds.map PyData.int) (j := 0) (v := .int d0) (by simp [g0])
    simpa using this
  have h1 : ∀ k, k < n → ∃ d, atI (ds.map PyData.int) (1 + (k : Int)) = some (.int d) ∧ 0 ≤ d ∧ d < 2000001 := fun k hk => by
    obtain ⟨d, a, b, e⟩ := hb.get _ _ (limV_1 hk)
    refine ⟨d, ?_, b, e⟩
    have := atI_nat (xs := ds.map PyData.int) (j := 1 + k) (v := .int d) (by simp [a])
    simpa using this
  have h2 : ∀ k, k < n → ∃ d, atI (ds.map PyData.int) (1 + (n : Int) + (k : Int)) = some (.int d) ∧ 0 ≤ d ∧ d < 7 := fun k hk => by
    obtain ⟨d, a, b, e⟩ := hb.get _ _ (limV_2 hk)
    refine ⟨d, ?_, b, e⟩
    have := atI_nat (xs := ds.map PyData.int) (j := 1 + n + k) (v := .int d) (by simp [a])
    simpa using this
  have e1 : ∀ k, k < n → atI (ds.map PyData.int) (1 + (k : Int)) = some (.int (ds.getD (1 + k) 0)) ∧ 0 ≤ ds.getD (1 + k) 0 ∧ ds.getD (1 + k) 0 < 2000001 := fun k hk => by
    obtain ⟨d, a, b, e⟩ := hb.get _ _ (limV_1 hk)
    have h3 : ds.getD (1 + k) 0 = d := by simp [a]
    rw [h3]
    refine ⟨?_, b, e⟩
    have := atI_nat (xs := ds.map PyData.int) (j := 1 + k) (v := .int d) (by simp [a])
    simpa using this
  have e2 : ∀ k, k < n → atI (ds.map PyData.int) (1 + (n : Int) + (k : Int)) = some (.int (ds.getD (1 + n + k) 0)) ∧ 0 ≤ ds.getD (1 + n + k) 0 ∧ ds.getD (1 + n + k) 0 < 7 := fun k hk => by
    obtain ⟨d, a, b, e⟩ := hb.get _ _ (limV_2 hk)
    have h3 : ds.getD (1 + n + k) 0 = d := by simp [a]
    rw [h3]
    refine ⟨?_, b, e⟩
    have := atI_nat (xs := ds.map PyData.int) (j := 1 + n + k) (v := .int d) (by simp [a])
    simpa using this
  clear h1 h2
  have g1 : ¬ (1000000 < 1 + n) := by omega
  have g2 : ¬ (1000000 < n + 1 + n) := by omega
  have g3 : ¬ (1000000 < 1 + n + n) := by omega
  have g4 : ¬ (1000000 < 1 + (n + n)) := by omega
  have g5 : ¬ (1000000 < n + n + 1) := by omega
  have g6 : ¬ (1000000 < n + 1) := by omega
  have sm : small62 (n : Int) = true := small_nat (by omega)
  have comp : ∀ (fe : DS → Option (RV × DS)) (r : Nat → Int), (∀ k, k < n → fe [some (.sh (.int c)), some (.sh (.int (n : Int))), some (.flat (ds.map PyData.int)), some (.sh (.int (k : Int)))] = some (.ov (.sh (.int (r k))), [some (.sh (.int c)), some (.sh (.int (n : Int))), some (.flat (ds.map PyData.int)), some (.sh (.int (k : Int)))])) →
      fLc (fiR1 (fCons (fVar 1) fNil)) (fgName 3) fYes fe [3] [some (.sh (.int c)), some (.sh (.int (n : Int))), some (.flat (ds.map PyData.int)), none] = some (.ov (.flat ((List.range n).map fun k => .int (r k))), [some (.sh (.int c)), some (.sh (.int (n : Int))), some (.flat (ds.map PyData.int)), none]) := fun fe r h =>
    fLc_X (fun k : Nat => .int (k : Int)) (fun k => .int (r k)) (xs := List.range n) (by simp [sm, range_list]) (by simp) (by simp; omega) (by
      intro k hk
      have hk' : k < n := by simpa using hk
      simp [turnC, h k hk']) (by simp)
  have hd' : g_law_draws [.int c, .list (PyData.int 6 :: (List.replicate n (PyData.int 2000001) ++ List.replicate n (PyData.int 7)))] = some (.flat (ds.map PyData.int)) := by
    rw [← hd]
    simp [limV, IL]
  have fin : ∀ r : Nat → Int, (∀ k, k < n → (r k).natAbs < 2 ^ 22) → (List.range n).map (fun k => PyData.int (r k)) = ((List.range n).map r).map PyData.int ∧ ((List.range n).map r).length = n ∧ Lt 22 ((List.range n).map r) := fun r h => by
    refine ⟨by simp, by simp, fun i hi => ?_⟩
    obtain ⟨k, hk, rfl⟩ := List.mem_map.mp hi
    exact h k (by simpa using hk)
  have nz : ∀ k : Int, d0 = k → (d0 == k) = true := fun k h => by simp [h]
  by_cases c0 : d0 = 0
  · subst c0
    have cc := comp (fOp (gI cT fun i j => .int (i - j)) (fIx (fVar 2) (fAdd (fC (.int 1)) (fVar 3))) (fC (.int 1000000))) (fun k => ds.getD (1 + k) 0 - 1000000) (fun k hk => by simp [(e1 k hk).1])
    obtain ⟨f1, f2, f3⟩ := fin (fun k => ds.getD (1 + k) 0 - 1000000) (fun k hk => by have := e1 k hk; omega)
    refine ⟨_, f2, f3, ?_⟩
    rw [f1] at cc
    simp only [List.getD_eq_getElem?_getD] at cc ⊢
    simp [-List.map_map, g_law_vector, funOf, fb_law_vector, repOk_one _ (show n ≤ 1000 by omega), repD_one, hd', own_flat_ints, g1, g2, g3, g4, g5, g6, h0, cc]
  by_cases c1 : d0 = 1
  · subst c1
    have cc := comp (fMul (fOp (gI cT fun i j => .int (i - j)) (fIx (fVar 2) (fAdd (fAdd (fC (.int 1)) (fVar 1)) (fVar 3))) (fC (.int 3))) (fC (.int 6))) (fun k => (ds.getD (1 + n + k) 0 - 3) * 6) (fun k hk => by
      have b := (e2 k hk).2
      have m1 : mulOk (ds.getD (1 + n + k) 0 - 3) 6 = true := mul_ok (a := 4) (b := 4) (by omega) (by omega) (by omega)
      simp only [List.getD_eq_getElem?_getD] at m1
      simp [(e2 k hk).1, m1])
    obtain ⟨f1, f2, f3⟩ := fin (fun k => (ds.getD (1 + n + k) 0 - 3) * 6) (fun k hk => by have := e2 k hk; omega)
    refine ⟨_, f2, f3, ?_⟩
    rw [f1] at cc
    simp only [List.getD_eq_getElem?_getD] at cc ⊢
    simp [-List.map_map, g_law_vector, funOf, fb_law_vector, repOk_one _ (show n ≤ 1000 by omega), repD_one, hd', own_flat_ints, g1, g2, g3, g4, g5, g6, h0, cc]
  by_cases c2 : d0 = 2
  · subst c2
    have cc := comp (fMul (fCa gInt (fCons (fOp gEqX (fIx (fVar 2) (fAdd (fAdd (fC (.int 1)) (fVar 1)) (fVar 3))) (fC (.int 3))) fNil)) (fAdd (fC (.int 1)) (fIx (fVar 2) (fAdd (fC (.int 1)) (fVar 3))))) (fun k => (if (ds.getD (1 + n + k) 0 == 3) = true then 1 else 0) * (1 + ds.getD (1 + k) 0)) (fun k hk => by
      have b := (e1 k hk).2
      have m1 : mulOk (if (ds.getD (1 + n + k) 0 == 3) = true then 1 else 0) (1 + ds.getD (1 + k) 0) = true := mul_ok (a := 4) (b := 22) (by split <;> omega) (by omega) (by omega)
      simp only [List.getD_eq_getElem?_getD] at m1
      simp at m1
      simp [(e2 k hk).1, (e1 k hk).1, m1])
    obtain ⟨f1, f2, f3⟩ := fin (fun k => (if (ds.getD (1 + n + k) 0 == 3) = true then 1 else 0) * (1 + ds.getD (1 + k) 0)) (fun k hk => by have := e1 k hk; show (((if (ds.getD (1 + n + k) 0 == 3) = true then 1 else 0) * (1 + ds.getD (1 + k) 0) : Int)).natAbs < 2 ^ 22; split <;> omega)
    refine ⟨_, f2, f3, ?_⟩
    rw [f1] at cc
    simp only [List.getD_eq_getElem?_getD] at cc ⊢
    simp [-List.map_map, g_law_vector, funOf, fb_law_vector, repOk_one _ (show n ≤ 1000 by omega), repD_one, hd', own_flat_ints, g1, g2, g3, g4, g5, g6, h0, cc]
  · have cc := comp (fOp (gI cT fun i j => .int (i - j)) (fIx (fVar 2) (fAdd (fAdd (fC (.int 1)) (fVar 1)) (fVar 3))) (fC (.int 3))) (fun k => ds.getD (1 + n + k) 0 - 3) (fun k hk => by simp [(e2 k hk).1])
    obtain ⟨f1, f2, f3⟩ := fin (fun k => ds.getD (1 + n + k) 0 - 3) (fun k hk => by have := e2 k hk; omega)
    refine ⟨_, f2, f3, ?_⟩
    rw [f1] at cc
    simp only [List.getD_eq_getElem?_getD] at cc ⊢
    simp [-List.map_map, g_law_vector, funOf, fb_law_vector, repOk_one _ (show n ≤ 1000 by omega), repD_one, hd', own_flat_ints, g1, g2, g3, g4, g5, g6, h0, c0, c1, c2, cc]
/-! ### _law_integers -/
@[simp] theorem kit_list : kitB "list" "list" = some true := by decide +kernel
@[simp] theorem kit_int : kitB "int" "int" = some true := by decide +kernel
@[simp] theorem kit_int_bool : kitB "int" "bool" = some false := by decide +kernel
@[simp] theorem kit_bool_bool : kitB "bool" "bool" = some true := by decide +kernel
@[simp] theorem kit_tuple : kitB "tuple" "tuple" = some true := by decide +kernel
theorem integers_eq (v : List Int) (hl : v.length ≤ 1000000) : g_law_integers [IL v, .int (v.length : Int)] = some (.sh (.bool true)) := by
  have e := fLc_X (fi := fiList (fVar 0)) (g := fgName 2) (ft := fYes) (fe := fAndV (fIsi "int" (fVar 2)) (fNotV (fIsi "bool" (fVar 2)))) (vs := [2]) (ds := [some (.sh (IL v)), some (.sh (.int (v.length : Int))), none]) (ds1 := [some (.sh (IL v)), some (.sh (.int (v.length : Int))), none])
    PyData.int (fun _ => .bool true) (xs := v) (by simp) (by simp) hl (by
      intro i _
      simp [turnC]) (by simp)
  have eb : boolsD (v.map fun _ => PyData.bool true) = some (v.map fun _ => true) := by
    have := boolsD_map (v.map fun _ => true)
    rwa [List.map_map] at this
  simp [g_law_integers, funOf, fb_law_integers, e, gAll, eb]
end LF
set_option Elab.async false
set_option linter.all false
set_option maxRecDepth 100000
namespace LF
open PySem PySem.Spec L2 Fx
/-! ### laws of prim -/
theorem gcdF_dvd : ∀ (v : List Int) (d : Nat), gcdF d v ∣ d ∧ ∀ i ∈ v, gcdF d v ∣ i.natAbs
  | [], d => ⟨Nat.dvd_refl _, by simp⟩
  | i :: v, d => by
    obtain ⟨h1, h2⟩ := gcdF_dvd v (Nat.gcd d i.natAbs)
    have e : gcdF d (i :: v) = gcdF (Nat.gcd d i.natAbs) v := rfl
    rw [e]
    refine ⟨Nat.dvd_trans h1 (Nat.gcd_dvd_left _ _), fun j hj => ?_⟩
    rcases List.mem_cons.mp hj with rfl | hj
    · exact Nat.dvd_trans h1 (Nat.gcd_dvd_right _ _)
    · exact h2 j hj
theorem dvd_gcdF : ∀ (v : List Int) (d c : Nat), c ∣ d → (∀ i ∈ v, c ∣ i.natAbs) → c ∣ gcdF d v
  | [], d, c, h, _ => h
  | i :: v, d, c, h, k => dvd_gcdF v (Nat.gcd d i.natAbs) c (Nat.dvd_gcd h (k i (by simp))) fun j hj => k j (by simp [hj])
theorem fdiv_natAbs {i : Int} {g : Nat} (hg : 0 < g) (h : g ∣ i.natAbs) : (i.fdiv (g : Int)).natAbs = i.natAbs / g := by
  obtain ⟨c, hc⟩ := h
  have h2 : i.natAbs / g = c := by rw [hc]; exact Nat.mul_div_cancel_left c hg
  rw [h2]
  rcases Int.natAbs_eq i with e | e
  · rw [e, hc]
    have : (((g * c : Nat) : Int)).fdiv (g : Int) = (c : Int) := by
      rw [Int.natCast_mul, Int.mul_fdiv_cancel_left _ (by omega)]
    rw [this]; simp
  · rw [e, hc]
    have : (-((g * c : Nat) : Int)).fdiv (g : Int) = -(c : Int) := by
      rw [Int.natCast_mul, ← Int.mul_neg, Int.mul_fdiv_cancel_left _ (by omega)]
    rw [this]; simp
theorem prim_gcd_le (v : List Int) : gcdL (prim v) ≤ 1 := by
  unfold prim
  split
  · assumption
  · rename_i hg
    have hg0 : 0 < gcdL v := by omega
    obtain ⟨_, hd⟩ := gcdF_dvd v 0
    obtain ⟨_, hc⟩ := gcdF_dvd (v.map fun i => i.fdiv (gcdL v)) 0
    have h3 : gcdL v * gcdL (v.map fun i => i.fdiv (gcdL v)) ∣ gcdL v := dvd_gcdF v 0 _ (Nat.dvd_zero _) fun i hi => by
      have h4 := hc (i.fdiv (gcdL v)) (List.mem_map.mpr ⟨i, hi, rfl⟩)
      rw [fdiv_natAbs hg0 (hd i hi)] at h4
      obtain ⟨c, hc⟩ := hd i hi
      have h5 : i.natAbs / gcdL v = c := by rw [hc]; exact Nat.mul_div_cancel_left c hg0
      rw [h5] at h4
      rw [hc]
      exact Nat.mul_dvd_mul_left _ h4
    have h6 := Nat.le_of_dvd hg0 h3
    have h7 : gcdL v * gcdL (v.map fun i => i.fdiv (gcdL v)) ≤ gcdL v * 1 := by omega
    exact Nat.le_of_mul_le_mul_left h7 hg0
theorem prim_prim (v : List Int) : prim (prim v) = prim v := by
  have h := prim_gcd_le v
  generalize prim v = u at h ⊢
  unfold prim
  rw [if_pos h]
theorem prim_gcd_one (v : List Int) (h : ∃ i ∈ v, i ≠ 0) : gcdL (prim v) = 1 := by
  have h1 := prim_gcd_le v
  obtain ⟨i, hi, h0⟩ := h
  have hne : gcdL v ≠ 0 := fun z => by
    have := (gcdF_dvd v 0).2 i hi
    rw [show gcdF 0 v = 0 from z] at this
    have := Nat.eq_zero_of_zero_dvd this
    omega
  suffices hx : gcdL (prim v) ≠ 0 by omega
  intro z
  have hall : ∀ j ∈ prim v, j = 0 := fun j hj => by
    have := (gcdF_dvd (prim v) 0).2 j hj
    rw [show gcdF 0 (prim v) = 0 from z] at this
    have := Nat.eq_zero_of_zero_dvd this
    omega
  by_cases hg : gcdL v ≤ 1
  · have hp : prim v = v := by unfold prim; rw [if_pos hg]
    rw [hp] at hall
    exact h0 (hall i hi)
  · have hp : prim v = v.map fun i => i.fdiv (gcdL v) := by unfold prim; rw [if_neg hg]
    have h2 := hall (i.fdiv (gcdL v)) (by rw [hp]; exact List.mem_map.mpr ⟨i, hi, rfl⟩)
    have h3 := fdiv_natAbs (show 0 < gcdL v by omega) ((gcdF_dvd v 0).2 i hi)
    rw [h2] at h3
    obtain ⟨c, hc⟩ := (gcdF_dvd v 0).2 i hi
    have h5 : i.natAbs / gcdL v = c := by
      rw [hc]
      exact Nat.mul_div_cancel_left c (show 0 < gcdL v by omega)
    rw [h5] at h3
    have : c = 0 := by simpa using h3.symm
    subst this
    omega
theorem prim_Lt {v : List Int} {k : Nat} (h : Lt k v) : Lt k (prim v) := by
  unfold prim
  split
  · exact h
  · rename_i hg
    intro j hj
    obtain ⟨i, hi, rfl⟩ := List.mem_map.mp hj
    rw [fdiv_natAbs (show 0 < gcdL v by omega) ((gcdF_dvd v 0).2 i hi)]
    exact Nat.lt_of_le_of_lt (Nat.div_le_self _ _) (h i hi)
/-! ### equality and repr of lists of ints -/
theorem canLay_ints : ∀ v : List Int, PyData.canLayAll0 (v.map PyData.int) = true
  | [] => rfl
  | i :: v => by simp [PyData.canLayAll0, PyData.canLay0, canLay_ints v]
theorem depth_ints : ∀ v : List Int, PyData.depthAll (v.map PyData.int) = 0
  | [] => rfl
  | i :: v => by simp [PyData.depthAll, PyData.depth, depth_ints v]
theorem hasDict_ints : ∀ v : List Int, PyData.hasDictAll (v.map PyData.int) = false
  | [] => rfl
  | i :: v => by simp [PyData.hasDictAll, PyData.hasDict, hasDict_ints v]
theorem bulk_ints : ∀ v : List Int, PyData.bulkAll (v.map PyData.int) = v.length
  | [] => rfl
  | i :: v => by simp [PyData.bulkAll, PyData.bulk, bulk_ints v]; omega
theorem shaped_ints (v : List Int) : SeqAt.shaped (IL v) = true := by
  simp [SeqAt.shaped, IL, PyData.canLay0, canLay_ints, PyData.depth, depth_ints]
@[simp] theorem gNeX_refl_ints (v : List Int) : gNeX (IL v) (IL v) = some (.bool false) := by
  have h : PyData.eqv (IL v) (IL v) = true := SeqAt.eqv_refl _ (canLay_ints v)
  simp only [IL] at h
  have hs := shaped_ints v
  simp only [IL] at hs
  simp [gNeX, gNe, hs, h]
@[simp] theorem gNeX_refl_str (s : Str) : gNeX (.str s) (.str s) = some (.bool false) := by simp [gNeX]
theorem trusD_ints : ∀ v : List Int, trusD (v.map PyData.int) = some (v.map fun i => i != 0)
  | [] => rfl
  | i :: v => by simp [trusD, trusD_ints v]
theorem gAny_ints (v : List Int) : gAny [IL v] = some (.bool (v.any fun i => i != 0)) := by
  simp [gAny, IL, trusD_ints, List.any_map]
theorem showable_ints : ∀ {v : List Int} {k : Nat}, Lt k v → k ≤ 1900 → 0 < k → PyData.showableAll (v.map PyData.int) = true
  | [], _, _, _, _ => rfl
  | i :: v, k, h, hk, h0 => by
    have h1 : i.natAbs.log2 < 1920 := by
      by_cases hn : i.natAbs = 0
      · rw [hn]; decide
      · have := (Nat.log2_lt hn).mpr (h i (by simp))
        omega
    simp [PyData.showableAll, PyData.showable, h1, showable_ints (v := v) (fun j hj => h j (by simp [hj])) hk h0]
theorem short_ints : ∀ {v : List Int}, Lt 44 v → PyData.leavesShortAll 16 (v.map PyData.int) = true
  | [], _ => rfl
  | i :: v, h => by
    have h1 : (PyData.shown (.int i)).length ≤ 16 := by
      show (Str.ofString (toString i)).length ≤ 16
      rw [ofString_length]
      refine int_text_length_le10 (k := 15) (by decide) ?_
      have := h i (by simp)
      omega
    simp [PyData.leavesShortAll, PyData.leavesShort, h1, short_ints (v := v) fun j hj => h j (by simp [hj])]
theorem repr_two {v w : List Int} (hv : Lt 44 v) (hw : Lt 44 w) (lv : v.length ≤ 100) (lw : w.length ≤ 100) : gRepr [.list [IL v, IL w]] = some (.str (PyData.list [IL v, IL w]).shown) := by
  have h1 : (PyData.list [IL v, IL w]).showable = true := by
    simp [PyData.showable, PyData.showableAll, IL, showable_ints hv (by omega) (by omega), showable_ints hw (by omega) (by omega)]
  have h2 : (PyData.list [IL v, IL w]).hasDict = false := by
    simp [PyData.hasDict, PyData.hasDictAll, IL, hasDict_ints]
  have h3 : (PyData.list [IL v, IL w]).depth ≤ 60 := by
    simp [PyData.depth, PyData.depthAll, IL, depth_ints]
  have h4 : (PyData.list [IL v, IL w]).shown.length ≤ sizeLine := by
    have h5 := PyData.shown_le_bulk 16 (by decide) (PyData.list [IL v, IL w]) (by
      simp [PyData.leavesShort, PyData.leavesShortAll, IL, short_ints hv, short_ints hw])
    have h6 : (PyData.list [IL v, IL w]).bulk = v.length + w.length + 2 := by
      simp [PyData.bulk, PyData.bulkAll, IL, bulk_ints]; omega
    rw [h6] at h5
    have : sizeLine = 16777216 := by decide
    omega
  simp only [gRepr, isRefD, h1, h2, decide_eq_true h3, decide_eq_true h4, Bool.and_self, Bool.not_false, if_true]
end LF
set_option Elab.async false
set_option linter.all false
set_option maxRecDepth 100000
namespace LF
open PySem PySem.Spec L2 Fx
/-! the law's turn, statement by statement (from gen.py's print) -/
noncomputable def q0 : DS → Option Out := (fSet 2 (fOp (gI cNz fun i j => .int (i.fmod j)) (fCa gInt (fCons (fCall 2 g_law_cell (fCons (fVar 0) (fCons (fVar 1) fNil))) fNil)) (fC (.int 7))))
noncomputable def q1 : DS → Option Out := (fSet 3 (fCall 2 g_law_vector (fCons (fCall 2 g_law_cell (fCons (fVar 0) (fCons (fAdd (fVar 1) (fC (.int 1))) fNil))) (fCons (fVar 2) fNil))))
noncomputable def q2 : DS → Option Out := (fSet 4 (fCall 2 g_law_vector (fCons (fCall 2 g_law_cell (fCons (fVar 0) (fCons (fAdd (fVar 1) (fC (.int 2))) fNil))) (fCons (fVar 2) fNil))))
noncomputable def q3 : DS → Option Out := (fSet 5 (fOp (gI cT fun i j => .int (i - j)) (fOp (gI cNz fun i j => .int (i.fmod j)) (fCa gInt (fCons (fCall 2 g_law_cell (fCons (fVar 0) (fCons (fAdd (fVar 1) (fC (.int 3))) fNil))) fNil)) (fC (.int 2000003))) (fC (.int 1000001))))
noncomputable def q4 : DS → Option Out := (fIfS (fBool (fOp gEqX (fOp (gI cNz fun i j => .int (i.fmod j)) (fOp (gI cFd fun i j => .int (i.fdiv j)) (fCa gInt (fCons (fCall 2 g_law_cell (fCons (fVar 0) (fCons (fVar 1) fNil))) fNil)) (fC (.int 7))) (fC (.int 3))) (fC (.int 1)))) (fSet 3 (fLc (fiList (fVar 3)) (fgName 9) fYes (fMul (fVar 5) (fVar 9)) [9])) fNext)
noncomputable def q5 : DS → Option Out := (fSet 6 (fCa gRepr (fCons (fLst (fCons (fVar 3) (fCons (fVar 4) fNil))) fNil)))
noncomputable def q6 : DS → Option Out := (fSet 7 (fCall 1 g_primitive (fCons (fVar 3) fNil)))
noncomputable def q7 : DS → Option Out := (fIfS (fOrT (fNotT (fTru (fCall 2 g_law_integers (fCons (fVar 7) (fCons (fVar 2) fNil))))) (fBool (fOp gNeX (fVar 7) (fCall 1 g_law_primitive (fCons (fVar 3) fNil))))) (fRet (fC (.bool false))) fNext)
noncomputable def q8 : DS → Option Out := (fSet 8 (fC (.int 0)))
noncomputable def q9 : DS → Option Out := (fForB 7 (fgName 9) (fSet 8 (fCall 2 g_law_gcd (fCons (fVar 8) (fCons (fVar 9) fNil)))))
noncomputable def q10 : DS → Option Out := (fIfS (fOrT (fAndT (fTru (fCa gAny (fCons (fVar 3) fNil))) (fBool (fOp gNeX (fVar 8) (fC (.int 1))))) (fBool (fOp gNeX (fCall 1 g_primitive (fCons (fVar 7) fNil)) (fVar 7)))) (fRet (fC (.bool false))) fNext)
noncomputable def q11 : DS → Option Out := (fSet 10 (fCall 2 g_dot (fCons (fVar 3) (fCons (fVar 4) fNil))))
noncomputable def q12 : DS → Option Out := (fIfS (fOrT (fTru (fIsi "bool" (fVar 10))) (fBool (fOp gNeX (fVar 10) (fCall 2 g_law_dot (fCons (fVar 3) (fCons (fVar 4) fNil)))))) (fRet (fC (.bool false))) fNext)
noncomputable def q13 : DS → Option Out := (fSet 11 (fCall 4 g_combined (fCons (fVar 5) (fCons (fVar 3) (fCons (fOp (gI cT fun i j => .int (i - j)) (fVar 1) (fC (.int 3))) (fCons (fVar 4) fNil))))))
noncomputable def q14 : DS → Option Out := (fIfS (fOrT (fNotT (fTru (fCall 2 g_law_integers (fCons (fVar 11) (fCons (fVar 2) fNil))))) (fOrT (fBool (fOp gNeX (fVar 11) (fCall 4 g_law_sum (fCons (fVar 5) (fCons (fVar 3) (fCons (fOp (gI cT fun i j => .int (i - j)) (fVar 1) (fC (.int 3))) (fCons (fVar 4) fNil))))))) (fBool (fOp gNeX (fCa gRepr (fCons (fLst (fCons (fVar 3) (fCons (fVar 4) fNil))) fNil)) (fVar 6))))) (fRet (fC (.bool false))) fNext)
noncomputable def q15 : DS → Option Out := (fApp 7 (fC (.int 1)))
noncomputable def q16 : DS → Option Out := (fApp 11 (fC (.int 1)))
noncomputable def q17 : DS → Option Out := (fIfS (fBool (fOp gNeX (fCa gRepr (fCons (fLst (fCons (fVar 3) (fCons (fVar 4) fNil))) fNil)) (fVar 6))) (fRet (fC (.bool false))) fNext)
noncomputable def lawTurn : DS → Option Out := (fSeq q0 (fSeq q1 (fSeq q2 (fSeq q3 (fSeq q4 (fSeq q5 (fSeq q6 (fSeq q7 (fSeq q8 (fSeq q9 (fSeq q10 (fSeq q11 (fSeq q12 (fSeq q13 (fSeq q14 (fSeq q15 (fSeq q16 q17)))))))))))))))))
noncomputable def fb_law : DS → Option Out := (fSeq (fFor (fiR3 (fCons (fC (.int 0)) (fCons (fAdd (fCa gLen (fCons (fVar 0) fNil)) (fC (.int 4))) (fCons (fC (.int 4)) fNil)))) (fgName 1) lawTurn) (fRet (fC (.bool true))))

abbrev si (i : Int) : Option OV := some (.sh (.int i))
abbrev fl (v : List Int) : Option OV := some (.flat (v.map PyData.int))
abbrev sl (v : List Int) : Option OV := some (.sh (IL v))
theorem own_sh_bool (b : Bool) : (OV.sh (.bool b)).own? = some (.bool b) := by simp [OV.own?]
theorem fSeq_nx {f g : DS → Option Out} {a b : DS} {r : Option Out} (h : f a = some (.nx b)) (k : g b = r) : fSeq f g a = r := by
  subst k
  unfold fSeq
  rw [h]
  try rfl
theorem cell_add (ns : List Int) (k j : Nat) : g_law_cell [IL ns, .int ((k : Int) + (j : Int))] = some (.sh (.int (ns.getD (k + j) 0))) := by
  have := cell_eq ns (k + j)
  rwa [Int.natCast_add] at this
section
variable {ns v w u : List Int} {k n : Nat} {f d : Int} {x2 x3 x4 x5 x6 x7 x8 x9 x10 x11 : Option OV}
theorem q0_eq : ∃ n : Nat, n < 7 ∧ q0 [sl ns, si k, x2, x3, x4, x5, x6, x7, x8, x9, x10, x11] = some (.nx [sl ns, si k, si (n : Int), x3, x4, x5, x6, x7, x8, x9, x10, x11]) := by
  have b := fmod_pos (a := ns.getD k 0) (b := 7) (by decide)
  refine ⟨((ns.getD k 0).fmod 7).toNat, by omega, ?_⟩
  have e : ((((ns.getD k 0).fmod 7).toNat : Nat) : Int) = (ns.getD k 0).fmod 7 := by omega
  rw [e]
  have nz : ∀ s : Int, cNz s 7 = true := fun s => cNz_ok (by omega)
  have c := cell_eq ns k
  simp at c
  simp [q0, c, nz, own_sh_int]
theorem q1_eq (hn : n < 7) : ∃ v : List Int, v.length = n ∧ Lt 22 v ∧ q1 [sl ns, si k, si (n : Int), x3, x4, x5, x6, x7, x8, x9, x10, x11] = some (.nx [sl ns, si k, si (n : Int), fl v, x4, x5, x6, x7, x8, x9, x10, x11]) := by
  obtain ⟨v, h1, h2, h3⟩ := vector_eq (ns.getD (k + 1) 0) n (by omega)
  refine ⟨v, h1, h2, ?_⟩
  have c := cell_add ns k 1
  simp at c h3
  simp [q1, c, h3, own_sh_int, own_flat_ints]
theorem q2_eq (hn : n < 7) : ∃ w : List Int, w.length = n ∧ Lt 22 w ∧ q2 [sl ns, si k, si (n : Int), x3, x4, x5, x6, x7, x8, x9, x10, x11] = some (.nx [sl ns, si k, si (n : Int), x3, fl w, x5, x6, x7, x8, x9, x10, x11]) := by
  obtain ⟨w, h1, h2, h3⟩ := vector_eq (ns.getD (k + 2) 0) n (by omega)
  refine ⟨w, h1, h2, ?_⟩
  have c := cell_add ns k 2
  simp at c h3
  simp [q2, c, h3, own_sh_int, own_flat_ints]
theorem q3_eq : ∃ f : Int, f.natAbs < 2 ^ 20 ∧ q3 [sl ns, si k, x2, x3, x4, x5, x6, x7, x8, x9, x10, x11] = some (.nx [sl ns, si k, x2, x3, x4, si f, x6, x7, x8, x9, x10, x11]) := by
  have b := fmod_pos (a := ns.getD (k + 3) 0) (b := 2000003) (by decide)
  refine ⟨(ns.getD (k + 3) 0).fmod 2000003 - 1000001, by omega, ?_⟩
  have nz : ∀ s : Int, cNz s 2000003 = true := fun s => cNz_ok (by omega)
  have c := cell_add ns k 3
  simp at c
  simp [q3, c, nz, own_sh_int]
theorem q4_eq (hv : Lt 22 v) (hl : v.length ≤ 100) (hf : f.natAbs < 2 ^ 20) (h9 : shB (some x9) = true) : ∃ u : List Int, u.length = v.length ∧ Lt 44 u ∧ q4 [sl ns, si k, x2, fl v, x4, si f, x6, x7, x8, x9, x10, x11] = some (.nx [sl ns, si k, x2, fl u, x4, si f, x6, x7, x8, x9, x10, x11]) := by
  have nz : ∀ s : Int, cNz s 3 = true := fun s => cNz_ok (by omega)
  have fz : ∀ s : Int, cFd s 7 = true := fun s => cFd_30 (by omega) (by omega)
  have c := cell_eq ns k
  simp at c
  by_cases hc : (((ns[k]?.getD 0).fdiv 7).fmod 3 == 1) = true
  · refine ⟨v.map fun i => f * i, by simp, fun j hj => ?_, ?_⟩
    · obtain ⟨i, hi, rfl⟩ := List.mem_map.mp hj
      rw [Int.natAbs_mul]
      have h1 := hv i hi
      have h2 : f.natAbs * i.natAbs < 2 ^ 20 * 2 ^ 22 := Nat.mul_lt_mul'' hf h1
      have h3 : (2 : Nat) ^ 20 * 2 ^ 22 ≤ 2 ^ 44 := by decide
      omega
    · have e := fLc_X (fi := fiList (fVar 3)) (g := fgName 9) (ft := fYes) (fe := fMul (fVar 5) (fVar 9)) (vs := [9]) (ds := [sl ns, si k, x2, fl v, x4, si f, x6, x7, x8, x9, x10, x11]) (ds1 := [sl ns, si k, x2, sl v, x4, si f, x6, x7, x8, x9, x10, x11])
        PyData.int (fun i => .int (f * i)) (xs := v) (by simp) (by simpa using h9) (by omega) (by
          intro i hi
          have m1 : mulOk f i = true := mul_ok hf (hv i hi) (by omega)
          simp [turnC, m1]) (by simp)
      simp at hc
      try simp at e
      simp [q4, c, nz, fz, hc, e, own_sh_int, List.map_map]
      try rfl
  · refine ⟨v, rfl, fun i hi => ?_, ?_⟩
    · have := hv i hi; omega
    · simp at hc
      simp [q4, c, nz, fz, hc, own_sh_int]
theorem q5_eq (hv : Lt 44 v) (hw : Lt 44 w) (lv : v.length ≤ 100) (lw : w.length ≤ 100) : q5 [sl ns, si k, x2, fl v, fl w, x5, x6, x7, x8, x9, x10, x11] = some (.nx [sl ns, si k, x2, sl v, sl w, x5, some (.sh (.str (PyData.list [IL v, IL w]).shown)), x7, x8, x9, x10, x11]) := by
  have r := repr_two hv hw lv lw
  try simp at r
  simp [q5, r]
theorem q6_eq (hv : Lt 44 v) (lv : v.length ≤ 100) : q6 [sl ns, si k, x2, sl v, sl w, x5, x6, x7, x8, x9, x10, x11] = some (.nx [sl ns, si k, x2, sl v, sl w, x5, x6, fl (prim v), x8, x9, x10, x11]) := by
  have p := primitive_eq v hv (by omega) (by omega) (by omega)
  try simp at p
  simp [q6, p, own_flat_ints]
theorem q7_eq (hv : Lt 44 v) (lv : v.length = n) (hn : n < 7) : q7 [sl ns, si k, si (n : Int), sl v, sl w, x5, x6, fl (prim v), x8, x9, x10, x11] = some (.nx [sl ns, si k, si (n : Int), sl v, sl w, x5, x6, fl (prim v), x8, x9, x10, x11]) := by
  have p := lprimitive_eq v hv (by omega) (by omega) (by omega)
  have i := integers_eq (prim v) (by rw [prim_len]; omega)
  rw [prim_len, lv] at i
  have g := gNeX_refl_ints (prim v)
  try simp at p
  try simp at i
  simp [q7, p, i, own_flat_ints, own_sh_bool]
theorem q8_eq : q8 [sl ns, si k, x2, x3, x4, x5, x6, x7, x8, x9, x10, x11] = some (.nx [sl ns, si k, x2, x3, x4, x5, x6, x7, si 0, x9, x10, x11]) := by
  simp [q8]
end
end LF
set_option Elab.async false
set_option linter.all false
set_option maxRecDepth 100000
namespace LF
open PySem PySem.Spec L2 Fx
noncomputable def q9b : DS → Option Out := (fSet 8 (fCall 2 g_law_gcd (fCons (fVar 8) (fCons (fVar 9) fNil))))
theorem q9_loop {K w : Nat} {x0 x1 x2 x3 x4 x5 x6 x7 x10 x11 : Option OV} (hk : w ≤ 2 ^ 50) : ∀ (v : List Int) (d : Nat) (o : Option OV), Lt w v → d < 2 ^ w → shB (some o) = true → ∃ o', shB (some o') = true ∧
    loopF (fgName 9) q9b (v.map PyData.int) [x0, x1, x2, x3, x4, x5, x6, x7, si d, o, x10, x11] = some (.nx [x0, x1, x2, x3, x4, x5, x6, x7, si (gcdF d v : Nat), o', x10, x11]) := by
  intro v
  induction v with
  | nil => intro d o _ _ ho; exact ⟨o, ho, rfl⟩
  | cons i v ih =>
    intro d o hv hd ho
    have hi := hv i (by simp)
    obtain ⟨o', ho', h⟩ := ih (Nat.gcd d i.natAbs) (some (.sh (.int i))) (fun j hj => hv j (by simp [hj])) (gcd_lt hd hi) rfl
    refine ⟨o', ho', ?_⟩
    have b1 := bits_le hd
    have b2 := bits_le hi
    have eg := gcd_eq (d : Int) i (by
      simp only [Int.natAbs_natCast]
      omega)
    simp at eg
    simp [loopF, q9b, eg, own_sh_int]
    exact h
section
variable {ns v w u p j : List Int} {k n : Nat} {f d : Int} {x0 x1 x2 x3 x4 x5 x6 x7 x8 x9 x10 x11 : Option OV}
theorem q9_eq (hp : Lt 44 p) (h9 : shB (some x9) = true) : ∃ o, shB (some o) = true ∧ q9 [x0, x1, x2, x3, x4, x5, x6, fl p, si 0, x9, x10, x11] = some (.nx [x0, x1, x2, x3, x4, x5, x6, fl p, si (gcdL p), o, x10, x11]) := by
  obtain ⟨o, h1, h2⟩ := q9_loop (K := 0) (w := 44) (x0 := x0) (x1 := x1) (x2 := x2) (x3 := x3) (x4 := x4) (x5 := x5) (x6 := x6) (x7 := none) (x10 := x10) (x11 := x11) (by omega) p 0 x9 hp (by omega) h9
  refine ⟨o, h1, ?_⟩
  have e : q9 [x0, x1, x2, x3, x4, x5, x6, fl p, si 0, x9, x10, x11] = (loopF (fgName 9) q9b (p.map PyData.int) [x0, x1, x2, x3, x4, x5, x6, none, si ((0 : Nat) : Int), x9, x10, x11]).map (back 7 (p.map PyData.int)) := rfl
  rw [e, h2]
  rfl
theorem q10_eq (hv : Lt 44 v) (lv : v.length ≤ 100) : q10 [x0, x1, x2, sl v, x4, x5, x6, fl (prim v), si (gcdL (prim v)), x9, x10, x11] = some (.nx [x0, x1, x2, sl v, x4, x5, x6, fl (prim v), si (gcdL (prim v)), x9, x10, x11]) := by
  have a := gAny_ints v
  have pr := primitive_eq (prim v) (prim_Lt hv) (by omega) (by omega) (by rw [prim_len]; omega)
  rw [prim_prim] at pr
  try simp at a
  try simp at pr
  by_cases h : v.any (fun i => i != 0) = true
  · have h1 := prim_gcd_one v (by simpa using h)
    try simp at h
    simp [q10, a, pr, h1, own_flat_ints]
  · have h2 : v.any (fun i => i != 0) = false := by simpa using h
    simp only [h2] at a
    simp [q10, a, pr, own_flat_ints]
theorem q11_eq (hv : Lt 44 v) (hw : Lt 44 w) (lv : v.length ≤ 100) : q11 [x0, x1, x2, sl v, sl w, x5, x6, x7, x8, x9, x10, x11] = some (.nx [x0, x1, x2, sl v, sl w, x5, x6, x7, x8, x9, si (dotL v w), x11]) := by
  have p := dot_eq v w hv hw (by omega) (by omega)
  try simp at p
  simp [q11, p, own_sh_int]
theorem q12_eq (hv : Lt 44 v) (hw : Lt 44 w) (lv : v.length ≤ 100) (e : v.length = w.length) : q12 [x0, x1, x2, sl v, sl w, x5, x6, x7, x8, x9, si (dotL v w), x11] = some (.nx [x0, x1, x2, sl v, sl w, x5, x6, x7, x8, x9, si (dotL v w), x11]) := by
  have p := ldot_eq v w hv hw (by omega) (by omega) e
  try simp at p
  simp [q12, p, own_sh_int]
theorem q13_eq (hv : Lt 44 v) (hw : Lt 44 w) (lv : v.length ≤ 100) (hf : f.natAbs < 2 ^ 40) (hd : ((d - 3)).natAbs < 2 ^ 40) : q13 [x0, si d, x2, sl v, sl w, si f, x6, x7, x8, x9, x10, x11] = some (.nx [x0, si d, x2, sl v, sl w, si f, x6, x7, x8, x9, x10, fl (combL f v (d - 3) w)]) := by
  have p := combined_eq f (d - 3) v w hf hd hv hw (by omega) (by omega)
  try simp at p
  simp [q13, p, own_flat_ints]
theorem comb_len {a b : Int} (e : v.length = w.length) : (combL a v b w).length = v.length := by simp [combL, e]
theorem q14_eq (hv : Lt 44 v) (hw : Lt 44 w) (lv : v.length = n) (hn : n < 7) (lw : w.length = n) (hf : f.natAbs < 2 ^ 40) (hd : ((d - 3)).natAbs < 2 ^ 40) :
    q14 [x0, si d, si n, sl v, sl w, si f, some (.sh (.str (PyData.list [IL v, IL w]).shown)), x7, x8, x9, x10, fl (combL f v (d - 3) w)] = some (.nx [x0, si d, si n, sl v, sl w, si f, some (.sh (.str (PyData.list [IL v, IL w]).shown)), x7, x8, x9, x10, fl (combL f v (d - 3) w)]) := by
  have p := lsum_eq f (d - 3) v w hf hd hv hw (by omega) (by omega) (by omega)
  have i := integers_eq (combL f v (d - 3) w) (by rw [comb_len (by omega)]; omega)
  rw [comb_len (by omega), lv] at i
  have r := repr_two hv hw (by omega) (by omega)
  try simp at p
  try simp at i
  try simp at r
  simp [q14, p, i, r, own_flat_ints, own_sh_bool]
theorem q15_eq (lp : p.length ≤ 100) : q15 [x0, x1, x2, x3, x4, x5, x6, fl p, x8, x9, x10, x11] = some (.nx [x0, x1, x2, x3, x4, x5, x6, fl (p ++ [1]), x8, x9, x10, x11]) := by
  have h : p.length ≤ 1000000 := by omega
  simp [q15, h]
theorem q16_eq (lp : p.length ≤ 100) : q16 [x0, x1, x2, x3, x4, x5, x6, x7, x8, x9, x10, fl p] = some (.nx [x0, x1, x2, x3, x4, x5, x6, x7, x8, x9, x10, fl (p ++ [1])]) := by
  have h : p.length ≤ 1000000 := by omega
  simp [q16, h]
theorem q17_eq (hv : Lt 44 v) (hw : Lt 44 w) (lv : v.length ≤ 100) (lw : w.length ≤ 100) :
    q17 [x0, x1, x2, sl v, sl w, x5, some (.sh (.str (PyData.list [IL v, IL w]).shown)), x7, x8, x9, x10, x11] = some (.nx [x0, x1, x2, sl v, sl w, x5, some (.sh (.str (PyData.list [IL v, IL w]).shown)), x7, x8, x9, x10, x11]) := by
  have r := repr_two hv hw lv lw
  try simp at r
  simp [q17, r]
end
theorem turn_eq {ns : List Int} {k : Nat} (hk : k ≤ 2 ^ 30) {x2 x3 x4 x5 x6 x7 x8 x9 x10 x11 : Option OV} (h9 : shB (some x9) = true) :
    ∃ y2 y3 y4 y5 y6 y7 y8 y9 y10 y11 : Option OV, shB (some y9) = true ∧ lawTurn [sl ns, si k, x2, x3, x4, x5, x6, x7, x8, x9, x10, x11] = some (.nx [sl ns, si k, y2, y3, y4, y5, y6, y7, y8, y9, y10, y11]) := by
  obtain ⟨n, hn, e0⟩ := q0_eq (ns := ns) (k := k) (x2 := x2) (x3 := x3) (x4 := x4) (x5 := x5) (x6 := x6) (x7 := x7) (x8 := x8) (x9 := x9) (x10 := x10) (x11 := x11)
  obtain ⟨v0, l0, b0, e1⟩ := q1_eq (ns := ns) (k := k) (n := n) (x3 := x3) (x4 := x4) (x5 := x5) (x6 := x6) (x7 := x7) (x8 := x8) (x9 := x9) (x10 := x10) (x11 := x11) hn
  obtain ⟨w, l1, b1, e2⟩ := q2_eq (ns := ns) (k := k) (n := n) (x3 := fl v0) (x4 := x4) (x5 := x5) (x6 := x6) (x7 := x7) (x8 := x8) (x9 := x9) (x10 := x10) (x11 := x11) hn
  obtain ⟨f, bf, e3⟩ := q3_eq (ns := ns) (k := k) (x2 := si n) (x3 := fl v0) (x4 := fl w) (x5 := x5) (x6 := x6) (x7 := x7) (x8 := x8) (x9 := x9) (x10 := x10) (x11 := x11)
  obtain ⟨v, l2, b2, e4⟩ := q4_eq (ns := ns) (k := k) (x2 := si n) (v := v0) (x4 := fl w) (f := f) (x6 := x6) (x7 := x7) (x8 := x8) (x9 := x9) (x10 := x10) (x11 := x11) b0 (by omega) bf h9
  have bw : Lt 44 w := fun i hi => by have := b1 i hi; omega
  have lv : v.length = n := by omega
  have e5 := q5_eq (ns := ns) (k := k) (x2 := si n) (x5 := si f) (x6 := x6) (x7 := x7) (x8 := x8) (x9 := x9) (x10 := x10) (x11 := x11) b2 bw (by omega) (by omega)
  have e6 := q6_eq (ns := ns) (k := k) (x2 := si n) (w := w) (x5 := si f) (x6 := some (.sh (.str (PyData.list [IL v, IL w]).shown))) (x7 := x7) (x8 := x8) (x9 := x9) (x10 := x10) (x11 := x11) b2 (by omega)
  have e7 := q7_eq (ns := ns) (k := k) (w := w) (x5 := si f) (x6 := some (.sh (.str (PyData.list [IL v, IL w]).shown))) (x8 := x8) (x9 := x9) (x10 := x10) (x11 := x11) b2 lv hn
  have e8 := q8_eq (ns := ns) (k := k) (x2 := si n) (x3 := sl v) (x4 := sl w) (x5 := si f) (x6 := some (.sh (.str (PyData.list [IL v, IL w]).shown))) (x7 := fl (prim v)) (x8 := x8) (x9 := x9) (x10 := x10) (x11 := x11)
  obtain ⟨o, ho, e9⟩ := q9_eq (x0 := sl ns) (x1 := si k) (x2 := si n) (x3 := sl v) (x4 := sl w) (x5 := si f) (x6 := some (.sh (.str (PyData.list [IL v, IL w]).shown))) (p := prim v) (x10 := x10) (x11 := x11) (prim_Lt b2) h9
  have e10 := q10_eq (x0 := sl ns) (x1 := si k) (x2 := si n) (x4 := sl w) (x5 := si f) (x6 := some (.sh (.str (PyData.list [IL v, IL w]).shown))) (x9 := o) (x10 := x10) (x11 := x11) b2 (by omega)
  have e11 := q11_eq (x0 := sl ns) (x1 := si k) (x2 := si n) (x5 := si f) (x6 := some (.sh (.str (PyData.list [IL v, IL w]).shown))) (x7 := fl (prim v)) (x8 := si (gcdL (prim v))) (x9 := o) (x10 := x10) (x11 := x11) b2 bw (by omega)
  have e12 := q12_eq (x0 := sl ns) (x1 := si k) (x2 := si n) (x5 := si f) (x6 := some (.sh (.str (PyData.list [IL v, IL w]).shown))) (x7 := fl (prim v)) (x8 := si (gcdL (prim v))) (x9 := o) (x11 := x11) b2 bw (by omega) (by omega)
  have e13 := q13_eq (x0 := sl ns) (d := k) (f := f) (x2 := si n) (x6 := some (.sh (.str (PyData.list [IL v, IL w]).shown))) (x7 := fl (prim v)) (x8 := si (gcdL (prim v))) (x9 := o) (x10 := si (dotL v w)) (x11 := x11) b2 bw (by omega) (by omega) (by omega)
  have e14 := q14_eq (x0 := sl ns) (d := k) (f := f) (x7 := fl (prim v)) (x8 := si (gcdL (prim v))) (x9 := o) (x10 := si (dotL v w)) b2 bw lv hn (by omega) (by omega) (by omega)
  have e15 := q15_eq (x0 := sl ns) (x1 := si k) (x2 := si n) (x3 := sl v) (x4 := sl w) (x5 := si f) (x6 := some (.sh (.str (PyData.list [IL v, IL w]).shown))) (p := prim v) (x8 := si (gcdL (prim v))) (x9 := o) (x10 := si (dotL v w)) (x11 := fl (combL f v ((k : Int) - 3) w)) (by rw [prim_len]; omega)
  have e16 := q16_eq (x0 := sl ns) (x1 := si k) (x2 := si n) (x3 := sl v) (x4 := sl w) (x5 := si f) (x6 := some (.sh (.str (PyData.list [IL v, IL w]).shown))) (x7 := fl (prim v ++ [1])) (x8 := si (gcdL (prim v))) (x9 := o) (x10 := si (dotL v w)) (p := combL f v ((k : Int) - 3) w) (by rw [comb_len (by omega)]; omega)
  have e17 := q17_eq (x0 := sl ns) (x1 := si k) (x2 := si n) (x5 := si f) (x7 := fl (prim v ++ [1])) (x8 := si (gcdL (prim v))) (x9 := o) (x10 := si (dotL v w)) (x11 := fl (combL f v ((k : Int) - 3) w ++ [1])) b2 bw (by omega) (by omega)
  exact ⟨_, _, _, _, _, _, _, _, _, _, ho, fSeq_nx e0 <| fSeq_nx e1 <| fSeq_nx e2 <| fSeq_nx e3 <| fSeq_nx e4 <| fSeq_nx e5 <| fSeq_nx e6 <| fSeq_nx e7 <| fSeq_nx e8 <| fSeq_nx e9 <| fSeq_nx e10 <| fSeq_nx e11 <| fSeq_nx e12 <| fSeq_nx e13 <| fSeq_nx e14 <| fSeq_nx e15 <| fSeq_nx e16 e17⟩
theorem law_loop {ns : List Int} : ∀ (l : List Nat) {x1 x2 x3 x4 x5 x6 x7 x8 x9 x10 x11 : Option OV}, (∀ k ∈ l, k ≤ 2 ^ 30) → shB (some x9) = true →
    ∃ S, loopF (fgName 1) lawTurn (l.map fun k => PyData.int ((k : Nat) : Int)) [sl ns, x1, x2, x3, x4, x5, x6, x7, x8, x9, x10, x11] = some (.nx S) := by
  intro l
  induction l with
  | nil => intros; exact ⟨_, rfl⟩
  | cons k l ih =>
    intro x1 x2 x3 x4 x5 x6 x7 x8 x9 x10 x11 hl h9
    obtain ⟨y2, y3, y4, y5, y6, y7, y8, y9, y10, y11, g9, e⟩ := turn_eq (ns := ns) (hl k (by simp)) (x2 := x2) (x3 := x3) (x4 := x4) (x5 := x5) (x6 := x6) (x7 := x7) (x8 := x8) (x10 := x10) (x11 := x11) h9
    obtain ⟨S, hS⟩ := ih (x1 := si k) (x2 := y2) (x3 := y3) (x4 := y4) (x5 := y5) (x6 := y6) (x7 := y7) (x8 := y8) (x10 := y10) (x11 := y11) (fun j hj => hl j (by simp [hj])) g9
    refine ⟨S, ?_⟩
    rw [List.map_cons]
    show (fgName 1 (PyData.int (k : Int)) _).bind _ = _
    have e1 : fgName 1 (PyData.int (k : Int)) [sl ns, x1, x2, x3, x4, x5, x6, x7, x8, x9, x10, x11] = some [sl ns, si k, x2, x3, x4, x5, x6, x7, x8, x9, x10, x11] := rfl
    rw [e1, bindSome, e, bindSome]
    exact hS
theorem ret_bool {b : Bool} {S : DS} : fRet (fC (.bool b)) S = some (.ret (.sh (.bool b))) := rfl
theorem law_eq (ns : List Int) (h : ns.length ≤ 1000000) : funOf 12 fb_law [IL ns] = some (.sh (.bool true)) := by
  have hr : rgOk 0 ((ns.length : Int) + 4) 4 = true := yes_of ⟨⟨⟨by decide, by decide⟩, by
    unfold Builtin.Range.small Builtin.Range.rangeSize
    simp [Builtin.Range.rangeFitsLong]
    omega⟩, by
    unfold Builtin.Range.rangeSize
    simp
    omega⟩
  have hd : range3D 0 ((ns.length : Int) + 4) 4 = ((List.range (Builtin.Range.rangeSize 0 ((ns.length : Int) + 4) 4).toNat).map fun k => 4 * k).map fun k => PyData.int ((k : Nat) : Int) := by
    unfold range3D
    rw [List.map_map]
    refine List.map_congr_left fun k _ => ?_
    simp
    omega
  have hsz : (Builtin.Range.rangeSize 0 ((ns.length : Int) + 4) 4).toNat ≤ ns.length + 4 := by
    unfold Builtin.Range.rangeSize
    simp
    omega
  obtain ⟨S, hS⟩ := law_loop (ns := ns) ((List.range (Builtin.Range.rangeSize 0 ((ns.length : Int) + 4) 4).toNat).map fun k => 4 * k) (x1 := none) (x2 := none) (x3 := none) (x4 := none) (x5 := none) (x6 := none) (x7 := none) (x8 := none) (x9 := none) (x10 := none) (x11 := none) (by
    intro k hk
    obtain ⟨j, hj, rfl⟩ := List.mem_map.mp hk
    have := List.mem_range.mp hj
    omega) rfl
  rw [← hd] at hS
  simp [funOf, fb_law, hr, hS, ret_bool]
end LF
set_option Elab.async false
set_option linter.all false
set_option maxRecDepth 100000
set_option maxHeartbeats 4000000
namespace Lw
open PySem PySem.Spec L2 Fx
section
variable {K : PySem.W.Frag} {h : Heap} {mg : Str → Option Value}
theorem mk_common_divisor {f : Addr} {od an : Option Addr} {sl : Array (Option Value)} {oc kV dc pm cd ct : Value} (X : K.In h) (G : h.Ns mainGlobals mg) (a : PySem.W.nsIn K mainGlobals "common_divisor" = some (some (.ref f)))
    (l : K.lookup f = some ⟨oc, od, .func (PySem.W.fnOf "common_divisor" "common_divisor" (defArgs s_common_divisor) (defBody s_common_divisor) (defScope s_common_divisor) .none kV dc pm an cd ct), sl⟩) (c : PySem.W.codeIn K cd "common_divisor" = true) (k : PySem.W.keepIn K (.ref f) = true) :
    ∃ f fd, L2.Fun K "common_divisor" "common_divisor" s_common_divisor f fd ∧ mg "common_divisor" = some (.ref f) ∧ Binds K fd ["vector"] [] :=
  have F := fun_mk (st := s_common_divisor) l c k
  ⟨_, _, F, PySem.W.mg_of X G a, F.binds (ps := ["vector"]) fun _ _ _ _ _ _ us hl => match us, hl with | [_], _ => rfl⟩
theorem mk_primitive {f : Addr} {od an : Option Addr} {sl : Array (Option Value)} {oc kV dc pm cd ct : Value} (X : K.In h) (G : h.Ns mainGlobals mg) (a : PySem.W.nsIn K mainGlobals "primitive" = some (some (.ref f)))
    (l : K.lookup f = some ⟨oc, od, .func (PySem.W.fnOf "primitive" "primitive" (defArgs s_primitive) (defBody s_primitive) (defScope s_primitive) .none kV dc pm an cd ct), sl⟩) (c : PySem.W.codeIn K cd "primitive" = true) (k : PySem.W.keepIn K (.ref f) = true) :
    ∃ f fd, L2.Fun K "primitive" "primitive" s_primitive f fd ∧ mg "primitive" = some (.ref f) ∧ Binds K fd ["vector"] [] :=
  have F := fun_mk (st := s_primitive) l c k
  ⟨_, _, F, PySem.W.mg_of X G a, F.binds (ps := ["vector"]) fun _ _ _ _ _ _ us hl => match us, hl with | [_], _ => rfl⟩
theorem mk_dot {f : Addr} {od an : Option Addr} {sl : Array (Option Value)} {oc kV dc pm cd ct : Value} (X : K.In h) (G : h.Ns mainGlobals mg) (a : PySem.W.nsIn K mainGlobals "dot" = some (some (.ref f)))
    (l : K.lookup f = some ⟨oc, od, .func (PySem.W.fnOf "dot" "dot" (defArgs s_dot) (defBody s_dot) (defScope s_dot) .none kV dc pm an cd ct), sl⟩) (c : PySem.W.codeIn K cd "dot" = true) (k : PySem.W.keepIn K (.ref f) = true) :
    ∃ f fd, L2.Fun K "dot" "dot" s_dot f fd ∧ mg "dot" = some (.ref f) ∧ Binds K fd ["first", "second"] [] :=
  have F := fun_mk (st := s_dot) l c k
  ⟨_, _, F, PySem.W.mg_of X G a, F.binds (ps := ["first", "second"]) fun _ _ _ _ _ _ us hl => match us, hl with | [_, _], _ => rfl⟩
theorem mk_combined {f : Addr} {od an : Option Addr} {sl : Array (Option Value)} {oc kV dc pm cd ct : Value} (X : K.In h) (G : h.Ns mainGlobals mg) (a : PySem.W.nsIn K mainGlobals "combined" = some (some (.ref f)))
    (l : K.lookup f = some ⟨oc, od, .func (PySem.W.fnOf "combined" "combined" (defArgs s_combined) (defBody s_combined) (defScope s_combined) .none kV dc pm an cd ct), sl⟩) (c : PySem.W.codeIn K cd "combined" = true) (k : PySem.W.keepIn K (.ref f) = true) :
    ∃ f fd, L2.Fun K "combined" "combined" s_combined f fd ∧ mg "combined" = some (.ref f) ∧ Binds K fd ["first", "vector", "second", "other"] [] :=
  have F := fun_mk (st := s_combined) l c k
  ⟨_, _, F, PySem.W.mg_of X G a, F.binds (ps := ["first", "vector", "second", "other"]) fun _ _ _ _ _ _ us hl => match us, hl with | [_, _, _, _], _ => rfl⟩
theorem mk_law_cell {f : Addr} {od an : Option Addr} {sl : Array (Option Value)} {oc kV dc pm cd ct : Value} (X : K.In h) (G : h.Ns mainGlobals mg) (a : PySem.W.nsIn K mainGlobals "_law_cell" = some (some (.ref f)))
    (l : K.lookup f = some ⟨oc, od, .func (PySem.W.fnOf "_law_cell" "_law_cell" (defArgs s_law_cell) (defBody s_law_cell) (defScope s_law_cell) .none kV dc pm an cd ct), sl⟩) (c : PySem.W.codeIn K cd "_law_cell" = true) (k : PySem.W.keepIn K (.ref f) = true) :
    ∃ f fd, L2.Fun K "_law_cell" "_law_cell" s_law_cell f fd ∧ mg "_law_cell" = some (.ref f) ∧ Binds K fd ["_law_script", "_law_k"] [] :=
  have F := fun_mk (st := s_law_cell) l c k
  ⟨_, _, F, PySem.W.mg_of X G a, F.binds (ps := ["_law_script", "_law_k"]) fun _ _ _ _ _ _ us hl => match us, hl with | [_, _], _ => rfl⟩
theorem mk_law_draws {f : Addr} {od an : Option Addr} {sl : Array (Option Value)} {oc kV dc pm cd ct : Value} (X : K.In h) (G : h.Ns mainGlobals mg) (a : PySem.W.nsIn K mainGlobals "_law_draws" = some (some (.ref f)))
    (l : K.lookup f = some ⟨oc, od, .func (PySem.W.fnOf "_law_draws" "_law_draws" (defArgs s_law_draws) (defBody s_law_draws) (defScope s_law_draws) .none kV dc pm an cd ct), sl⟩) (c : PySem.W.codeIn K cd "_law_draws" = true) (k : PySem.W.keepIn K (.ref f) = true) :
    ∃ f fd, L2.Fun K "_law_draws" "_law_draws" s_law_draws f fd ∧ mg "_law_draws" = some (.ref f) ∧ Binds K fd ["_law_cell_here", "_law_limits"] [] :=
  have F := fun_mk (st := s_law_draws) l c k
  ⟨_, _, F, PySem.W.mg_of X G a, F.binds (ps := ["_law_cell_here", "_law_limits"]) fun _ _ _ _ _ _ us hl => match us, hl with | [_, _], _ => rfl⟩
theorem mk_law_gcd {f : Addr} {od an : Option Addr} {sl : Array (Option Value)} {oc kV dc pm cd ct : Value} (X : K.In h) (G : h.Ns mainGlobals mg) (a : PySem.W.nsIn K mainGlobals "_law_gcd" = some (some (.ref f)))
    (l : K.lookup f = some ⟨oc, od, .func (PySem.W.fnOf "_law_gcd" "_law_gcd" (defArgs s_law_gcd) (defBody s_law_gcd) (defScope s_law_gcd) .none kV dc pm an cd ct), sl⟩) (c : PySem.W.codeIn K cd "_law_gcd" = true) (k : PySem.W.keepIn K (.ref f) = true) :
    ∃ f fd, L2.Fun K "_law_gcd" "_law_gcd" s_law_gcd f fd ∧ mg "_law_gcd" = some (.ref f) ∧ Binds K fd ["_law_a", "_law_b"] [] :=
  have F := fun_mk (st := s_law_gcd) l c k
  ⟨_, _, F, PySem.W.mg_of X G a, F.binds (ps := ["_law_a", "_law_b"]) fun _ _ _ _ _ _ us hl => match us, hl with | [_, _], _ => rfl⟩
theorem mk_law_primitive {f : Addr} {od an : Option Addr} {sl : Array (Option Value)} {oc kV dc pm cd ct : Value} (X : K.In h) (G : h.Ns mainGlobals mg) (a : PySem.W.nsIn K mainGlobals "_law_primitive" = some (some (.ref f)))
    (l : K.lookup f = some ⟨oc, od, .func (PySem.W.fnOf "_law_primitive" "_law_primitive" (defArgs s_law_primitive) (defBody s_law_primitive) (defScope s_law_primitive) .none kV dc pm an cd ct), sl⟩) (c : PySem.W.codeIn K cd "_law_primitive" = true) (k : PySem.W.keepIn K (.ref f) = true) :
    ∃ f fd, L2.Fun K "_law_primitive" "_law_primitive" s_law_primitive f fd ∧ mg "_law_primitive" = some (.ref f) ∧ Binds K fd ["_law_vector_here"] [] :=
  have F := fun_mk (st := s_law_primitive) l c k
  ⟨_, _, F, PySem.W.mg_of X G a, F.binds (ps := ["_law_vector_here"]) fun _ _ _ _ _ _ us hl => match us, hl with | [_], _ => rfl⟩
theorem mk_law_dot {f : Addr} {od an : Option Addr} {sl : Array (Option Value)} {oc kV dc pm cd ct : Value} (X : K.In h) (G : h.Ns mainGlobals mg) (a : PySem.W.nsIn K mainGlobals "_law_dot" = some (some (.ref f)))
    (l : K.lookup f = some ⟨oc, od, .func (PySem.W.fnOf "_law_dot" "_law_dot" (defArgs s_law_dot) (defBody s_law_dot) (defScope s_law_dot) .none kV dc pm an cd ct), sl⟩) (c : PySem.W.codeIn K cd "_law_dot" = true) (k : PySem.W.keepIn K (.ref f) = true) :
    ∃ f fd, L2.Fun K "_law_dot" "_law_dot" s_law_dot f fd ∧ mg "_law_dot" = some (.ref f) ∧ Binds K fd ["_law_first", "_law_second"] [] :=
  have F := fun_mk (st := s_law_dot) l c k
  ⟨_, _, F, PySem.W.mg_of X G a, F.binds (ps := ["_law_first", "_law_second"]) fun _ _ _ _ _ _ us hl => match us, hl with | [_, _], _ => rfl⟩
theorem mk_law_sum {f : Addr} {od an : Option Addr} {sl : Array (Option Value)} {oc kV dc pm cd ct : Value} (X : K.In h) (G : h.Ns mainGlobals mg) (a : PySem.W.nsIn K mainGlobals "_law_sum" = some (some (.ref f)))
    (l : K.lookup f = some ⟨oc, od, .func (PySem.W.fnOf "_law_sum" "_law_sum" (defArgs s_law_sum) (defBody s_law_sum) (defScope s_law_sum) .none kV dc pm an cd ct), sl⟩) (c : PySem.W.codeIn K cd "_law_sum" = true) (k : PySem.W.keepIn K (.ref f) = true) :
    ∃ f fd, L2.Fun K "_law_sum" "_law_sum" s_law_sum f fd ∧ mg "_law_sum" = some (.ref f) ∧ Binds K fd ["_law_first", "_law_vector_here", "_law_second", "_law_other"] [] :=
  have F := fun_mk (st := s_law_sum) l c k
  ⟨_, _, F, PySem.W.mg_of X G a, F.binds (ps := ["_law_first", "_law_vector_here", "_law_second", "_law_other"]) fun _ _ _ _ _ _ us hl => match us, hl with | [_, _, _, _], _ => rfl⟩
theorem mk_law_pivot {f : Addr} {od an : Option Addr} {sl : Array (Option Value)} {oc kV dc pm cd ct : Value} (X : K.In h) (G : h.Ns mainGlobals mg) (a : PySem.W.nsIn K mainGlobals "_law_pivot" = some (some (.ref f)))
    (l : K.lookup f = some ⟨oc, od, .func (PySem.W.fnOf "_law_pivot" "_law_pivot" (defArgs s_law_pivot) (defBody s_law_pivot) (defScope s_law_pivot) .none kV dc pm an cd ct), sl⟩) (c : PySem.W.codeIn K cd "_law_pivot" = true) (k : PySem.W.keepIn K (.ref f) = true) :
    ∃ f fd, L2.Fun K "_law_pivot" "_law_pivot" s_law_pivot f fd ∧ mg "_law_pivot" = some (.ref f) ∧ Binds K fd ["_law_vector_here"] [] :=
  have F := fun_mk (st := s_law_pivot) l c k
  ⟨_, _, F, PySem.W.mg_of X G a, F.binds (ps := ["_law_vector_here"]) fun _ _ _ _ _ _ us hl => match us, hl with | [_], _ => rfl⟩
theorem mk_law_vector {f : Addr} {od an : Option Addr} {sl : Array (Option Value)} {oc kV dc pm cd ct : Value} (X : K.In h) (G : h.Ns mainGlobals mg) (a : PySem.W.nsIn K mainGlobals "_law_vector" = some (some (.ref f)))
    (l : K.lookup f = some ⟨oc, od, .func (PySem.W.fnOf "_law_vector" "_law_vector" (defArgs s_law_vector) (defBody s_law_vector) (defScope s_law_vector) .none kV dc pm an cd ct), sl⟩) (c : PySem.W.codeIn K cd "_law_vector" = true) (k : PySem.W.keepIn K (.ref f) = true) :
    ∃ f fd, L2.Fun K "_law_vector" "_law_vector" s_law_vector f fd ∧ mg "_law_vector" = some (.ref f) ∧ Binds K fd ["_law_cell_here", "_law_size"] [] :=
  have F := fun_mk (st := s_law_vector) l c k
  ⟨_, _, F, PySem.W.mg_of X G a, F.binds (ps := ["_law_cell_here", "_law_size"]) fun _ _ _ _ _ _ us hl => match us, hl with | [_, _], _ => rfl⟩
theorem mk_law_integers {f : Addr} {od an : Option Addr} {sl : Array (Option Value)} {oc kV dc pm cd ct : Value} (X : K.In h) (G : h.Ns mainGlobals mg) (a : PySem.W.nsIn K mainGlobals "_law_integers" = some (some (.ref f)))
    (l : K.lookup f = some ⟨oc, od, .func (PySem.W.fnOf "_law_integers" "_law_integers" (defArgs s_law_integers) (defBody s_law_integers) (defScope s_law_integers) .none kV dc pm an cd ct), sl⟩) (c : PySem.W.codeIn K cd "_law_integers" = true) (k : PySem.W.keepIn K (.ref f) = true) :
    ∃ f fd, L2.Fun K "_law_integers" "_law_integers" s_law_integers f fd ∧ mg "_law_integers" = some (.ref f) ∧ Binds K fd ["_law_vector_here", "_law_size"] [] :=
  have F := fun_mk (st := s_law_integers) l c k
  ⟨_, _, F, PySem.W.mg_of X G a, F.binds (ps := ["_law_vector_here", "_law_size"]) fun _ _ _ _ _ _ us hl => match us, hl with | [_, _], _ => rfl⟩
theorem mk_law {f : Addr} {od an : Option Addr} {sl : Array (Option Value)} {oc kV dc pm cd ct : Value} (X : K.In h) (G : h.Ns mainGlobals mg) (a : PySem.W.nsIn K mainGlobals "law" = some (some (.ref f)))
    (l : K.lookup f = some ⟨oc, od, .func (PySem.W.fnOf "law" "law" (defArgs s_law) (defBody s_law) (defScope s_law) .none kV dc pm an cd ct), sl⟩) (c : PySem.W.codeIn K cd "law" = true) (k : PySem.W.keepIn K (.ref f) = true) :
    ∃ f fd, L2.Fun K "law" "law" s_law f fd ∧ mg "law" = some (.ref f) ∧ Binds K fd ["_law_script"] [] :=
  have F := fun_mk (st := s_law) l c k
  ⟨_, _, F, PySem.W.mg_of X G a, F.binds (ps := ["_law_script"]) fun _ _ _ _ _ _ us hl => match us, hl with | [_], _ => rfl⟩
theorem law_F {l : PySem.W.OpenLaw} {w : World} {fa : Addr} (hfa : mg "law" = some (.ref fa)) (T : Tx K mg) :
    ∃ (x : Str) (fd : FuncData), L2.Fun K x x s_law fa fd ∧ (∀ (s : Shared) (u : Value), BindsTo s fd ⟨[u], []⟩ [("_law_script", u)]) ∧
      ∀ base : Heap, K.In base → base.Ns mainGlobals mg → ∀ (cdv : Value) (A : Around) (outer : List Env) (s : Shared) (H : Hp) (E : XK), Room 2 (A.deeper (PyProof.Rows.envOfC x (defScope s_law) s.heap.objs.size fa cdv)) →
        (A.deeper (PyProof.Rows.envOfC x (defScope s_law) s.heap.objs.size fa cdv)).guards = some [] → ∃ t T, JB K (cxOf CX0 l.prog w K mg base nm_law x (defScope s_law) fa cdv A outer s H E).nox T (defBody s_law) t fb_law := by
  obtain ⟨f, fd, F, hm, _⟩ := T.F_law
  have e := hfa.symm.trans hm
  cases e
  refine ⟨"law", fd, F, fun s u => ?_, fun base _ _ cdv A outer s H E hr hA => d_law T fa cdv A outer s H E hr hA⟩
  obtain ⟨oc, od, kV, doc, pm, an, cdv, ct, osl, rfl, lk, hcd⟩ := F.ex
  exact .of_eq rfl
end
end Lw
open PySem PySem.W PyProof.Rows
set_option maxHeartbeats 0 in
theorem PySem.Challenge.cw_floodmark_k01_vectors_combined_holds : PySem.Challenge.rw_floodmark_k01_vectors_combined.Holds := by
  w_on; o_law; k_head; (case hw => w_witness2)
  k_fill
  refine Fx.walk_G (l := PySem.Challenge.rw_floodmark_k01_vectors_combined) (n := 63) (k := 2) (N := Lw.nm_law) (v := "_law_script") (st := Lw.s_law) (fb := Lw.fb_law) rfl (by decide) rfl ⟨rfl, by decide, by decide⟩ (fun w h Y => PySem.W.kIn_of Y) ?F Lw.sc_law ?yes
  case yes =>
    intro ns hl
    exact LF.law_eq ns (by omega)
  case F =>
    intro w mg fa h KX G hmg
    refine Lw.law_F hmg ?_
    have m_abs : mg "abs" = none := PySem.W.mg_none_of KX G (by k_is)
    have m_all : mg "all" = none := PySem.W.mg_none_of KX G (by k_is)
    have m_any : mg "any" = none := PySem.W.mg_none_of KX G (by k_is)
    have m_bool : mg "bool" = none := PySem.W.mg_none_of KX G (by k_is)
    have m_int : mg "int" = none := PySem.W.mg_none_of KX G (by k_is)
    have m_isinstance : mg "isinstance" = none := PySem.W.mg_none_of KX G (by k_is)
    have m_len : mg "len" = none := PySem.W.mg_none_of KX G (by k_is)
    have m_list : mg "list" = none := PySem.W.mg_none_of KX G (by k_is)
    have m_range : mg "range" = none := PySem.W.mg_none_of KX G (by k_is)
    have m_repr : mg "repr" = none := PySem.W.mg_none_of KX G (by k_is)
    have m_sum : mg "sum" = none := PySem.W.mg_none_of KX G (by k_is)
    have m_zip : mg "zip" = none := PySem.W.mg_none_of KX G (by k_is)
    have m_gcd : mg "gcd" = some (.builtin "math.gcd") := PySem.W.mg_of KX G (by k_is)
    refine { m_abs := m_abs, m_all := m_all, m_any := m_any, m_bool := m_bool, m_int := m_int, m_isinstance := m_isinstance, m_len := m_len, m_list := m_list, m_range := m_range, m_repr := m_repr, m_sum := m_sum, m_zip := m_zip, m_gcd := m_gcd, F_common_divisor := ?F_common_divisor, F_primitive := ?F_primitive, F_dot := ?F_dot, F_combined := ?F_combined, F_law_cell := ?F_law_cell, F_law_draws := ?F_law_draws, F_law_gcd := ?F_law_gcd, F_law_primitive := ?F_law_primitive, F_law_dot := ?F_law_dot, F_law_sum := ?F_law_sum, F_law_pivot := ?F_law_pivot, F_law_vector := ?F_law_vector, F_law_integers := ?F_law_integers, F_law := ?F_law }
    case F_common_divisor =>
      refine' Lw.mk_common_divisor KX G ?a ?l ?c ?k
      (case a => k_is); (case l => k_is); (case c => k_is); (case k => k_is)
    case F_primitive =>
      refine' Lw.mk_primitive KX G ?a ?l ?c ?k
      (case a => k_is); (case l => k_is); (case c => k_is); (case k => k_is)
    case F_dot =>
      refine' Lw.mk_dot KX G ?a ?l ?c ?k
      (case a => k_is); (case l => k_is); (case c => k_is); (case k => k_is)
    case F_combined =>
      refine' Lw.mk_combined KX G ?a ?l ?c ?k
      (case a => k_is); (case l => k_is); (case c => k_is); (case k => k_is)
    case F_law_cell =>
      refine' Lw.mk_law_cell KX G ?a ?l ?c ?k
      (case a => k_is); (case l => k_is); (case c => k_is); (case k => k_is)
    case F_law_draws =>
      refine' Lw.mk_law_draws KX G ?a ?l ?c ?k
      (case a => k_is); (case l => k_is); (case c => k_is); (case k => k_is)
    case F_law_gcd =>
      refine' Lw.mk_law_gcd KX G ?a ?l ?c ?k
      (case a => k_is); (case l => k_is); (case c => k_is); (case k => k_is)
    case F_law_primitive =>
      refine' Lw.mk_law_primitive KX G ?a ?l ?c ?k
      (case a => k_is); (case l => k_is); (case c => k_is); (case k => k_is)
    case F_law_dot =>
      refine' Lw.mk_law_dot KX G ?a ?l ?c ?k
      (case a => k_is); (case l => k_is); (case c => k_is); (case k => k_is)
    case F_law_sum =>
      refine' Lw.mk_law_sum KX G ?a ?l ?c ?k
      (case a => k_is); (case l => k_is); (case c => k_is); (case k => k_is)
    case F_law_pivot =>
      refine' Lw.mk_law_pivot KX G ?a ?l ?c ?k
      (case a => k_is); (case l => k_is); (case c => k_is); (case k => k_is)
    case F_law_vector =>
      refine' Lw.mk_law_vector KX G ?a ?l ?c ?k
      (case a => k_is); (case l => k_is); (case c => k_is); (case k => k_is)
    case F_law_integers =>
      refine' Lw.mk_law_integers KX G ?a ?l ?c ?k
      (case a => k_is); (case l => k_is); (case c => k_is); (case k => k_is)
    case F_law =>
      refine' Lw.mk_law KX G ?a ?l ?c ?k
      (case a => k_is); (case l => k_is); (case c => k_is); (case k => k_is)
