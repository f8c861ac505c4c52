import PyProof.Rows.All
import HandS.ForMost
import HandS.Deep
import HandS.Lambda
import HandS.IsInst
import HandS.Walk
import HandS.Flow
import HandS.WideBits
import HandS.TupAny
import HandS.Gcd
import HandS.ForExc
import HandS.ExcIs
import HandS.TryOnly
import HandS.Ends
import HandS.EndBits
import HandS.Sort
import HandS.Keys
import KE.KSortKey
import KE.KNestM
import KE.SortCalls
import HandS.Rev
import HandS.Defaults
import HandS.CallSlots
import KE.GoesRaise
import PySem.Challenge.RW_floodmark_k55_books_refused
set_option Elab.async false
set_option linter.all false
set_option maxRecDepth 100000
namespace Fx
open PySem PySem.Spec L2
abbrev D := PyData
structure Ob where
 slot : Nat
 cls : Addr
 names : List Str
structure Kc where
 fr : PySem.W.Frag
 tb : List (Addr × Str)
 ob : Option Ob
 n : Nat
 ex : Option (Nat × Addr) := none
abbrev Fr := Kc
abbrev Dp (K : Kc) := L2.Dp K.fr
abbrev DpAll (K : Kc) := L2.DpAll K.fr
abbrev SqL (K : Kc) := L2.SqL K.fr
abbrev SqT (K : Kc) := L2.SqT K.fr
abbrev TruV (K : Kc) := L2.TruV K.fr
abbrev gTup (K : Kc) := L2.gTup K.fr
abbrev Itl (K : Kc) := L2.Itl K.fr
abbrev Itt (K : Kc) := L2.Itt K.fr
abbrev iList (K : Kc) := L2.iList K.fr
abbrev iTup (K : Kc) := L2.iTup K.fr
abbrev rIxL (K : Kc) := L2.rIxL K.fr
abbrev rIxT (K : Kc) := L2.rIxT K.fr
abbrev rEqD (K : Kc) := L2.rEqD K.fr
abbrev rNeD (K : Kc) := L2.rNeD K.fr
abbrev rSlL (K : Kc) := L2.rSlL K.fr
abbrev rIsi (K : Kc) := L2.rIsi K.fr
abbrev tBM (K : Kc) := L2.tBM K.fr
abbrev TyX (K : Kc) := L2.TyX K.fr
def NB (x : HO) : Prop := ∀ ps, x ≠ .tbl ps
def NT (x : HO) : Prop := (∀ ps, x ≠ .tbl ps) ∧ ∀ φ, x ≠ .ext φ
theorem nt_lst {xs : List V} : NT (.lst xs) := ⟨fun _ h => (nomatch h), fun _ h => (nomatch h)⟩
theorem nt_tup {xs : List V} : NT (.tup xs) := ⟨fun _ h => (nomatch h), fun _ h => (nomatch h)⟩
theorem nt_ins {C dx : Addr} {fs : List (Str × V)} : NT (.ins C dx fs) := ⟨fun _ h => (nomatch h), fun _ h => (nomatch h)⟩
theorem nt_own {a : Addr} : NT (.own a) := ⟨fun _ h => (nomatch h), fun _ h => (nomatch h)⟩
def SameN (H H' : Hp) : Prop := ∀ b x, H b = some x → NT x → H' b = some x
theorem SameN.refl (H : Hp) : SameN H H := fun _ _ e _ => e
theorem SameN.trans {H H1 H2 : Hp} (a : SameN H H1) (b : SameN H1 H2) : SameN H H2 := fun c x e n => b c x (a c x e n) n
theorem SameN.of {H H' : Hp} (a : Same H H') : SameN H H' := fun b x e _ => a b x e
def TabX (tb : List (Addr × Str)) (H : Hp) : Prop := LamX.Tabs tb H ∧ ∀ b ps, H b = some (.tbl ps) → b ∈ tb.map Prod.fst
theorem TabX.ext {tb : List (Addr × Str)} {H H' : Hp} (t : TabX tb H) (s : Same H H') (n : ∀ b x, H' b = some x → H b = some x ∨ NT x) : TabX tb H' :=
 ⟨t.1.ext s, fun b ps e => (n b _ e).elim (t.2 b ps) fun z => absurd rfl (z.1 ps)⟩
theorem nt_upd {H : Hp} {p : Addr} {o : HO} (h : NT o) : ∀ b x, upd H p o b = some x → H b = some x ∨ NT x := fun b x e => by
 by_cases z : b = p
 ·subst z; rw [upd_same] at e; cases e; exact .inr h
 ·rw [upd_ne z] at e; exact .inl e
noncomputable def yes (p : Prop) : Bool := @decide p (Classical.propDecidable p)
theorem of_yes {p : Prop} (h : yes p = true) : p := @of_decide_eq_true p (Classical.propDecidable p) h
theorem yes_of {p : Prop} (h : p) : yes p = true := @decide_eq_true p (Classical.propDecidable p) h
mutual
theorem dpMono {K : Fr} {G H : Hp} (e : Same G H) : ∀ (d : D) (v : V), Dp K G v d → Dp K H v d
 | .none, _, h => by cases h; exact .non
 | .bool b, _, h => by cases h; exact .bl b
 | .int i, _, h => by cases h; exact .int i
 | .str x, _, h => by cases h; exact .str x
 | .list ds, _, h => by
  cases h with
  | lst hs ha => exact .lst (e.seq hs) (dpsMono e ds _ ha)
 | .tuple ds, _, h => by
  cases h with
  | tup hs ha =>
   refine .tup ?_ (dpsMono e ds _ ha)
   rcases hs with (h | ⟨o, h⟩) | h
   ·exact .inl (.inl (e _ _ h))
   ·exact .inl (.inr ⟨o, e _ _ h⟩)
   ·exact .inr h
 | .dict _, _, h => by cases h
theorem dpsMono {K : Fr} {G H : Hp} (e : Same G H) : ∀ (ds : List D) (vs : List V), DpAll K G vs ds → DpAll K H vs ds
 | [], _, h => by cases h; exact .nil
 | d :: ds, _, h => by
  cases h with
  | cons h1 h2 => exact .cons (dpMono e d _ h1) (dpsMono e ds _ h2)
end
theorem dpsLen {K : Fr} {G : Hp} : ∀ {vs : List V} {ds : List D}, DpAll K G vs ds → vs.length = ds.length
 | _, _, .nil => rfl
 | _, _, .cons _ h => by simp [dpsLen h]
theorem dpsApp {K : Fr} {G : Hp} : ∀ {vs ws : List V} {ds es : List D}, DpAll K G vs ds → DpAll K G ws es → DpAll K G (vs ++ ws) (ds ++ es)
 | _, _, _, _, .nil, h => h
 | _, _, _, _, .cons a t, h => .cons a (dpsApp t h)
theorem dpsGet {K : Fr} {G : Hp} : ∀ {vs : List V} {ds : List D} {i : Nat} {d : D}, DpAll K G vs ds → ds[i]? = some d → ∃ v, vs[i]? = some v ∧ Dp K G v d
 | _, _, _, _, .nil, e => by simp at e
 | _, _, 0, _, .cons a _, e => by simp at e; subst e; exact ⟨_, by simp, a⟩
 | _, _, i + 1, _, .cons _ t, e => by
  obtain ⟨v, h1, h2⟩ := dpsGet (i := i) t (by simpa using e)
  exact ⟨v, by simpa using h1, h2⟩
theorem dpsGetV {K : Fr} {G : Hp} : ∀ {vs : List V} {ds : List D} {i : Nat} {v : V}, DpAll K G vs ds → vs[i]? = some v → ∃ d, ds[i]? = some d ∧ Dp K G v d
 | _, _, _, _, .nil, e => by simp at e
 | _, _, 0, _, .cons a _, e => by simp at e; subst e; exact ⟨_, by simp, a⟩
 | _, _, i + 1, _, .cons _ t, e => by
  obtain ⟨v, h1, h2⟩ := dpsGetV (i := i) t (by simpa using e)
  exact ⟨v, by simpa using h1, h2⟩
theorem dpsSet {K : Fr} {G : Hp} {v : V} {d : D} (h : Dp K G v d) : ∀ {vs : List V} {ds : List D} (i : Nat), DpAll K G vs ds → DpAll K G (vs.set i v) (ds.set i d)
 | _, _, _, .nil => .nil
 | _, _, 0, .cons _ t => .cons h t
 | _, _, i + 1, .cons a t => .cons a (dpsSet h i t)
theorem dpsTake {K : Fr} {G : Hp} : ∀ {vs : List V} {ds : List D} (n : Nat), DpAll K G vs ds → DpAll K G (vs.take n) (ds.take n)
 | _, _, 0, _ => by simpa using DpAll.nil
 | _, _, _ + 1, .nil => by simpa using DpAll.nil
 | _, _, n + 1, .cons a t => by simpa using DpAll.cons a (dpsTake n t)
theorem dpsDrop {K : Fr} {G : Hp} : ∀ {vs : List V} {ds : List D} (n : Nat), DpAll K G vs ds → DpAll K G (vs.drop n) (ds.drop n)
 | _, _, 0, h => by simpa using h
 | _, _, _ + 1, .nil => by simpa using DpAll.nil
 | _, _, n + 1, .cons _ t => by simpa using dpsDrop n t
inductive Sc : V → D → Prop
 | non : Sc .non .none
 | bl (b : Bool) : Sc (.bl b) (.bool b)
 | int (i : Int) : Sc (.int i) (.int i)
 | str (x : Str) : Sc (.str x) (.str x)
theorem Sc.dp {K : Fr} {G : Hp} {v : V} {d : D} (h : Sc v d) : Dp K G v d := by
 cases h
 ·exact .non
 ·exact .bl _
 ·exact .int _
 ·exact .str _
def isSc : D → Bool
 | .none | .bool _ | .int _ | .str _ => true
 | _ => false
theorem scOf {K : Fr} {G : Hp} {v : V} {d : D} (h : Dp K G v d) (s : isSc d = true) : Sc v d := by
 cases h
 ·exact .non
 ·exact .bl _
 ·exact .int _
 ·exact .str _
 ·cases s
 ·cases s
mutual
inductive Tr (H : Hp) : V → D → List Addr → Prop
 | sc {v : V} {d : D} : Sc v d → Tr H v d []
 | lst {a : Addr} {xs : List V} {ds : List D} {fp : List Addr} : H a = some (.lst xs) → TrAll H xs ds fp → Tr H (.ref a) (.list ds) (a :: fp)
 | tup {a : Addr} {xs : List V} {ds : List D} {fp : List Addr} : H a = some (.tup xs) → TrAll H xs ds fp → Tr H (.ref a) (.tuple ds) (a :: fp)
inductive TrAll (H : Hp) : List V → List D → List Addr → Prop
 | nil : TrAll H [] [] []
 | cons {v : V} {vs : List V} {d : D} {ds : List D} {fp fq : List Addr} : Tr H v d fp → TrAll H vs ds fq → TrAll H (v :: vs) (d :: ds) (fp ++ fq)
end
mutual
theorem trMono {H H' : Hp} : ∀ (d : D) (v : V) (fp : List Addr), Tr H v d fp → (∀ b ∈ fp, ∀ x, H b = some x → H' b = some x) → Tr H' v d fp
 | .none, _, _, h, _ => by cases h; exact .sc (by assumption)
 | .bool b, _, _, h, _ => by cases h; exact .sc (by assumption)
 | .int i, _, _, h, _ => by cases h; exact .sc (by assumption)
 | .str x, _, _, h, _ => by cases h; exact .sc (by assumption)
 | .list ds, _, _, h, k => by
  cases h with
  | sc h => cases h
  | lst h1 h2 => exact .lst (k _ (by simp) _ h1) (trsMono ds _ _ h2 fun b hb => k b (by simp [hb]))
 | .tuple ds, _, _, h, k => by
  cases h with
  | sc h => cases h
  | tup h1 h2 => exact .tup (k _ (by simp) _ h1) (trsMono ds _ _ h2 fun b hb => k b (by simp [hb]))
 | .dict _, _, _, h, _ => by cases h with
  | sc h => cases h
theorem trsMono {H H' : Hp} : ∀ (ds : List D) (vs : List V) (fp : List Addr), TrAll H vs ds fp → (∀ b ∈ fp, ∀ x, H b = some x → H' b = some x) → TrAll H' vs ds fp
 | [], _, _, h, _ => by cases h; exact .nil
 | d :: ds, _, _, h, k => by
  cases h with
  | cons h1 h2 => exact .cons (trMono d _ _ h1 fun b hb => k b (by simp [hb])) (trsMono ds _ _ h2 fun b hb => k b (by simp [hb]))
end
mutual
theorem trDp {K : Fr} {H : Hp} : ∀ (d : D) (v : V) (fp : List Addr), Tr H v d fp → Dp K H v d
 | .none, _, _, h => by cases h with | sc h => exact h.dp
 | .bool b, _, _, h => by cases h with | sc h => exact h.dp
 | .int i, _, _, h => by cases h with | sc h => exact h.dp
 | .str x, _, _, h => by cases h with | sc h => exact h.dp
 | .list ds, _, _, h => by
  cases h with
  | sc h => cases h
  | lst h1 h2 => exact .lst (SqL.of h1) (trsDp ds _ _ h2)
 | .tuple ds, _, _, h => by
  cases h with
  | sc h => cases h
  | tup h1 h2 => exact .tup (SqT.of h1) (trsDp ds _ _ h2)
 | .dict _, _, _, h => by cases h with
  | sc h => cases h
theorem trsDp {K : Fr} {H : Hp} : ∀ (ds : List D) (vs : List V) (fp : List Addr), TrAll H vs ds fp → DpAll K H vs ds
 | [], _, _, h => by cases h; exact .nil
 | d :: ds, _, _, h => by
  cases h with
  | cons h1 h2 => exact .cons (trDp d _ _ h1) (trsDp ds _ _ h2)
end
theorem trsApp {H : Hp} : ∀ {vs ws : List V} {ds es : List D} {fp fq : List Addr}, TrAll H vs ds fp → TrAll H ws es fq → TrAll H (vs ++ ws) (ds ++ es) (fp ++ fq)
 | _, _, _, _, _, _, .nil, h => h
 | _, _, _, _, _, _, .cons a t, h => by rw [List.append_assoc]; exact .cons a (trsApp t h)
theorem trsSc {H : Hp} {K : Fr} {G : Hp} : ∀ {vs : List V} {ds : List D}, DpAll K G vs ds → ds.all isSc = true → TrAll H vs ds []
 | _, _, .nil, _ => .nil
 | _, _, .cons a t, e => by
  rw [List.all_cons, Bool.and_eq_true] at e
  exact .cons (fp := []) (.sc (scOf a e.1)) (trsSc t e.2)
inductive OV where
 | sh (d : D)
 | flat (l : List D)
 | tree (d : D)
def OV.view : OV → D
 | .sh d => d
 | .flat l => .list l
 | .tree d => d
def OV.own? : OV → Option D
 | .sh d => if isSc d then some d else none
 | .flat l => if l.all isSc then some (.list l) else none
 | .tree d => some d
def Rep (K : Fr) (G H : Hp) (v : V) (o : OV) (fp : List Addr) : Prop :=
 match o with
 | .sh d => Dp K G v d ∧ fp = []
 | .flat l => ∃ a xs, v = .ref a ∧ H a = some (.lst xs) ∧ DpAll K G xs l ∧ fp = [a]
 | .tree d => Tr H v d fp
theorem Rep.view {K : Fr} {G H : Hp} {v : V} {o : OV} {fp : List Addr} (r : Rep K G H v o fp) (s : Same G H) : Dp K H v o.view := by
 cases o with
 | sh d => exact dpMono s d v r.1
 | flat l =>
  obtain ⟨a, xs, rfl, h1, h2, _⟩ := r
  exact .lst (SqL.of h1) (dpsMono s l xs h2)
 | tree d => exact trDp d v fp r
theorem Rep.mono {K : Fr} {G G' H H' : Hp} {v : V} {o : OV} {fp : List Addr} (r : Rep K G H v o fp) (s : Same G G') (k : ∀ b ∈ fp, ∀ x, H b = some x → H' b = some x) : Rep K G' H' v o fp := by
 cases o with
 | sh d => exact ⟨dpMono s d v r.1, r.2⟩
 | flat l =>
  obtain ⟨a, xs, rfl, h1, h2, rfl⟩ := r
  exact ⟨a, xs, rfl, k _ (by simp) _ h1, dpsMono s l xs h2, rfl⟩
 | tree d => exact trMono d v fp r k
theorem Rep.own {K : Fr} {G H : Hp} {v : V} {o : OV} {d : D} {fp : List Addr} (r : Rep K G H v o fp) (e : o.own? = some d) : Tr H v d fp := by
 cases o with
 | sh d' =>
  simp only [OV.own?] at e
  split at e
  ·cases e
   rw [r.2]
   exact .sc (scOf r.1 (by assumption))
  ·cases e
 | flat l =>
  simp only [OV.own?] at e
  split at e
  ·cases e
   obtain ⟨a, xs, rfl, h1, h2, rfl⟩ := r
   exact .lst h1 (trsSc h2 (by assumption))
  ·cases e
 | tree d' => cases e; exact r
abbrev DS := List (Option OV)
def look (K : Kc) (H : Hp) (σ : St) (i : Nat) (v : V) : Prop :=
 σ[i]? = some (some v) ∨ (σ.length ≤ i ∧ ∃ o a C dx fs n, K.ob = some o ∧ σ[o.slot]? = some (some (.ref a)) ∧ H a = some (.ins C dx fs) ∧ o.names[i - σ.length]? = some n ∧ fs.lookup n = some v)
def Kc.nf (K : Kc) : Nat := match K.ob with
 | none => 0
 | some o => o.names.length
def Kc.free (K : Kc) (i : Nat) : Prop := (match K.ob with
 | none => True
 | some o => o.slot ≠ i) ∧ (match K.ex with
 | none => True
 | some p => p.1 ≠ i)
theorem look_eq {K : Kc} {H : Hp} {σ : St} {i : Nat} {v w : V} (h : look K H σ i v) (e : σ[i]? = some (some w)) : v = w := by
 rcases h with h | ⟨h, _⟩
 ·rw [h] at e; cases e; rfl
 ·rw [List.getElem?_eq_none h] at e; cases e
theorem look_at {K : Kc} {H : Hp} {σ : St} {i : Nat} {v : V} (h : look K H σ i v) (hi : i < σ.length) : σ[i]? = some (some v) := by
 rcases h with h | ⟨h, _⟩
 ·exact h
 ·omega
def ObjAt (o : Ob) (H : Hp) (σ : St) (n : Nat) (F : Nat → List Addr) : Prop := o.slot < σ.length ∧ ∃ a dx fs, σ[o.slot]? = some (some (.ref a)) ∧ F n = [a, dx] ∧ H a = some (.ins o.cls dx fs) ∧ H dx = some (.own a) ∧ (fs.map (·.1)).Nodup ∧ ∀ p ∈ fs, p.1 ∈ o.names
structure SI (K : Fr) (G H : Hp) (σ : St) (ds : DS) (F : Nat → List Addr) : Prop where
 sub : Same G H
 gnt : ∀ b x, G b = some x → NT x
 tab : TabX K.tb H
 sl : σ.length = K.n
 len : ds.length = K.n + K.nf
 rep : ∀ i o, ds[i]? = some (some o) → ∃ v, look K H σ i v ∧ Rep K G H v o (F i)
 nod : ∀ i, (F i).Nodup
 off : ∀ i a, a ∈ F i → G a = none ∧ ∃ x, H a = some x ∧ NT x
 dis : ∀ i j a, a ∈ F i → a ∈ F j → i = j
 obj : ∀ o, K.ob = some o → ds[o.slot]? = some none ∧ ObjAt o H σ ds.length F
 exs : ∀ p, K.ex = some p → ds[p.1]? = some none ∧ σ[p.1]? = some (some (.ref p.2))
def Wf (F : Nat → List Addr) (a : Addr) : Prop := ∃ i, a ∈ F i
structure Step (W : Addr → Prop) (G H G' H' : Hp) (W' : Addr → Prop) : Prop where
 sg : Same G G'
 keep : ∀ b x, H b = some x → ¬ W b → NB x → H' b = some x
 dom : ∀ b x, H b = some x → ∃ y, H' b = some y
 new : ∀ b x, G' b = some x → (∃ y, G b = some y) ∨ W b ∨ H b = none
 own : ∀ b, W' b → W b ∨ H b = none
theorem some_or {α : Type} (o : Option α) : (∃ x, o = some x) ∨ o = none := by
 cases o with
 | none => exact .inr rfl
 | some x => exact .inl ⟨x, rfl⟩
theorem Step.refl (W : Addr → Prop) (G H : Hp) : Step W G H G H W :=
 ⟨Same.refl G, fun _ _ e _ _ => e, fun _ x e => ⟨x, e⟩, fun b x e => .inl ⟨x, e⟩, fun _ h => .inl h⟩
theorem Step.trans {W W1 W2 : Addr → Prop} {G H G1 H1 G2 H2 : Hp} (a : Step W G H G1 H1 W1) (b : Step W1 G1 H1 G2 H2 W2) : Step W G H G2 H2 W2 where
 sg := a.sg.trans b.sg
 keep := fun c x e n nt => b.keep c x (a.keep c x e n nt) (fun h => (a.own c h).elim n fun z => by rw [e] at z; cases z) nt
 dom := fun c x e => let ⟨y, h⟩ := a.dom c x e; b.dom c y h
 new := fun c x e => by
  have back : H1 c = none → H c = none := fun z => by
   rcases some_or (H c) with ⟨y, h⟩ | h
   ·obtain ⟨y', h'⟩ := a.dom c y h
    rw [h'] at z; cases z
   ·exact h
  rcases b.new c x e with ⟨y, h⟩ | h | h
  ·exact a.new c y h
  ·exact .inr (a.own c h)
  ·exact .inr (.inr (back h))
 own := fun c h => by
  rcases b.own c h with h | z
  ·exact a.own c h
  ·refine .inr ?_
   rcases some_or (H c) with ⟨y, h⟩ | h
   ·obtain ⟨y', h'⟩ := a.dom c y h
    rw [h'] at z; cases z
   ·exact h
theorem Step.back {W W' : Addr → Prop} {G H G' H' : Hp} (a : Step W G H G' H' W') {b : Addr} (z : H' b = none) : H b = none := by
 rcases some_or (H b) with ⟨y, h⟩ | h
 ·obtain ⟨y', h'⟩ := a.dom b y h
  rw [h'] at z; cases z
 ·exact h
theorem Step.grow {W : Addr → Prop} {G H G' H' : Hp} (s1 : Same G G') (s2 : Same H H') (n : ∀ b x, G' b = some x → (∃ y, G b = some y) ∨ H b = none) : Step W G H G' H' W :=
 ⟨s1, fun b x e _ _ => s2 b x e, fun b x e => ⟨x, s2 b x e⟩, fun b x e => (n b x e).imp id .inr, fun _ h => .inl h⟩
theorem look.same {K : Fr} {H H' : Hp} {σ : St} {i : Nat} {v : V} (s : SameN H H') (h : look K H σ i v) : look K H' σ i v := by
 rcases h with h | ⟨h, o, a, C, dx, fs, n, h1, h2, h3, h4, h5⟩
 ·exact .inl h
 ·exact .inr ⟨h, o, a, C, dx, fs, n, h1, h2, s _ _ h3 nt_ins, h4, h5⟩
theorem ObjAt.same {o : Ob} {H H' : Hp} {σ : St} {n : Nat} {F : Nat → List Addr} (s : SameN H H') (h : ObjAt o H σ n F) : ObjAt o H' σ n F := by
 obtain ⟨h0, a, dx, fs, h1, h2, h3, h4, h5, h6⟩ := h
 exact ⟨h0, a, dx, fs, h1, h2, s _ _ h3 nt_ins, s _ _ h4 nt_own, h5, h6⟩
theorem SI.grow {K : Fr} {G H G' H' : Hp} {σ : St} {ds : DS} {F : Nat → List Addr} (S : SI K G H σ ds F) (s1 : Same G G') (s2 : Same H H') (s3 : Same G' H') (n : ∀ b x, G' b = some x → (∃ y, G b = some y) ∨ H b = none) (nt : ∀ b x, G' b = some x → NT x) (n2 : ∀ b x, H' b = some x → H b = some x ∨ NT x) : SI K G' H' σ ds F where
 sub := s3
 gnt := nt
 tab := S.tab.ext s2 n2
 sl := S.sl
 len := S.len
 rep := fun i o e => let ⟨v, h1, h2⟩ := S.rep i o e; ⟨v, h1.same (SameN.of s2), h2.mono s1 fun b _ x h => s2 b x h⟩
 nod := S.nod
 off := fun i a h => by
  obtain ⟨h1, x, h2, h3⟩ := S.off i a h
  refine ⟨?_, x, s2 a x h2, h3⟩
  rcases some_or (G' a) with ⟨y, e⟩ | e
  ·rcases n a y e with ⟨z, e'⟩ | e'
   ·rw [h1] at e'; cases e'
   ·rw [h2] at e'; cases e'
  ·exact e
 dis := S.dis
 obj := fun o e => ⟨(S.obj o e).1, (S.obj o e).2.same (SameN.of s2)⟩
 exs := S.exs
inductive RV where
 | ov (o : OV)
 | loc (i : Nat)
def VRep (K : Fr) (G H : Hp) (σ : St) (v : V) (r : RV) (fp : List Addr) : Prop :=
 match r with
 | .ov o => Rep K G H v o fp
 | .loc i => σ[i]? = some (some v) ∧ fp = []
inductive VReps (K : Fr) (G H : Hp) (σ : St) : List V → List RV → List Addr → Prop
 | nil : VReps K G H σ [] [] []
 | cons {v : V} {vs : List V} {r : RV} {rs : List RV} {fp fq : List Addr} : VRep K G H σ v r fp → VReps K G H σ vs rs fq → VReps K G H σ (v :: vs) (r :: rs) (fp ++ fq)
structure Fp (G H : Hp) (W : Addr → Prop) (W0 : Addr → Prop) (H0 : Hp) (fp : List Addr) : Prop where
 nod : fp.Nodup
 off : ∀ a ∈ fp, G a = none ∧ (∃ x, H a = some x ∧ NT x) ∧ ¬ W a
 new : ∀ a ∈ fp, W0 a ∨ H0 a = none
theorem Fp.nil {G H : Hp} {W W0 : Addr → Prop} {H0 : Hp} : Fp G H W W0 H0 [] := ⟨.nil, fun _ h => (nomatch h), fun _ h => (nomatch h)⟩
theorem Fp.step {G H G' H' H0 : Hp} {W W' W0 : Addr → Prop} {fp : List Addr} (f : Fp G H W W0 H0 fp) (t : Step W G H G' H' W') : Fp G' H' W' W0 H0 fp :=
 ⟨f.nod, fun a h => (by
  obtain ⟨h1, ⟨x, h2, nt⟩, h3⟩ := f.off a h
  refine ⟨?_, ⟨x, t.keep a x h2 h3 nt.1, nt⟩, fun w => ?_⟩
  ·rcases some_or (G' a) with ⟨y, e⟩ | e
   ·rcases t.new a y e with ⟨z, e'⟩ | w | e'
    ·rw [h1] at e'; cases e'
    ·exact absurd w h3
    ·rw [h2] at e'; cases e'
   ·exact e
  ·rcases t.own a w with w | e'
   ·exact h3 w
   ·rw [h2] at e'; cases e'), f.new⟩
theorem Fp.keeps {G H G' H' H0 : Hp} {W W' W0 : Addr → Prop} {fp : List Addr} (f : Fp G H W W0 H0 fp) (t : Step W G H G' H' W') : ∀ b ∈ fp, ∀ x, H b = some x → H' b = some x :=
 fun b hb x e => t.keep b x e (f.off b hb).2.2 (by
  obtain ⟨_, ⟨y, h2, nt⟩, _⟩ := f.off b hb
  rw [e] at h2; cases h2; exact nt.1)
theorem VRep.step {K : Fr} {G H G' H' H0 : Hp} {W W' W0 : Addr → Prop} {σ : St} {v : V} {r : RV} {fp : List Addr} (h : VRep K G H σ v r fp) (f : Fp G H W W0 H0 fp) (t : Step W G H G' H' W') : VRep K G' H' σ v r fp := by
 cases r with
 | ov o => exact Rep.mono h t.sg (f.keeps t)
 | loc i => exact h
theorem Fp.app {G H H0 : Hp} {W W0 : Addr → Prop} {fp fq : List Addr} (a : Fp G H W W0 H0 fp) (b : Fp G H W W0 H0 fq) (d : ∀ x ∈ fp, x ∉ fq) : Fp G H W W0 H0 (fp ++ fq) :=
 ⟨List.nodup_append.mpr ⟨a.nod, b.nod, fun x h1 y h2 e => d x h1 (e ▸ h2)⟩, fun x h => (List.mem_append.mp h).elim (a.off x) (b.off x), fun x h => (List.mem_append.mp h).elim (a.new x) (b.new x)⟩
theorem Fp.left {G H H0 : Hp} {W W0 : Addr → Prop} {fp fq : List Addr} (a : Fp G H W W0 H0 (fp ++ fq)) : Fp G H W W0 H0 fp :=
 ⟨(List.nodup_append.mp a.nod).1, fun x h => a.off x (List.mem_append_left _ h), fun x h => a.new x (List.mem_append_left _ h)⟩
theorem Fp.right {G H H0 : Hp} {W W0 : Addr → Prop} {fp fq : List Addr} (a : Fp G H W W0 H0 (fp ++ fq)) : Fp G H W W0 H0 fq :=
 ⟨(List.nodup_append.mp a.nod).2.1, fun x h => a.off x (List.mem_append_right _ h), fun x h => a.new x (List.mem_append_right _ h)⟩
theorem Fp.since {G H G0 H0 G1 H1 : Hp} {W W0 W1 : Addr → Prop} {fp : List Addr} (f : Fp G H W W1 H1 fp) (t : Step W0 G0 H0 G1 H1 W1) : Fp G H W W0 H0 fp :=
 ⟨f.nod, f.off, fun a h => (f.new a h).elim (t.own a) fun z => .inr (t.back z)⟩
def RE (K : Fr) (t : TE) (f : DS → Option (RV × DS)) : Prop :=
 ∀ (G H : Hp) (F : Nat → List Addr) (σ : St) (ds : DS) (r : RV) (ds' : DS) (Q : VK), SI K G H σ ds F → f ds = some (r, ds') →
  (∀ v G' H' F' fp, SI K G' H' σ ds' F' → Step (Wf F) G H G' H' (Wf F') → VRep K G' H' σ v r fp → Fp G' H' (Wf F') (Wf F) H fp → Q v H') → t σ H Q
def RT (K : Fr) (t : TT) (f : DS → Option (Bool × DS)) : Prop :=
 ∀ (G H : Hp) (F : Nat → List Addr) (σ : St) (ds : DS) (b : Bool) (ds' : DS) (Q : Bool → Hp → Prop), SI K G H σ ds F → f ds = some (b, ds') →
  (∀ G' H' F', SI K G' H' σ ds' F' → Step (Wf F) G H G' H' (Wf F') → Q b H') → t σ H Q
def RA (K : Fr) (t : TA) (f : DS → Option (List RV × DS)) : Prop :=
 ∀ (G H : Hp) (F : Nat → List Addr) (σ : St) (ds : DS) (rs : List RV) (ds' : DS) (Q : List V → Hp → Prop), SI K G H σ ds F → f ds = some (rs, ds') →
  (∀ vs G' H' F' fp, SI K G' H' σ ds' F' → Step (Wf F) G H G' H' (Wf F') → VReps K G' H' σ vs rs fp → Fp G' H' (Wf F') (Wf F) H fp → Q vs H') → t σ H Q
inductive Out where
 | nx (ds : DS)
 | ret (o : OV) (ds : DS)
 | bk (ds : DS)
 | ct (ds : DS)
 | ex (x : Str) (ds : DS)
def Off (T : List Nat) (σ σ' : St) : Prop := σ'.length = σ.length ∧ ∀ i, i ∉ T → σ'[i]? = σ[i]?
theorem Off.refl (T : List Nat) (σ : St) : Off T σ σ := ⟨rfl, fun _ _ => rfl⟩
theorem Off.trans {T : List Nat} {σ σ1 σ2 : St} (a : Off T σ σ1) (b : Off T σ1 σ2) : Off T σ σ2 := ⟨b.1.trans a.1, fun i h => (b.2 i h).trans (a.2 i h)⟩
theorem Off.mono {T T' : List Nat} {σ σ' : St} (a : Off T σ σ') (h : ∀ i ∈ T, i ∈ T') : Off T' σ σ' := ⟨a.1, fun i n => a.2 i fun z => n (h i z)⟩
theorem Off.left {T T' : List Nat} {σ σ' : St} (a : Off T σ σ') : Off (T ++ T') σ σ' := a.mono fun _ h => List.mem_append_left _ h
theorem Off.right {T T' : List Nat} {σ σ' : St} (a : Off T' σ σ') : Off (T ++ T') σ σ' := a.mono fun _ h => List.mem_append_right _ h
theorem Off.set (i : Nat) (v : Option V) (σ : St) : Off [i] σ (σ.set i v) := ⟨List.length_set, fun j hj => List.getElem?_set_ne fun e => hj (by simp [e])⟩
structure Zc where
 W : WX
 mg : Str → Option Value
def Ended (K : Fr) (Z : Zc) (T : List Nat) (G H : Hp) (F : Nat → List Addr) (σ : St) (E : Ends) : Out → Prop
 | .nx ds' => ∀ σ' G' H' F', SI K G' H' σ' ds' F' → Step (Wf F) G H G' H' (Wf F') → Off T σ σ' → E.nx σ' H'
 | .bk ds' => ∀ σ' G' H' F', SI K G' H' σ' ds' F' → Step (Wf F) G H G' H' (Wf F') → Off T σ σ' → E.bk σ' H'
 | .ct ds' => ∀ σ' G' H' F', SI K G' H' σ' ds' F' → Step (Wf F) G H G' H' (Wf F') → Off T σ σ' → E.ct σ' H'
 | .ret o ds' => ∀ v σ' G' H' F' fp, SI K G' H' σ' ds' F' → Step (Wf F) G H G' H' (Wf F') → Off T σ σ' → Rep K G' H' v o fp → Fp G' H' (Wf F') (Wf F) H fp → E.rt v H'
 | .ex x ds' => ∀ C σ' G' H' F', Z.mg x = some (.ref C) → SI K G' H' σ' ds' F' → Step (Wf F) G H G' H' (Wf F') → Off T σ σ' → Z.W (.ref C) none σ' H'
theorem Ended.later {K : Fr} {Z : Zc} {T T' : List Nat} {G H G1 H1 : Hp} {F F1 : Nat → List Addr} {σ σ1 : St} {E : Ends} {o : Out} (t1 : Step (Wf F) G H G1 H1 (Wf F1)) (f1 : Off T σ σ1) (hT : ∀ i ∈ T', i ∈ T) (q : Ended K Z T G H F σ E o) : Ended K Z T' G1 H1 F1 σ1 E o := by
 cases o with
 | nx d' => exact fun σ2 G2 H2 F2 S2 t2 f2 => q σ2 G2 H2 F2 S2 (t1.trans t2) (f1.trans (f2.mono hT))
 | bk d' => exact fun σ2 G2 H2 F2 S2 t2 f2 => q σ2 G2 H2 F2 S2 (t1.trans t2) (f1.trans (f2.mono hT))
 | ct d' => exact fun σ2 G2 H2 F2 S2 t2 f2 => q σ2 G2 H2 F2 S2 (t1.trans t2) (f1.trans (f2.mono hT))
 | ret r d' => exact fun v σ2 G2 H2 F2 fp S2 t2 f2 r2 p2 => q v σ2 G2 H2 F2 fp S2 (t1.trans t2) (f1.trans (f2.mono hT)) r2 (p2.since t1)
 | ex x d' => exact fun C σ2 G2 H2 F2 m S2 t2 f2 => q C σ2 G2 H2 F2 m S2 (t1.trans t2) (f1.trans (f2.mono hT))
def RS (K : Fr) (Z : Zc) (T : List Nat) (t : TS) (f : DS → Option Out) : Prop :=
 ∀ (G H : Hp) (F : Nat → List Addr) (σ : St) (ds : DS) (o : Out) (E : Ends), SI K G H σ ds F → f ds = some o → Ended K Z T G H F σ E o → t E σ H
end Fx
set_option Elab.async false
set_option linter.all false
set_option maxRecDepth 100000
namespace Fx
open PySem PySem.Spec L2
def lay (G H : Hp) (fp : List Addr) : Hp := fun b => if b ∈ fp then H b else G b
theorem lay_in {G H : Hp} {fp : List Addr} {b : Addr} (h : b ∈ fp) : lay G H fp b = H b := by unfold lay; rw [if_pos h]
theorem lay_out {G H : Hp} {fp : List Addr} {b : Addr} (h : b ∉ fp) : lay G H fp b = G b := by unfold lay; rw [if_neg h]
theorem same_lay {G H : Hp} {fp : List Addr} (n : ∀ b ∈ fp, G b = none) : Same G (lay G H fp) := fun b x e => by
 by_cases h : b ∈ fp
 ·rw [n b h] at e; cases e
 ·rw [lay_out h]; exact e
theorem lay_same {G H : Hp} {fp : List Addr} (s : Same G H) : Same (lay G H fp) H := fun b x e => by
 by_cases h : b ∈ fp
 ·rw [lay_in h] at e; exact e
 ·rw [lay_out h] at e; exact s b x e
theorem Rep.freeze {K : Fr} {G H : Hp} {v : V} {o : OV} {fp : List Addr} (r : Rep K G H v o fp) (n : ∀ b ∈ fp, G b = none) : Dp K (lay G H fp) v o.view := by
 have s := same_lay (H := H) n
 cases o with
 | sh d => exact dpMono s d v r.1
 | flat l =>
  obtain ⟨a, xs, rfl, h1, h2, rfl⟩ := r
  exact .lst (SqL.of (by rw [lay_in (by simp)]; exact h1)) (dpsMono s l xs h2)
 | tree d => exact trDp d v fp (trMono d v fp r fun b hb x e => by rw [lay_in hb]; exact e)
theorem Step.lay {W0 W : Addr → Prop} {G0 H0 G H : Hp} {fp : List Addr} (t : Step W0 G0 H0 G H W) (n : ∀ b ∈ fp, G b = none) (nw : ∀ b ∈ fp, W0 b ∨ H0 b = none) : Step W0 G0 H0 (Fx.lay G H fp) H W :=
 ⟨t.sg.trans (same_lay n), t.keep, t.dom, fun b x e => by
  by_cases h : b ∈ fp
  ·exact .inr (nw b h)
  ·rw [lay_out h] at e; exact t.new b x e, t.own⟩
theorem Step.reown {W0 W W' : Addr → Prop} {G0 H0 G H : Hp} (t : Step W0 G0 H0 G H W) (n : ∀ b, W' b → W0 b ∨ H0 b = none) : Step W0 G0 H0 G H W' := ⟨t.sg, t.keep, t.dom, t.new, n⟩
theorem lay_nt {G H : Hp} {fp : List Addr} (g : ∀ b x, G b = some x → NT x) (h : ∀ b ∈ fp, ∃ x, H b = some x ∧ NT x) : ∀ b x, lay G H fp b = some x → NT x := fun b x e => by
 by_cases hb : b ∈ fp
 ·rw [lay_in hb] at e
  obtain ⟨y, h1, h2⟩ := h b hb
  rw [e] at h1; cases h1; exact h2
 ·rw [lay_out hb] at e; exact g b x e
theorem SI.lay {K : Fr} {G H H0 : Hp} {σ : St} {ds : DS} {F : Nat → List Addr} {W0 : Addr → Prop} {fp : List Addr} (S : SI K G H σ ds F) (f : Fp G H (Wf F) W0 H0 fp) : SI K (Fx.lay G H fp) H σ ds F where
 sub := lay_same S.sub
 gnt := lay_nt S.gnt fun b hb => (f.off b hb).2.1
 tab := S.tab
 sl := S.sl
 len := S.len
 rep := fun i o e => let ⟨v, h1, h2⟩ := S.rep i o e; ⟨v, h1, h2.mono (same_lay fun b hb => (f.off b hb).1) fun _ _ _ e => e⟩
 nod := S.nod
 off := fun i a h => by
  have hn : a ∉ fp := fun z => (f.off a z).2.2 ⟨i, h⟩
  rw [lay_out hn]
  exact S.off i a h
 dis := S.dis
 obj := S.obj
 exs := S.exs
theorem Fp.lay {G H H0 : Hp} {W W0 : Addr → Prop} {fp fq : List Addr} (f : Fp G H W W0 H0 fq) (d : ∀ b ∈ fq, b ∉ fp) : Fp (Fx.lay G H fp) H W W0 H0 fq :=
 ⟨f.nod, fun a h => by rw [lay_out (d a h)]; exact f.off a h, f.new⟩
def offF (F : Nat → List Addr) (i : Nat) (fp : List Addr) : Nat → List Addr := fun j => if j = i then fp else F j
theorem SI.drop {K : Fr} {G H : Hp} {σ : St} {ds : DS} {F : Nat → List Addr} (S : SI K G H σ ds F) (i : Nat) (o : OV) (h : ds[i]? = some (some o)) :
  SI K (Fx.lay G H (F i)) H σ (ds.set i (some (.sh o.view))) (offF F i []) where
 sub := lay_same S.sub
 gnt := lay_nt S.gnt fun b hb => (S.off i b hb).2
 tab := S.tab
 sl := S.sl
 len := by rw [List.length_set]; exact S.len
 obj := fun u e => by
  obtain ⟨h1, h2, a, dx, fs, k1, k2, k3⟩ := S.obj u e
  have hi : i ≠ u.slot := fun z => by rw [z, h1] at h; cases h
  have hl : i < ds.length := (List.getElem?_eq_some_iff.mp h).1
  refine ⟨by rw [List.getElem?_set_ne hi]; exact h1, h2, a, dx, fs, k1, ?_, k3⟩
  rw [List.length_set]
  unfold offF; rw [if_neg (by omega)]; exact k2
 exs := fun p e => by
  obtain ⟨h1, h2⟩ := S.exs p e
  have hi : i ≠ p.1 := fun z => by rw [z, h1] at h; cases h
  exact ⟨by rw [List.getElem?_set_ne hi]; exact h1, h2⟩
 rep := fun j u e => by
  have sm : Same G (Fx.lay G H (F i)) := same_lay fun b hb => (S.off i b hb).1
  by_cases hj : j = i
  ·subst hj
   have hl : j < ds.length := (List.getElem?_eq_some_iff.mp h).1
   rw [List.getElem?_set_self hl] at e
   cases e
   obtain ⟨v, h1, h2⟩ := S.rep j o h
   refine ⟨v, h1, h2.freeze fun b hb => (S.off j b hb).1, ?_⟩
   unfold offF; rw [if_pos rfl]
  ·rw [List.getElem?_set_ne (Ne.symm hj)] at e
   obtain ⟨v, h1, h2⟩ := S.rep j u e
   refine ⟨v, h1, ?_⟩
   unfold offF; rw [if_neg hj]
   exact h2.mono sm fun _ _ _ e => e
 nod := fun j => by unfold offF; split; exact .nil; exact S.nod j
 off := fun j a ha => by
  unfold offF at ha
  split at ha
  ·cases ha
  ·rename_i hj
   have hn : a ∉ F i := fun z => hj (S.dis j i a ha z)
   rw [lay_out hn]
   exact S.off j a ha
 dis := fun j k a h1 h2 => by
  unfold offF at h1 h2
  split at h1
  ·cases h1
  ·split at h2
   ·cases h2
   ·exact S.dis j k a h1 h2
theorem wf_off {F : Nat → List Addr} {i : Nat} {fp : List Addr} {b : Addr} (h : Wf (offF F i fp) b) : Wf F b ∨ b ∈ fp := by
 obtain ⟨j, h⟩ := h
 unfold offF at h
 split at h
 ·exact .inr h
 ·exact .inl ⟨j, h⟩
def see : RV → DS → Option D
 | .ov o, _ => some o.view
 | .loc i, ds => match ds[i]? with
  | some (some o) => some o.view
  | _ => none
def frz : RV → DS → Option (D × DS)
 | .ov o, ds => some (o.view, ds)
 | .loc i, ds => match ds[i]? with
  | some (some o) => some (o.view, ds.set i (some (.sh o.view)))
  | _ => none
theorem see_ok {K : Fr} {G H : Hp} {σ : St} {ds : DS} {F : Nat → List Addr} {v : V} {r : RV} {fp : List Addr} {d : D} (S : SI K G H σ ds F) (h : VRep K G H σ v r fp) (e : see r ds = some d) : Dp K H v d := by
 cases r with
 | ov o => cases e; exact Rep.view h S.sub
 | loc i =>
  simp only [see] at e
  split at e
  ·rename_i o ho
   cases e
   obtain ⟨u, h1, h2⟩ := S.rep i o ho
   obtain rfl := look_eq h1 h.1
   exact h2.view S.sub
  ·cases e
theorem frz_ok {K : Fr} {G H G0 H0 : Hp} {σ : St} {ds ds' : DS} {F : Nat → List Addr} {W0 : Addr → Prop} {v : V} {r : RV} {fp fq : List Addr} {d : D} (S : SI K G H σ ds F) (t : Step W0 G0 H0 G H (Wf F)) (h : VRep K G H σ v r fp) (f : Fp G H (Wf F) W0 H0 (fp ++ fq))
  (e : frz r ds = some (d, ds')) : ∃ G' F', SI K G' H σ ds' F' ∧ Step W0 G0 H0 G' H (Wf F') ∧ Same G G' ∧ Dp K G' v d ∧ Fp G' H (Wf F') W0 H0 fq := by
 have dj : ∀ b ∈ fq, b ∉ fp := fun b h1 h2 => (List.nodup_append.mp f.nod).2.2 b h2 b h1 rfl
 cases r with
 | ov o =>
  cases e
  have n : ∀ b ∈ fp, G b = none := fun b hb => (f.left.off b hb).1
  exact ⟨_, F, S.lay f.left, t.lay n f.left.new, same_lay n, Rep.freeze h n, f.right.lay dj⟩
 | loc i =>
  simp only [frz] at e
  split at e
  ·rename_i o ho
   cases e
   obtain ⟨u, h1, h2⟩ := S.rep i o ho
   have h' : σ[i]? = some (some v) := h.1
   obtain rfl := look_eq h1 h'
   have n : ∀ b ∈ F i, G b = none := fun b hb => (S.off i b hb).1
   have ow : ∀ b, Wf (offF F i []) b → W0 b ∨ H0 b = none := fun b hb => (wf_off hb).elim (t.own b) fun z => nomatch z
   refine ⟨_, _, S.drop i o ho, (t.lay n fun b hb => t.own b ⟨i, hb⟩).reown ow, same_lay n, h2.freeze n, ?_⟩
   ·refine ⟨f.right.nod, fun a ha => ?_, f.right.new⟩
    obtain ⟨q1, q2, q3⟩ := f.right.off a ha
    refine ⟨?_, q2, fun z => ?_⟩
    ·rw [lay_out fun z => q3 ⟨i, z⟩]; exact q1
    ·rcases wf_off z with z | z
     ·exact q3 z
     ·cases z
  ·cases e
theorem frz_see {r : RV} {ds ds' : DS} {d : D} (e : frz r ds = some (d, ds')) : see r ds = some d ∧ ∀ r', see r' ds' = see r' ds := by
 cases r with
 | ov o => cases e; exact ⟨rfl, fun _ => rfl⟩
 | loc i =>
  simp only [frz] at e
  split at e
  ·rename_i o ho
   cases e
   refine ⟨by simp only [see, ho], fun r' => ?_⟩
   cases r' with
   | ov o' => rfl
   | loc j =>
    by_cases hj : i = j
    ·subst hj
     have hl := (List.getElem?_eq_some_iff.mp ho).1
     simp only [see, List.getElem?_set_self hl, ho]
     rfl
    ·simp only [see, List.getElem?_set_ne hj]
  ·cases e
def sees : List RV → DS → Option (List D)
 | [], _ => some []
 | r :: rs, ds => (see r ds).bind fun d => (sees rs ds).map fun l => d :: l
def frzs : List RV → DS → Option (List D × DS)
 | [], ds => some ([], ds)
 | r :: rs, ds => (frz r ds).bind fun p => (frzs rs p.2).map fun q => (p.1 :: q.1, q.2)
theorem frzs_sees : ∀ {rs : List RV} {ds ds' : DS} {l : List D}, frzs rs ds = some (l, ds') → sees rs ds = some l
 | [], _, _, _, e => by cases e; rfl
 | r :: rs, ds, _, _, e => by
  simp only [frzs, Option.bind_eq_some_iff, Option.map_eq_some_iff] at e
  obtain ⟨p, h1, q, h2, h3⟩ := e
  cases h3
  obtain ⟨a, b⟩ := frz_see (d := p.1) (ds' := p.2) h1
  have c : ∀ qs : List RV, sees qs p.2 = sees qs ds := fun qs => by
   induction qs with
   | nil => rfl
   | cons q qs ih => simp only [sees, b, ih]
  have h := frzs_sees (l := q.1) (ds' := q.2) h2
  rw [c] at h
  simp only [sees, a, h]
  rfl
theorem sees_ok {K : Fr} {G H : Hp} {σ : St} {ds : DS} {F : Nat → List Addr} (S : SI K G H σ ds F) : ∀ {vs : List V} {rs : List RV} {fp : List Addr} {l : List D}, VReps K G H σ vs rs fp → sees rs ds = some l → DpAll K H vs l
 | _, _, _, _, .nil, e => by cases e; exact .nil
 | _, _, _, _, .cons a t, e => by
  simp only [sees, Option.bind_eq_some_iff, Option.map_eq_some_iff] at e
  obtain ⟨d, h1, l, h2, rfl⟩ := e
  exact .cons (see_ok S a h1) (sees_ok S t h2)
theorem VReps.mono {K : Fr} {G G' H : Hp} {σ : St} (s : Same G G') : ∀ {vs : List V} {rs : List RV} {fp : List Addr}, VReps K G H σ vs rs fp → VReps K G' H σ vs rs fp
 | _, _, _, .nil => .nil
 | _, _, _, .cons (r := r) a t => .cons (by
   cases r with
   | ov o => exact Rep.mono a s fun _ _ _ e => e
   | loc i => exact a) (VReps.mono s t)
theorem frzs_ok {K : Fr} {G0 H0 H : Hp} {σ : St} {W0 : Addr → Prop} : ∀ {rs : List RV} {vs : List V} {fp fq : List Addr} {l : List D} {G : Hp} {ds ds' : DS} {F : Nat → List Addr}, SI K G H σ ds F → Step W0 G0 H0 G H (Wf F) → VReps K G H σ vs rs fp → Fp G H (Wf F) W0 H0 (fp ++ fq) →
  frzs rs ds = some (l, ds') → ∃ G' F', SI K G' H σ ds' F' ∧ Step W0 G0 H0 G' H (Wf F') ∧ Same G G' ∧ DpAll K G' vs l ∧ Fp G' H (Wf F') W0 H0 fq
 | [], _, _, _, _, G, _, _, F, S, t, h, f, e => by
  cases h
  cases e
  exact ⟨G, F, S, t, Same.refl G, .nil, f⟩
 | r :: rs, _, _, _, _, G, _, _, F, S, t, h, f, e => by
  cases h with
  | cons a b =>
   simp only [frzs, Option.bind_eq_some_iff, Option.map_eq_some_iff] at e
   obtain ⟨p, h1, q, h2, h3⟩ := e
   cases h3
   rw [List.append_assoc] at f
   obtain ⟨G1, F1, S1, t1, s1, d1, f1⟩ := frz_ok S t a f h1
   obtain ⟨G2, F2, S2, t2, s2, d2, f2⟩ := frzs_ok S1 t1 (b.mono s1) f1 h2
   exact ⟨G2, F2, S2, t2, s1.trans s2, .cons (dpMono s2 _ _ d1) d2, f2⟩
def fVar (i : Nat) (ds : DS) : Option (RV × DS) := match ds[i]? with
 | some (some (.sh d)) => some (.ov (.sh d), ds)
 | some (some _) => some (.loc i, ds)
 | _ => none
variable {K : Fr}
theorem re_var {i : Nat} (hi : i < K.n) : RE K (tVar i) (fVar i) := by
 intro G H F σ ds r ds' Q S e q
 simp only [fVar] at e
 split at e
 ·rename_i d hd
  cases e
  obtain ⟨v, h1, h2⟩ := S.rep i _ hd
  have h1 := look_at h1 (by rw [S.sl]; exact hi)
  exact ⟨v, h1, q v G H F [] S (Step.refl _ _ _) ⟨h2.1, rfl⟩ .nil⟩
 ·rename_i o hne ho
  cases e
  obtain ⟨v, h1, h2⟩ := S.rep i _ ho
  have h1 := look_at h1 (by rw [S.sl]; exact hi)
  exact ⟨v, h1, q v G H F [] S (Step.refl _ _ _) ⟨h1, rfl⟩ .nil⟩
 ·cases e
def fC (d : D) (ds : DS) : Option (RV × DS) := some (.ov (.sh d), ds)
theorem re_c {v : V} {d : D} (h : Sc v d) : RE K (tC v) (fC d) := by
 intro G H F σ ds r ds' Q S e q
 cases e
 exact q v G H F [] S (Step.refl _ _ _) ⟨h.dp, rfl⟩ .nil
def VOp (K : Fr) (r : R2) (g : D → D → Option D) : Prop := ∀ (H : Hp) (x y : V) (d e z : D) (Q : VK), Dp K H x d → Dp K H y e → g d e = some z → (∀ v, Sc v z → Q v H) → r x y H Q
def VUn (K : Fr) (r : V → Hp → VK → Prop) (g : D → Option D) : Prop := ∀ (H : Hp) (x : V) (d z : D) (Q : VK), Dp K H x d → g d = some z → (∀ v, Sc v z → Q v H) → r x H Q
def VCa (K : Fr) (r : List V → Hp → VK → Prop) (g : List D → Option D) : Prop := ∀ (H : Hp) (xs : List V) (l : List D) (z : D) (Q : VK), DpAll K H xs l → g l = some z → (∀ v, Sc v z → Q v H) → r xs H Q
def fOp (g : D → D → Option D) (fa fb : DS → Option (RV × DS)) (ds : DS) : Option (RV × DS) :=
 (fa ds).bind fun p => (fb p.2).bind fun q => (see p.1 q.2).bind fun d => (see q.1 q.2).bind fun e => (g d e).map fun z => (.ov (.sh z), q.2)
theorem re_op {r : R2} {g : D → D → Option D} {ta tb : TE} {fa fb : DS → Option (RV × DS)} (hr : VOp K r g) (ha : RE K ta fa) (hb : RE K tb fb) : RE K (tOp r ta tb) (fOp g fa fb) := by
 intro G H F σ ds rv ds' Q S e q
 simp only [fOp, Option.bind_eq_some_iff, Option.map_eq_some_iff] at e
 obtain ⟨⟨ra, d1⟩, e1, ⟨rb, d2⟩, e2, d, e3, d', e4, z, e5, e6⟩ := e
 cases e6
 refine ha G H F σ ds ra d1 _ S e1 fun v1 G1 H1 F1 fp1 S1 t1 r1 f1 => ?_
 refine hb G1 H1 F1 σ d1 rb d2 _ S1 e2 fun v2 G2 H2 F2 fp2 S2 t2 r2 f2 => ?_
 refine hr H2 v1 v2 d d' z _ (see_ok S2 (r1.step f1 t2) e3) (see_ok S2 r2 e4) e5 fun v hv => ?_
 exact q v G2 H2 F2 [] S2 (t1.trans t2) ⟨hv.dp, rfl⟩ .nil
def fUn (g : D → Option D) (fa : DS → Option (RV × DS)) (ds : DS) : Option (RV × DS) :=
 (fa ds).bind fun p => (see p.1 p.2).bind fun d => (g d).map fun z => (.ov (.sh z), p.2)
theorem re_un {r : V → Hp → VK → Prop} {g : D → Option D} {ta : TE} {fa : DS → Option (RV × DS)} (hr : VUn K r g) (ha : RE K ta fa) : RE K (tUn r ta) (fUn g fa) := by
 intro G H F σ ds rv ds' Q S e q
 simp only [fUn, Option.bind_eq_some_iff, Option.map_eq_some_iff] at e
 obtain ⟨⟨ra, d1⟩, e1, d, e3, z, e5, e6⟩ := e
 cases e6
 refine ha G H F σ ds ra d1 _ S e1 fun v1 G1 H1 F1 fp1 S1 t1 r1 f1 => ?_
 refine hr H1 v1 d z _ (see_ok S1 r1 e3) e5 fun v hv => ?_
 exact q v G1 H1 F1 [] S1 t1 ⟨hv.dp, rfl⟩ .nil
def fNil (ds : DS) : Option (List RV × DS) := some ([], ds)
def fCons (fa : DS → Option (RV × DS)) (fr : DS → Option (List RV × DS)) (ds : DS) : Option (List RV × DS) :=
 (fa ds).bind fun p => (fr p.2).map fun q => (p.1 :: q.1, q.2)
theorem ra_nil : RA K tNil fNil := by
 intro G H F σ ds rs ds' Q S e q
 cases e
 exact q [] G H F [] S (Step.refl _ _ _) .nil .nil
theorem ra_cons {ta : TE} {tr : TA} {fa : DS → Option (RV × DS)} {fr : DS → Option (List RV × DS)} (ha : RE K ta fa) (hr : RA K tr fr) : RA K (tCons ta tr) (fCons fa fr) := by
 intro G H F σ ds rs ds' Q S e q
 simp only [fCons, Option.bind_eq_some_iff, Option.map_eq_some_iff] at e
 obtain ⟨⟨ra, d1⟩, e1, ⟨rb, d2⟩, e2, e6⟩ := e
 cases e6
 refine ha G H F σ ds ra d1 _ S e1 fun v1 G1 H1 F1 fp1 S1 t1 r1 f1 => ?_
 refine hr G1 H1 F1 σ d1 rb d2 _ S1 e2 fun v2 G2 H2 F2 fp2 S2 t2 r2 f2 => ?_
 refine q (v1 :: v2) G2 H2 F2 (fp1 ++ fp2) S2 (t1.trans t2) (.cons (r1.step f1 t2) r2) ((f1.step t2).app (f2.since t1) fun x h1 h2 => ?_)
 obtain ⟨_, ⟨y, hy⟩, nw⟩ := f1.off x h1
 rcases f2.new x h2 with z | z
 ·exact nw z
 ·rw [hy.1] at z; cases z
def fCa (g : List D → Option D) (fa : DS → Option (List RV × DS)) (ds : DS) : Option (RV × DS) :=
 (fa ds).bind fun p => (sees p.1 p.2).bind fun l => (g l).map fun z => (.ov (.sh z), p.2)
theorem re_cb {r : List V → Hp → VK → Prop} {g : List D → Option D} {t : TA} {fa : DS → Option (List RV × DS)} (hr : VCa K r g) (ha : RA K t fa) : RE K (tCB r t) (fCa g fa) := by
 intro G H F σ ds rv ds' Q S e q
 simp only [fCa, Option.bind_eq_some_iff, Option.map_eq_some_iff] at e
 obtain ⟨⟨ra, d1⟩, e1, l, e3, z, e5, e6⟩ := e
 cases e6
 refine ha G H F σ ds ra d1 _ S e1 fun v1 G1 H1 F1 fp1 S1 t1 r1 f1 => ?_
 refine hr H1 v1 l z _ (sees_ok S1 r1 e3) e5 fun v hv => ?_
 exact q v G1 H1 F1 [] S1 t1 ⟨hv.dp, rfl⟩ .nil
theorem new_list {G0 H0 G H : Hp} {σ : St} {ds : DS} {F : Nat → List Addr} {W0 : Addr → Prop} {p : Addr} {ys : List V} {z : List D} (S : SI K G H σ ds F) (t : Step W0 G0 H0 G H (Wf F)) (hp : H p = none) (hd : DpAll K G ys z) :
  SI K G (upd H p (.lst ys)) σ ds F ∧ Step W0 G0 H0 G (upd H p (.lst ys)) (Wf F) ∧ Rep K G (upd H p (.lst ys)) (.ref p) (.flat z) [p] ∧ Fp G (upd H p (.lst ys)) (Wf F) W0 H0 [p] := by
 have s2 : Same H (upd H p (.lst ys)) := fun b x e => by rw [upd_ne (ne_of_none e hp)]; exact e
 have gp : G p = none := S.sub.free hp
 refine ⟨S.grow (Same.refl G) s2 (S.sub.trans s2) (fun b x e => .inl ⟨x, e⟩) S.gnt (nt_upd nt_lst), t.trans (Step.grow (Same.refl G) s2 fun b x e => .inl ⟨x, e⟩), ⟨p, ys, rfl, upd_same, hd, rfl⟩, ⟨by simp, fun a ha => ?_, fun a ha => ?_⟩⟩
 ·obtain rfl : a = p := by simpa using ha
  refine ⟨gp, ⟨_, upd_same, nt_lst⟩, fun ⟨i, hi⟩ => ?_⟩
  obtain ⟨_, x, h⟩ := S.off i a hi
  rw [hp] at h; cases h.1
 ·obtain rfl : a = p := by simpa using ha
  exact .inr (t.back hp)
def fLst (fa : DS → Option (List RV × DS)) (ds : DS) : Option (RV × DS) := (fa ds).bind fun p => (frzs p.1 p.2).bind fun q => if q.1.length ≤ 1000 then some (.ov (.flat q.1), q.2) else none
theorem re_lst {t : TA} {fa : DS → Option (List RV × DS)} (ha : RA K t fa) : RE K (tLst t) (fLst fa) := by
 intro G H F σ ds rv ds' Q S e q
 simp only [fLst, Option.bind_eq_some_iff] at e
 obtain ⟨⟨ra, d1⟩, e1, ⟨l, d2⟩, e3, e6⟩ := e
 split at e6
 ·rename_i hz
  cases e6
  refine ha G H F σ ds ra d1 _ S e1 fun v1 G1 H1 F1 fp1 S1 t1 r1 f1 => ?_
  obtain ⟨G2, F2, S2, t2, s2, dd, _⟩ := frzs_ok (fq := []) S1 t1 r1 (by rw [List.append_nil]; exact f1) e3
  refine ⟨by rw [dpsLen dd]; exact Nat.le_of_lt (small1000 hz), fun p hp => ?_⟩
  obtain ⟨S4, t4, r4, f4⟩ := new_list S2 t2 hp dd
  exact q _ _ _ _ _ S4 t4 r4 f4
 ·cases e6
def fTup (fa : DS → Option (List RV × DS)) (ds : DS) : Option (RV × DS) := (fa ds).bind fun p => (frzs p.1 p.2).bind fun q => if q.1.length ≤ 1000 then some (.ov (.sh (.tuple q.1)), q.2) else none
theorem new_tup {G0 H0 G H : Hp} {σ : St} {ds : DS} {F : Nat → List Addr} {W0 : Addr → Prop} {p : Addr} {ys : List V} {z : List D} (S : SI K G H σ ds F) (t : Step W0 G0 H0 G H (Wf F)) (hp : H p = none) (hd : DpAll K G ys z) :
  SI K (upd G p (.tup ys)) (upd H p (.tup ys)) σ ds F ∧ Step W0 G0 H0 (upd G p (.tup ys)) (upd H p (.tup ys)) (Wf F) ∧ Same G (upd G p (.tup ys)) ∧ Dp K (upd G p (.tup ys)) (.ref p) (.tuple z) := by
 have gp : G p = none := S.sub.free hp
 have s2 : Same H (upd H p (.tup ys)) := fun b x e => by rw [upd_ne (ne_of_none e hp)]; exact e
 have s1 : Same G (upd G p (.tup ys)) := fun b x e => by rw [upd_ne (ne_of_none e gp)]; exact e
 have s3 : Same (upd G p (.tup ys)) (upd H p (.tup ys)) := fun b x e => by
  by_cases h : b = p
  ·subst h; rw [upd_same] at e ⊢; exact e
  ·rw [upd_ne h] at e ⊢; exact S.sub b x e
 have n : ∀ b x, (upd G p (.tup ys)) b = some x → (∃ y, G b = some y) ∨ H b = none := fun b x e => by
  by_cases h : b = p
  ·subst h; exact .inr hp
  ·rw [upd_ne h] at e; exact .inl ⟨x, e⟩
 have nt : ∀ b x, (upd G p (.tup ys)) b = some x → NT x := fun b x e => by
  by_cases h : b = p
  ·subst h; rw [upd_same] at e; cases e; exact nt_tup
  ·rw [upd_ne h] at e; exact S.gnt b x e
 exact ⟨S.grow s1 s2 s3 n nt (nt_upd nt_tup), t.trans (Step.grow s1 s2 n), s1, .tup (SqT.of upd_same) (dpsMono s1 z ys hd)⟩
theorem re_tup {t : TA} {fa : DS → Option (List RV × DS)} (ha : RA K t fa) : RE K (tTup t) (fTup fa) := by
 intro G H F σ ds rv ds' Q S e q
 simp only [fTup, Option.bind_eq_some_iff] at e
 obtain ⟨⟨ra, d1⟩, e1, ⟨l, d2⟩, e3, e6⟩ := e
 split at e6
 ·rename_i hz
  cases e6
  refine ha G H F σ ds ra d1 _ S e1 fun v1 G1 H1 F1 fp1 S1 t1 r1 f1 => ?_
  obtain ⟨G2, F2, S2, t2, s2, dd, _⟩ := frzs_ok (fq := []) S1 t1 r1 (by rw [List.append_nil]; exact f1) e3
  refine ⟨by rw [dpsLen dd]; exact Nat.le_of_lt (small1000 hz), fun p hp => ?_⟩
  obtain ⟨S4, t4, s4, r4⟩ := new_tup S2 t2 hp dd
  exact q _ _ _ _ [] S4 t4 ⟨r4, rfl⟩ .nil
 ·cases e6
end Fx
set_option Elab.async false
set_option linter.all false
set_option maxRecDepth 100000
namespace Fx
open PySem PySem.Spec L2
variable {K : Fr}
def fBool (f : DS → Option (RV × DS)) (ds : DS) : Option (Bool × DS) := (f ds).bind fun p => match p.1 with
 | .ov (.sh (.bool b)) => some (b, p.2)
 | _ => none
theorem rt_bool {t : TE} {f : DS → Option (RV × DS)} (h : RE K t f) : RT K (tTest t) (fBool f) := by
 intro G H F σ ds b ds' Q S e q
 simp only [fBool, Option.bind_eq_some_iff] at e
 obtain ⟨⟨r, d1⟩, e1, e2⟩ := e
 split at e2
 ·rename_i b' hb
  cases e2
  have hb : r = .ov (.sh (.bool b)) := hb
  subst hb
  refine h G H F σ ds _ _ _ S e1 fun v G1 H1 F1 fp1 S1 t1 r1 f1 => ?_
  have r1 : Dp K G1 v (.bool b) := r1.1
  cases r1
  exact ⟨b, rfl, q G1 H1 F1 S1 t1⟩
 ·cases e2
def truD : D → Option Bool
 | .none => some false
 | .bool b => some b
 | .int i => some (i != 0)
 | .list l => some (!l.isEmpty)
 | .tuple l => some (!l.isEmpty)
 | .str _ => none
 | .dict _ => none
theorem tru_ok {H : Hp} {v : V} {d : D} {b : Bool} (h : Dp K H v d) (e : truD d = some b) : TruV K v H b := by
 cases h with
 | non => cases e; rfl
 | bl c => cases e; rfl
 | int i => cases e; rfl
 | str x => cases e
 | @lst a xs ds h1 h2 =>
  refine .inl ⟨xs, h1, ?_⟩
  have e : (!ds.isEmpty) = b := Option.some.inj e
  rw [← e]
  cases h2 <;> rfl
 | @tup a xs ds h1 h2 =>
  refine .inr (.inl ⟨xs, h1, ?_⟩)
  have e : (!ds.isEmpty) = b := Option.some.inj e
  rw [← e]
  cases h2 <;> rfl
def tTru (K : Fr) (ta : TE) : TT := fun σ H Q => ta σ H fun x H' => ∃ k, TruV K x H' k ∧ Q k H'
def fTru (f : DS → Option (RV × DS)) (ds : DS) : Option (Bool × DS) := (f ds).bind fun p => (see p.1 p.2).bind fun d => (truD d).map fun b => (b, p.2)
theorem rt_tru {t : TE} {f : DS → Option (RV × DS)} (h : RE K t f) : RT K (tTru K t) (fTru f) := by
 intro G H F σ ds b ds' Q S e q
 simp only [fTru, Option.bind_eq_some_iff, Option.map_eq_some_iff] at e
 obtain ⟨⟨r, d1⟩, e1, d, e2, b', e3, e4⟩ := e
 cases e4
 refine h G H F σ ds _ _ _ S e1 fun v G1 H1 F1 fp1 S1 t1 r1 f1 => ?_
 exact ⟨b, tru_ok (see_ok S1 r1 e2) e3, q G1 H1 F1 S1 t1⟩
def fAndT (f g : DS → Option (Bool × DS)) (ds : DS) : Option (Bool × DS) := (f ds).bind fun p => if p.1 = true then g p.2 else some (false, p.2)
def fOrT (f g : DS → Option (Bool × DS)) (ds : DS) : Option (Bool × DS) := (f ds).bind fun p => if p.1 = true then some (true, p.2) else g p.2
def fNotT (f : DS → Option (Bool × DS)) (ds : DS) : Option (Bool × DS) := (f ds).map fun p => (!p.1, p.2)
theorem rt_and {t u : TT} {f g : DS → Option (Bool × DS)} (h : RT K t f) (k : RT K u g) : RT K (tAnd t u) (fAndT f g) := by
 intro G H F σ ds b ds' Q S e q
 simp only [fAndT, Option.bind_eq_some_iff] at e
 obtain ⟨⟨c, d1⟩, e1, e2⟩ := e
 refine h G H F σ ds c d1 _ S e1 fun G1 H1 F1 S1 t1 => ?_
 cases c with
 | true => exact k G1 H1 F1 σ d1 b ds' Q S1 e2 fun G2 H2 F2 S2 t2 => q G2 H2 F2 S2 (t1.trans t2)
 | false => cases e2; exact q G1 H1 F1 S1 t1
theorem rt_or {t u : TT} {f g : DS → Option (Bool × DS)} (h : RT K t f) (k : RT K u g) : RT K (tOr t u) (fOrT f g) := by
 intro G H F σ ds b ds' Q S e q
 simp only [fOrT, Option.bind_eq_some_iff] at e
 obtain ⟨⟨c, d1⟩, e1, e2⟩ := e
 refine h G H F σ ds c d1 _ S e1 fun G1 H1 F1 S1 t1 => ?_
 cases c with
 | false => exact k G1 H1 F1 σ d1 b ds' Q S1 e2 fun G2 H2 F2 S2 t2 => q G2 H2 F2 S2 (t1.trans t2)
 | true => cases e2; exact q G1 H1 F1 S1 t1
theorem rt_not {t : TT} {f : DS → Option (Bool × DS)} (h : RT K t f) : RT K (tNot t) (fNotT f) := by
 intro G H F σ ds b ds' Q S e q
 simp only [fNotT, Option.map_eq_some_iff] at e
 obtain ⟨⟨c, d1⟩, e1, e2⟩ := e
 cases e2
 exact h G H F σ ds c _ _ S e1 fun G1 H1 F1 S1 t1 => q G1 H1 F1 S1 t1
def fYes (ds : DS) : Option (Bool × DS) := some (true, ds)
theorem rt_yes : RT K tYes fYes := by
 intro G H F σ ds b ds' Q S e q
 cases e
 exact q G H F S (Step.refl _ _ _)
def fAndV (f g : DS → Option (RV × DS)) (ds : DS) : Option (RV × DS) := (fBool f ds).bind fun p => if p.1 = true then g p.2 else some (.ov (.sh (.bool false)), p.2)
def fNotV (f : DS → Option (RV × DS)) (ds : DS) : Option (RV × DS) := (fBool f ds).map fun p => (.ov (.sh (.bool (!p.1))), p.2)
theorem re_and {t u : TE} {f g : DS → Option (RV × DS)} (h : RE K t f) (k : RE K u g) : RE K (tAndV t u) (fAndV f g) := by
 intro G H F σ ds r ds' Q S e q
 simp only [fAndV, Option.bind_eq_some_iff] at e
 obtain ⟨⟨c, d1⟩, e1, e2⟩ := e
 refine rt_bool h G H F σ ds c d1 (fun c H1 => if c = true then u σ H1 Q else Q (.bl false) H1) S e1 fun G1 H1 F1 S1 t1 => ?_
 cases c with
 | true => exact k G1 H1 F1 σ d1 r ds' Q S1 e2 fun v G2 H2 F2 fp S2 t2 r2 f2 => q v G2 H2 F2 fp S2 (t1.trans t2) r2 (f2.since t1)
 | false => cases e2; exact q _ G1 H1 F1 [] S1 t1 ⟨.bl _, rfl⟩ .nil
theorem re_not {t : TE} {f : DS → Option (RV × DS)} (h : RE K t f) : RE K (tNotV t) (fNotV f) := by
 intro G H F σ ds r ds' Q S e q
 simp only [fNotV, Option.map_eq_some_iff] at e
 obtain ⟨⟨c, d1⟩, e1, e2⟩ := e
 cases e2
 exact rt_bool h G H F σ ds c _ (fun c H1 => Q (.bl (!c)) H1) S e1 fun G1 H1 F1 S1 t1 => q _ G1 H1 F1 [] S1 t1 ⟨.bl _, rfl⟩ .nil
def fIf (c : DS → Option (Bool × DS)) (f g : DS → Option (RV × DS)) (ds : DS) : Option (RV × DS) := (c ds).bind fun p => if p.1 = true then f p.2 else g p.2
theorem re_if {tc : TT} {t u : TE} {c : DS → Option (Bool × DS)} {f g : DS → Option (RV × DS)} (hc : RT K tc c) (h : RE K t f) (k : RE K u g) : RE K (tIf tc t u) (fIf c f g) := by
 intro G H F σ ds r ds' Q S e q
 simp only [fIf, Option.bind_eq_some_iff] at e
 obtain ⟨⟨b, d1⟩, e1, e2⟩ := e
 refine hc G H F σ ds b d1 _ S e1 fun G1 H1 F1 S1 t1 => ?_
 cases b with
 | true => exact h G1 H1 F1 σ d1 r ds' Q S1 e2 fun v G2 H2 F2 fp S2 t2 r2 f2 => q v G2 H2 F2 fp S2 (t1.trans t2) r2 (f2.since t1)
 | false => exact k G1 H1 F1 σ d1 r ds' Q S1 e2 fun v G2 H2 F2 fp S2 t2 r2 f2 => q v G2 H2 F2 fp S2 (t1.trans t2) r2 (f2.since t1)
theorem same_sqt {G H : Hp} {a : Addr} {xs : List V} (s : Same G H) (h : SqT K G a xs) : SqT K H a xs := by
 rcases h with (h | ⟨o, h⟩) | h
 ·exact .inl (.inl (s _ _ h))
 ·exact .inl (.inr ⟨o, s _ _ h⟩)
 ·exact .inr h
theorem Kc.free_ne {K : Kc} {i : Nat} (h : K.free i) {o : Ob} (e : K.ob = some o) : o.slot ≠ i := by
 unfold Kc.free at h
 have h := h.1
 rw [e] at h
 exact h
theorem Kc.free_ex {K : Kc} {i : Nat} (h : K.free i) {p : Nat × Addr} (e : K.ex = some p) : p.1 ≠ i := by
 unfold Kc.free at h
 have h := h.2
 rw [e] at h
 exact h
theorem look_set {K : Kc} {H : Hp} {σ : St} {i j : Nat} {w : V} {x : Option V} (hf : K.free i) (hj : j ≠ i) (h : look K H σ j w) : look K H (σ.set i x) j w := by
 rcases h with h | ⟨h, o, a, C, dx, fs, n, h1, h2, h3⟩
 ·exact .inl (by rw [List.getElem?_set_ne (Ne.symm hj)]; exact h)
 ·refine .inr ⟨by rw [List.length_set]; exact h, o, a, C, dx, fs, n, h1, by rw [List.getElem?_set_ne (Ne.symm (Kc.free_ne hf h1))]; exact h2, ?_⟩
  rw [List.length_set]; exact h3
theorem SI.put {G H H0 : Hp} {σ : St} {ds : DS} {F : Nat → List Addr} {W0 : Addr → Prop} {v : V} {o : OV} {fp : List Addr} (S : SI K G H σ ds F) (i : Nat) (hi : i < K.n) (hf : K.free i) (r : Rep K G H v o fp) (f : Fp G H (Wf F) W0 H0 fp) : SI K G H (σ.set i (some v)) (ds.set i (some o)) (offF F i fp) where
 sub := S.sub
 gnt := S.gnt
 tab := S.tab
 sl := by rw [List.length_set]; exact S.sl
 len := by rw [List.length_set]; exact S.len
 obj := fun u e => by
  obtain ⟨h1, h2, a, dx, fs, k1, k2, k3⟩ := S.obj u e
  have hn := Kc.free_ne hf e
  refine ⟨by rw [List.getElem?_set_ne (Ne.symm hn)]; exact h1, by rw [List.length_set]; exact h2, a, dx, fs, by rw [List.getElem?_set_ne (Ne.symm hn)]; exact k1, ?_, k3⟩
  rw [List.length_set]
  have := S.len
  unfold offF; rw [if_neg (by omega)]; exact k2
 exs := fun p e => by
  obtain ⟨h1, h2⟩ := S.exs p e
  have hn := Kc.free_ex hf e
  exact ⟨by rw [List.getElem?_set_ne (Ne.symm hn)]; exact h1, by rw [List.getElem?_set_ne (Ne.symm hn)]; exact h2⟩
 rep := fun j u e => by
  by_cases hj : j = i
  ·subst hj
   have hl : j < ds.length := by
    have := (List.getElem?_eq_some_iff.mp e).1
    rwa [List.length_set] at this
   rw [List.getElem?_set_self hl] at e
   cases e
   refine ⟨v, .inl (List.getElem?_set_self (by rw [S.sl]; exact hi)), ?_⟩
   unfold offF; rw [if_pos rfl]
   exact r
  ·rw [List.getElem?_set_ne (Ne.symm hj)] at e
   obtain ⟨w, h1, h2⟩ := S.rep j u e
   refine ⟨w, look_set hf hj h1, ?_⟩
   unfold offF; rw [if_neg hj]
   exact h2
 nod := fun j => by unfold offF; split; exact f.nod; exact S.nod j
 off := fun j a ha => by
  unfold offF at ha
  split at ha
  ·exact ⟨(f.off a ha).1, (f.off a ha).2.1⟩
  ·exact S.off j a ha
 dis := fun j k a h1 h2 => by
  unfold offF at h1 h2
  split at h1
  ·split at h2
   ·rename_i e1 e2
    rw [e1, e2]
   ·exact absurd ⟨k, h2⟩ (f.off a h1).2.2
  ·split at h2
   ·exact absurd ⟨j, h1⟩ (f.off a h2).2.2
   ·exact S.dis j k a h1 h2
theorem Step.put {W0 : Addr → Prop} {G0 H0 G H : Hp} {F : Nat → List Addr} {i : Nat} {fp : List Addr} (t : Step W0 G0 H0 G H (Wf F)) (n : ∀ a ∈ fp, W0 a ∨ H0 a = none) : Step W0 G0 H0 G H (Wf (offF F i fp)) :=
 t.reown fun b hb => (wf_off hb).elim (t.own b) (n b)
def RG (K : Fr) (T : List Nat) (g : TG) (fg : D → DS → Option DS) : Prop := ∀ (G H : Hp) (F : Nat → List Addr) (σ : St) (ds : DS) (v : V) (d : D) (ds' : DS) (Q : St → Hp → Prop), SI K G H σ ds F → Dp K G v d → fg d ds = some ds' →
 (∀ σ' F', SI K G H σ' ds' F' → (∀ b, Wf F' b → Wf F b) → Off T σ σ' → Q σ' H) → g v σ H Q
def fgName (i : Nat) (d : D) (ds : DS) : Option DS := some (ds.set i (some (.sh d)))
theorem rg_name {i : Nat} (hi : i < K.n) (hf : K.free i) : RG K [i] (gName i) (fgName i) := by
 intro G H F σ ds v d ds' Q S h e q
 cases e
 exact q _ _ (S.put i hi hf (W0 := Wf F) (H0 := H) ⟨h, rfl⟩ .nil) (fun b hb => (wf_off hb).elim id fun z => nomatch z) ⟨List.length_set, fun j hj => List.getElem?_set_ne fun e => hj (by simp [e])⟩
def RGs (K : Fr) (T : List Nat) (g : TGs) (fg : List D → DS → Option DS) : Prop := ∀ (G H : Hp) (F : Nat → List Addr) (σ : St) (ds : DS) (vs : List V) (l : List D) (ds' : DS) (Q : St → Hp → Prop), SI K G H σ ds F → DpAll K G vs l → fg l ds = some ds' →
 (∀ σ' F', SI K G H σ' ds' F' → (∀ b, Wf F' b → Wf F b) → Off T σ σ' → Q σ' H) → g vs σ H Q
def fgNil (l : List D) (ds : DS) : Option DS := match l with
 | [] => some ds
 | _ => none
def fgCons (f : D → DS → Option DS) (g : List D → DS → Option DS) (l : List D) (ds : DS) : Option DS := match l with
 | d :: r => (f d ds).bind fun ds1 => g r ds1
 | [] => none
theorem rgs_nil : RGs K [] gNil fgNil := by
 intro G H F σ ds vs l ds' Q S h e q
 cases h with
 | nil => cases e; exact ⟨rfl, q σ F S (fun _ h => h) ⟨rfl, fun _ _ => rfl⟩⟩
 | cons _ _ => cases e
theorem rgs_cons {T T' : List Nat} {t : TG} {u : TGs} {f : D → DS → Option DS} {g : List D → DS → Option DS} (h1 : RG K T t f) (h2 : RGs K T' u g) : RGs K (T ++ T') (gCons t u) (fgCons f g) := by
 intro G H F σ ds vs l ds' Q S h e q
 cases h with
 | nil => cases e
 | cons a b =>
  simp only [fgCons, Option.bind_eq_some_iff] at e
  obtain ⟨d1, e1, e2⟩ := e
  refine ⟨_, _, rfl, h1 G H F σ ds _ _ d1 _ S a e1 fun σ1 F1 S1 w1 o1 => ?_⟩
  refine h2 G H F1 σ1 d1 _ _ ds' Q S1 b e2 fun σ2 F2 S2 w2 o2 => q σ2 F2 S2 (fun x hx => w1 x (w2 x hx)) ⟨o2.1.trans o1.1, fun i hi => ?_⟩
  rw [List.mem_append, not_or] at hi
  exact (o2.2 i hi.2).trans (o1.2 i hi.1)
def fgTup (n : Nat) (g : List D → DS → Option DS) (d : D) (ds : DS) : Option DS := match d with
 | .tuple l => if l.length = n then g l ds else none
 | _ => none
theorem rg_tup {T : List Nat} {n : Nat} {t : TGs} {g : List D → DS → Option DS} (h : RGs K T t g) : RG K T (gTup K n t) (fgTup n g) := by
 intro G H F σ ds v d ds' Q S hd e q
 cases hd with
 | tup h1 h2 =>
  simp only [fgTup] at e
  split at e
  ·rename_i hn
   exact ⟨_, _, rfl, same_sqt S.sub h1, by rw [dpsLen h2]; exact hn, h G H F σ ds _ _ ds' Q S h2 e q⟩
  ·cases e
 | _ => cases e
theorem SI.shut {G H : Hp} {σ : St} {ds : DS} {F : Nat → List Addr} (S : SI K G H σ ds F) (i : Nat) (hi : i < K.n) : SI K G H σ (ds.set i none) (offF F i []) where
 sub := S.sub
 gnt := S.gnt
 tab := S.tab
 sl := S.sl
 len := by rw [List.length_set]; exact S.len
 obj := fun u e => by
  obtain ⟨h1, h2, a, dx, fs, k1, k2, k3⟩ := S.obj u e
  refine ⟨?_, h2, a, dx, fs, k1, ?_, k3⟩
  ·by_cases hn : i = u.slot
   ·subst hn
    exact List.getElem?_set_self (List.getElem?_eq_some_iff.mp h1).1
   ·rw [List.getElem?_set_ne hn]; exact h1
  ·rw [List.length_set]
   have := S.len
   unfold offF; rw [if_neg (by omega)]; exact k2
 exs := fun p e => by
  obtain ⟨h1, h2⟩ := S.exs p e
  refine ⟨?_, h2⟩
  by_cases hn : i = p.1
  ·subst hn
   exact List.getElem?_set_self (List.getElem?_eq_some_iff.mp h1).1
  ·rw [List.getElem?_set_ne hn]; exact h1
 rep := fun j o e => by
  by_cases hj : j = i
  ·subst hj
   by_cases hl : j < ds.length
   ·rw [List.getElem?_set_self hl] at e; cases e
   ·rw [List.getElem?_eq_none (by rw [List.length_set]; omega)] at e; cases e
  ·rw [List.getElem?_set_ne (Ne.symm hj)] at e
   obtain ⟨v, h1, h2⟩ := S.rep j o e
   refine ⟨v, h1, ?_⟩
   unfold offF; rw [if_neg hj]
   exact h2
 nod := fun j => by unfold offF; split; exact .nil; exact S.nod j
 off := fun j a ha => by
  unfold offF at ha
  split at ha
  ·cases ha
  ·exact S.off j a ha
 dis := fun j k a h1 h2 => by
  unfold offF at h1 h2
  split at h1
  ·cases h1
  ·split at h2
   ·cases h2
   ·exact S.dis j k a h1 h2
theorem wf_shut {F : Nat → List Addr} {i : Nat} {b : Addr} (h : Wf (offF F i []) b) : Wf F b := (wf_off h).elim id fun z => nomatch z
section
variable {Z : Zc}
def fNext (ds : DS) : Option Out := some (.nx ds)
theorem rs_next : RS K Z [] tNext fNext := by
 intro G H F σ ds o E S e q
 cases e
 exact q σ G H F S (Step.refl _ _ _) (Off.refl _ _)
def fSeq (f g : DS → Option Out) (ds : DS) : Option Out := (f ds).bind fun o => match o with
 | .nx d => g d
 | o => some o
theorem rs_seq {T T' : List Nat} {t u : TS} {f g : DS → Option Out} (h : RS K Z T t f) (k : RS K Z T' u g) : RS K Z (T ++ T') (tSeq t u) (fSeq f g) := by
 intro G H F σ ds o E S e q
 simp only [fSeq, Option.bind_eq_some_iff] at e
 obtain ⟨o1, e1, e2⟩ := e
 refine h G H F σ ds o1 _ S e1 ?_
 cases o1 with
 | nx d => exact fun σ1 G1 H1 F1 S1 t1 f1 => k G1 H1 F1 σ1 d o E S1 e2 (Ended.later t1 f1.left (fun i hi => List.mem_append_right _ hi) q)
 | bk d => cases e2; exact fun σ1 G1 H1 F1 S1 t1 f1 => q σ1 G1 H1 F1 S1 t1 f1.left
 | ct d => cases e2; exact fun σ1 G1 H1 F1 S1 t1 f1 => q σ1 G1 H1 F1 S1 t1 f1.left
 | ret r d => cases e2; exact fun v σ1 G1 H1 F1 fp S1 t1 f1 => q v σ1 G1 H1 F1 fp S1 t1 f1.left
 | ex x d => cases e2; exact fun C σ1 G1 H1 F1 m S1 t1 f1 => q C σ1 G1 H1 F1 m S1 t1 f1.left
def mov : RV → DS → Option (OV × DS)
 | .ov o, ds => some (o, ds)
 | .loc i, ds => match ds[i]? with
  | some (some o) => some (o, ds.set i none)
  | _ => none
def fRet (f : DS → Option (RV × DS)) (ds : DS) : Option Out := (f ds).bind fun p => (mov p.1 p.2).map fun q => .ret q.1 q.2
theorem mov_ok {G H G0 H0 : Hp} {σ : St} {ds ds' : DS} {F : Nat → List Addr} {W0 : Addr → Prop} {v : V} {r : RV} {fp fq : List Addr} {o : OV} (S : SI K G H σ ds F) (t : Step W0 G0 H0 G H (Wf F)) (h : VRep K G H σ v r fp) (f : Fp G H (Wf F) W0 H0 (fp ++ fq)) (e : mov r ds = some (o, ds')) :
  ∃ F' fp', SI K G H σ ds' F' ∧ Step W0 G0 H0 G H (Wf F') ∧ Rep K G H v o fp' ∧ Fp G H (Wf F') W0 H0 (fp' ++ fq) ∧ (∀ b, Wf F' b → Wf F b) := by
 cases r with
 | ov u => cases e; exact ⟨F, fp, S, t, h, f, fun _ h => h⟩
 | loc i =>
  simp only [mov] at e
  split at e
  ·rename_i u hu
   cases e
   obtain ⟨w, h1, h2⟩ := S.rep i _ hu
   have h' : σ[i]? = some (some v) := h.1
   obtain rfl := look_eq h1 h'
   have hi : i < K.n := by rw [← S.sl]; exact (List.getElem?_eq_some_iff.mp h').1
   refine ⟨_, F i, S.shut i hi, t.reown fun b hb => t.own b (wf_shut hb), h2, ⟨?_, fun a ha => ?_, fun a ha => ?_⟩, fun b hb => wf_shut hb⟩
   ·exact List.nodup_append.mpr ⟨S.nod i, f.right.nod, fun x h1 y h2 e => (f.right.off y h2).2.2 ⟨i, e ▸ h1⟩⟩
   ·rcases List.mem_append.mp ha with ha | ha
    ·refine ⟨(S.off i a ha).1, (S.off i a ha).2, fun ⟨j, hj⟩ => ?_⟩
     unfold offF at hj
     split at hj
     ·cases hj
     ·rename_i hji
      exact hji (S.dis j i a hj ha)
    ·exact ⟨(f.right.off a ha).1, (f.right.off a ha).2.1, fun z => (f.right.off a ha).2.2 (wf_shut z)⟩
   ·rcases List.mem_append.mp ha with ha | ha
    ·exact t.own a ⟨i, ha⟩
    ·exact f.right.new a ha
  ·cases e
theorem rs_ret {t : TE} {f : DS → Option (RV × DS)} (h : RE K t f) : RS K Z [] (tRet t) (fRet f) := by
 intro G H F σ ds o E S e q
 simp only [fRet, Option.bind_eq_some_iff, Option.map_eq_some_iff] at e
 obtain ⟨⟨r, d1⟩, e1, ⟨o', d2⟩, e2, e3⟩ := e
 cases e3
 refine h G H F σ ds r d1 _ S e1 fun v G1 H1 F1 fp S1 t1 r1 f1 => ?_
 obtain ⟨F2, fp2, S2, t2, r2, f2, _⟩ := mov_ok (fq := []) S1 t1 r1 (by rw [List.append_nil]; exact f1) e2
 rw [List.append_nil] at f2
 exact q v σ G1 H1 F2 fp2 S2 t2 (Off.refl _ _) r2 f2
def fIfS (c : DS → Option (Bool × DS)) (f g : DS → Option Out) (ds : DS) : Option Out := (c ds).bind fun p => if p.1 = true then f p.2 else g p.2
theorem rs_if {T T' : List Nat} {tc : TT} {t u : TS} {c : DS → Option (Bool × DS)} {f g : DS → Option Out} (hc : RT K tc c) (h : RS K Z T t f) (k : RS K Z T' u g) : RS K Z (T ++ T') (tIfS tc t u) (fIfS c f g) := by
 intro G H F σ ds o E S e q
 simp only [fIfS, Option.bind_eq_some_iff] at e
 obtain ⟨⟨b, d1⟩, e1, e2⟩ := e
 refine hc G H F σ ds b d1 _ S e1 fun G1 H1 F1 S1 t1 => ?_
 cases b with
 | true => exact h G1 H1 F1 σ d1 o E S1 e2 (Ended.later t1 (Off.refl _ _) (fun i hi => List.mem_append_left _ hi) q)
 | false => exact k G1 H1 F1 σ d1 o E S1 e2 (Ended.later t1 (Off.refl _ _) (fun i hi => List.mem_append_right _ hi) q)
def fSet (i : Nat) (f : DS → Option (RV × DS)) (ds : DS) : Option Out := (f ds).bind fun p => match p.1 with
 | .ov o => some (.nx (p.2.set i (some o)))
 | .loc j => (frz (.loc j) p.2).map fun q => .nx (q.2.set i (some (.sh q.1)))
theorem rs_set {i : Nat} (hi : i < K.n) (hf : K.free i) {t : TE} {f : DS → Option (RV × DS)} (h : RE K t f) : RS K Z [i] (tAsg t (gName i)) (fSet i f) := by
 intro G H F σ ds o E S e q
 simp only [fSet, Option.bind_eq_some_iff] at e
 obtain ⟨⟨r, d1⟩, e1, e2⟩ := e
 refine h G H F σ ds r d1 _ S e1 fun v G1 H1 F1 fp S1 t1 r1 f1 => ?_
 cases r with
 | ov u => cases e2; exact q _ G1 H1 _ (S1.put i hi hf r1 f1) (t1.put f1.new) (Off.set i _ σ)
 | loc j =>
  simp only [Option.map_eq_some_iff] at e2
  obtain ⟨⟨d, d2⟩, e3, e4⟩ := e2
  cases e4
  obtain ⟨G2, F2, S2, t2, s2, dd, f2⟩ := frz_ok (fq := []) S1 t1 r1 (by rw [List.append_nil]; exact f1) e3
  exact q _ G2 H1 _ (S2.put i hi hf ⟨dd, rfl⟩ f2) (t2.put f2.new) (Off.set i _ σ)
def fAsg (g : D → DS → Option DS) (f : DS → Option (RV × DS)) (ds : DS) : Option Out := (f ds).bind fun p => (frz p.1 p.2).bind fun q => (g q.1 q.2).map fun d => .nx d
theorem rs_asg {T : List Nat} {t : TE} {f : DS → Option (RV × DS)} {g : TG} {fg : D → DS → Option DS} (h : RE K t f) (hg : RG K T g fg) : RS K Z T (tAsg t g) (fAsg fg f) := by
 intro G H F σ ds o E S e q
 simp only [fAsg, Option.bind_eq_some_iff, Option.map_eq_some_iff] at e
 obtain ⟨⟨r, d1⟩, e1, ⟨d, d2⟩, e2, d3, e3, e4⟩ := e
 cases e4
 refine h G H F σ ds r d1 _ S e1 fun v G1 H1 F1 fp S1 t1 r1 f1 => ?_
 obtain ⟨G2, F2, S2, t2, s2, dd, f2⟩ := frz_ok (fq := []) S1 t1 r1 (by rw [List.append_nil]; exact f1) e2
 exact hg G2 H1 F2 σ d2 v d d3 _ S2 dd e3 fun σ' F' S3 w3 o3 => q σ' G2 H1 F' S3 (t2.reown fun b hb => t2.own b (w3 b hb)) o3
structure Wk (K : Fr) (Gb : Hp) (J : It) (l : List D) : Prop where
 goes : ∀ i H, i < l.length → Same Gb H → J.go i H
 stops : ∀ H, Same Gb H → J.stop l.length H
 yields : ∀ i d G H x H', l[i]? = some d → Same Gb G → Same G H → J.yld i H x H' → ∃ G', Same G G' ∧ Same H H' ∧ Same G' H' ∧ (∀ b y, G' b = some y → (∃ z, G b = some z) ∨ H b = none) ∧ ((∀ b y, G b = some y → NT y) → ∀ b y, G' b = some y → NT y) ∧ (∀ b y, H' b = some y → H b = some y ∨ NT y) ∧ Dp K G' x d
def RI (K : Fr) (wi : TI) (f : DS → Option (List D × DS)) : Prop :=
 ∀ (G H : Hp) (F : Nat → List Addr) (σ : St) (ds : DS) (l : List D) (ds' : DS) (R : It → Hp → Prop), SI K G H σ ds F → f ds = some (l, ds') →
  (∀ J G' H' F', SI K G' H' σ ds' F' → Step (Wf F) G H G' H' (Wf F') → Wk K G' J l → R J H') → wi σ H R
def loopF (g : D → DS → Option DS) (body : DS → Option Out) : List D → DS → Option Out
 | [], ds => some (.nx ds)
 | d :: l, ds => (g d ds).bind fun ds1 => (body ds1).bind fun o => match o with
  | .nx ds2 => loopF g body l ds2
  | .ct ds2 => loopF g body l ds2
  | .bk ds2 => some (.nx ds2)
  | .ret r ds2 => some (.ret r ds2)
  | .ex x ds2 => some (.ex x ds2)
def fFor (fi : DS → Option (List D × DS)) (g : D → DS → Option DS) (body : DS → Option Out) (ds : DS) : Option Out := (fi ds).bind fun p => loopF g body p.1 p.2
theorem rs_for {T T' : List Nat} {wi : TI} {g : TG} {tb : TS} {fi : DS → Option (List D × DS)} {fg : D → DS → Option DS} {fb : DS → Option Out} (hi : RI K wi fi) (hg : RG K T g fg) (hb : RS K Z T' tb fb) : RS K Z (T ++ T') (tFor wi g tb) (fFor fi fg fb) := by
 intro G0 H0 F0 σ0 ds0 o E S0 e q
 simp only [fFor, Option.bind_eq_some_iff] at e
 obtain ⟨⟨l, ds1⟩, e1, e2⟩ := e
 refine hi G0 H0 F0 σ0 ds0 l ds1 _ S0 e1 fun J Gb H1 F1 S1 t1 wk => ?_
 refine ⟨fun i m σ H => m = l.length - i ∧ i ≤ l.length ∧ ∃ G F ds, SI K G H σ ds F ∧ Step (Wf F0) G0 H0 G H (Wf F) ∧ Same Gb G ∧ Off (T ++ T') σ0 σ ∧ loopF fg fb (l.drop i) ds = some o,
  ⟨l.length, by simp, Nat.zero_le _, Gb, F1, ds1, S1, t1, Same.refl Gb, Off.refl _ _, by simpa using e2⟩, ?_⟩
 rintro i m σ H ⟨rfl, hi, G, F, ds, S, t, sb, off, hl⟩
 by_cases hlt : i < l.length
 ·refine .inr ⟨wk.goes i H hlt (sb.trans S.sub), fun σ' H' => ∃ G F ds, SI K G H' σ' ds F ∧ Step (Wf F0) G0 H0 G H' (Wf F) ∧ Same Gb G ∧ Off (T ++ T') σ0 σ' ∧ loopF fg fb (l.drop (i + 1)) ds = some o,
   fun σ' H' h => ⟨l.length - (i + 1), by omega, rfl, hlt, h⟩, fun x H' y => ?_⟩
  have hd : l[i]? = some l[i] := by simp [hlt]
  obtain ⟨G', sG, sH, sGH, nw, nt, n2, dd⟩ := wk.yields i l[i] G H x H' hd sb S.sub y
  have S' := S.grow sG sH sGH nw (nt S.gnt) n2
  have t' := t.trans (Step.grow sG sH nw)
  rw [List.drop_eq_getElem_cons hlt] at hl
  simp only [loopF, Option.bind_eq_some_iff] at hl
  obtain ⟨ds2, h1, oo, h2, h3⟩ := hl
  refine hg G' H' F σ ds x l[i] ds2 _ S' dd h1 fun σ2 F2 S2 w2 o2 => ?_
  have off2 := off.trans (o2.left (T' := T'))
  have t2 : Step (Wf F0) G0 H0 G' H' (Wf F2) := t'.reown fun b hb => t'.own b (w2 b hb)
  refine hb G' H' F2 σ2 ds2 oo _ S2 h2 ?_
  cases oo with
  | nx ds3 => exact fun σ3 G3 H3 F3 S3 t3 f3 => ⟨G3, F3, ds3, S3, t2.trans t3, sb.trans (sG.trans t3.sg), off2.trans f3.right, h3⟩
  | ct ds3 => exact fun σ3 G3 H3 F3 S3 t3 f3 => ⟨G3, F3, ds3, S3, t2.trans t3, sb.trans (sG.trans t3.sg), off2.trans f3.right, h3⟩
  | bk ds3 => cases h3; exact fun σ3 G3 H3 F3 S3 t3 f3 => q σ3 G3 H3 F3 S3 (t2.trans t3) (off2.trans f3.right)
  | ret r d3 => cases h3; exact fun v σ3 G3 H3 F3 fp S3 t3 f3 r3 p3 => q v σ3 G3 H3 F3 fp S3 (t2.trans t3) (off2.trans f3.right) r3 (p3.since t2)
  | ex x d3 => cases h3; exact fun C σ3 G3 H3 F3 m S3 t3 f3 => q C σ3 G3 H3 F3 m S3 (t2.trans t3) (off2.trans f3.right)
 ·have ei : i = l.length := by omega
  subst ei
  rw [List.drop_length] at hl
  cases hl
  exact .inl ⟨wk.stops H (sb.trans S.sub), q σ G H F S t off⟩
theorem wk_list {G : Hp} {a : Addr} {xs : List V} {l : List D} (h : SqL K G a xs) (hd : DpAll K G xs l) : Wk K G (Itl K a) l where
 goes := fun i H hi s => ⟨xs, xs[i]'(by rw [dpsLen hd]; exact hi), s.seq h, by simp [dpsLen hd, hi]⟩
 stops := fun H s => ⟨xs, s.seq h, by rw [dpsLen hd]; exact Nat.le_refl _⟩
 yields := fun i d G1 H x H' hi s1 s2 y => by
  obtain ⟨rfl, y⟩ := y
  have hx := y xs ((s1.trans s2).seq h)
  obtain ⟨d', e1, e2⟩ := dpsGetV hd hx
  rw [hi] at e1
  cases e1
  exact ⟨G1, Same.refl _, Same.refl _, s2, fun b y e => .inl ⟨y, e⟩, id, fun b y e => .inl e, dpMono s1 _ _ e2⟩
theorem wk_range {G : Hp} {lo : Int} {n : Nat} : Wk K G (Itr lo n) ((List.range n).map fun (i : Nat) => PyData.int (lo + (i : Int))) where
 goes := fun i H hi _ => by
  show i < n
  simpa using hi
 stops := fun H _ => by
  show n ≤ _
  simp
 yields := fun i d G1 H x H' hi s1 s2 y => by
  obtain ⟨rfl, rfl⟩ := y
  rw [List.getElem?_map] at hi
  simp only [Option.map_eq_some_iff] at hi
  obtain ⟨j, hj, rfl⟩ := hi
  have : i = j := by
   obtain ⟨h1, h2⟩ := List.getElem?_eq_some_iff.mp hj
   simpa using h2
  subst this
  exact ⟨G1, Same.refl _, Same.refl _, s2, fun b y e => .inl ⟨y, e⟩, id, fun b y e => .inl e, .int _⟩
def fiList (f : DS → Option (RV × DS)) (ds : DS) : Option (List D × DS) := (f ds).bind fun p => (frz p.1 p.2).bind fun q => match q.1 with
 | .list l => some (l, q.2)
 | _ => none
theorem ri_list {t : TE} {f : DS → Option (RV × DS)} (h : RE K t f) : RI K (iList K t) (fiList f) := by
 intro G H F σ ds l ds' R S e q
 simp only [fiList, Option.bind_eq_some_iff] at e
 obtain ⟨⟨r, d1⟩, e1, ⟨d, d2⟩, e2, e3⟩ := e
 split at e3
 ·rename_i l' hl
  cases e3
  have hl : d = .list l := hl
  subst hl
  refine h G H F σ ds r d1 _ S e1 fun v G1 H1 F1 fp S1 t1 r1 f1 => ?_
  obtain ⟨G2, F2, S2, t2, s2, dd, f2⟩ := frz_ok (fq := []) S1 t1 r1 (by rw [List.append_nil]; exact f1) e2
  cases dd with
  | lst h1 h2 => exact ⟨_, rfl, ⟨_, S2.sub.seq h1⟩, q _ G2 H1 F2 S2 t2 (wk_list h1 h2)⟩
 ·cases e3
def fiTup (f : DS → Option (RV × DS)) (ds : DS) : Option (List D × DS) := (f ds).bind fun p => (frz p.1 p.2).bind fun q => match q.1 with
 | .tuple l => some (l, q.2)
 | _ => none
theorem wk_tup {G : Hp} {a : Addr} {xs : List V} {l : List D} (h : SqT K G a xs) (hd : DpAll K G xs l) : Wk K G (Itt K a) l where
 goes := fun i H hi s => ⟨xs, xs[i]'(by rw [dpsLen hd]; exact hi), same_sqt s h, by simp [dpsLen hd, hi]⟩
 stops := fun H s => ⟨xs, same_sqt s h, by rw [dpsLen hd]; exact Nat.le_refl _⟩
 yields := fun i d G1 H x H' hi s1 s2 y => by
  obtain ⟨rfl, y⟩ := y
  have hx := y xs (same_sqt (s1.trans s2) h)
  obtain ⟨d', e1, e2⟩ := dpsGetV hd hx
  rw [hi] at e1
  cases e1
  exact ⟨G1, Same.refl _, Same.refl _, s2, fun b y e => .inl ⟨y, e⟩, id, fun b y e => .inl e, dpMono s1 _ _ e2⟩
theorem ri_tup {t : TE} {f : DS → Option (RV × DS)} (h : RE K t f) : RI K (iTup K t) (fiTup f) := by
 intro G H F σ ds l ds' R S e q
 simp only [fiTup, Option.bind_eq_some_iff] at e
 obtain ⟨⟨r, d1⟩, e1, ⟨d, d2⟩, e2, e3⟩ := e
 split at e3
 ·rename_i l' hl
  cases e3
  have hl : d = .tuple l := hl
  subst hl
  refine h G H F σ ds r d1 _ S e1 fun v G1 H1 F1 fp S1 t1 r1 f1 => ?_
  obtain ⟨G2, F2, S2, t2, s2, dd, f2⟩ := frz_ok (fq := []) S1 t1 r1 (by rw [List.append_nil]; exact f1) e2
  cases dd with
  | tup h1 h2 => exact ⟨_, rfl, ⟨_, same_sqt S2.sub h1⟩, q _ G2 H1 F2 S2 t2 (wk_tup h1 h2)⟩
 ·cases e3
noncomputable def small62 (i : Int) : Bool := yes (-(2 ^ 62) ≤ i ∧ i < 2 ^ 62)
def rangeD (lo hi : Int) : List D := (List.range (hi - lo).toNat).map fun (i : Nat) => PyData.int (lo + (i : Int))
noncomputable def fiR1 (fa : DS → Option (List RV × DS)) (ds : DS) : Option (List D × DS) := (fa ds).bind fun p => (sees p.1 p.2).bind fun l => match l with
 | [.int j] => if small62 j then some (rangeD 0 j, p.2) else none
 | _ => none
theorem ri_r1 {t : TA} {f : DS → Option (List RV × DS)} (h : RA K t f) : RI K (iRng1 t) (fiR1 f) := by
 intro G H F σ ds l ds' R S e q
 simp only [fiR1, Option.bind_eq_some_iff] at e
 obtain ⟨⟨r, d1⟩, e1, l1, e2, e3⟩ := e
 split at e3
 ·rename_i j
  split at e3
  ·rename_i hs
   cases e3
   refine h G H F σ ds r d1 _ S e1 fun v G1 H1 F1 fp S1 t1 r1 f1 => ?_
   have dd := sees_ok S1 r1 e2
   cases dd with
   | cons a b =>
    cases b
    cases a
    have hs := of_yes hs
    refine ⟨j, rfl, hs.1, hs.2, ?_⟩
    have := q (Itr 0 j.toNat) G1 H1 F1 S1 t1
    rw [show rangeD 0 j = (List.range j.toNat).map fun (i : Nat) => PyData.int (0 + (i : Int)) by unfold rangeD; rw [Int.sub_zero]] at this
    exact this wk_range
  ·cases e3
 ·cases e3
end
end Fx
set_option Elab.async false
set_option linter.all false
set_option maxRecDepth 100000
namespace Fx
open PySem PySem.Spec L2
variable {K : Fr}
theorem szOf {n : Nat} (h : n ≤ 1000000) : n < sizeLine := Nat.lt_of_le_of_lt h (by rw [sizeLine_eq]; decide)
def wipeD (ds : DS) : List Nat → DS
 | [] => ds
 | v :: vs => (wipeD ds vs).set v none
theorem wipeD_some {ds : DS} {i : Nat} {o : OV} : ∀ {vs : List Nat}, (wipeD ds vs)[i]? = some (some o) → ds[i]? = some (some o) ∧ i ∉ vs
 | [], h => ⟨h, by simp⟩
 | v :: vs, h => by
  unfold wipeD at h
  by_cases e : v = i
  ·subst e
   by_cases hl : v < (wipeD ds vs).length
   ·rw [List.getElem?_set_self hl] at h; cases h
   ·rw [List.getElem?_eq_none (by rw [List.length_set]; omega)] at h; cases h
  ·rw [List.getElem?_set_ne e] at h
   obtain ⟨h1, h2⟩ := wipeD_some h
   exact ⟨h1, by simp [h2, Ne.symm e]⟩
theorem wipeD_length (ds : DS) : ∀ vs : List Nat, (wipeD ds vs).length = ds.length
 | [] => rfl
 | v :: vs => by unfold wipeD; rw [List.length_set, wipeD_length]
theorem wipe_outD {ds : DS} {i : Nat} : ∀ {vs : List Nat}, i ∉ vs → (wipeD ds vs)[i]? = ds[i]?
 | [], _ => rfl
 | v :: vs, h => by
  unfold wipeD
  rw [List.getElem?_set_ne (fun e => h (by simp [e])), wipe_outD fun z => h (by simp [z])]
theorem look_wipe {H : Hp} {σ : St} {j : Nat} {w : V} {vs : List Nat} (hf : ∀ i ∈ vs, K.free i) (hj : j ∉ vs) (h : look K H σ j w) : look K H (wipe σ vs) j w := by
 rcases h with h | ⟨h, o, a, C, dx, fs, n, h1, h2, h3⟩
 ·exact .inl (by rw [wipe_out hj]; exact h)
 ·refine .inr ⟨by rw [wipe_length]; exact h, o, a, C, dx, fs, n, h1, by rw [wipe_out fun z => Kc.free_ne (hf _ z) h1 rfl]; exact h2, ?_⟩
  rw [wipe_length]; exact h3
theorem look_unwipe {H : Hp} {σ : St} {j : Nat} {w : V} {vs : List Nat} (hf : ∀ i ∈ vs, K.free i) (hj : j ∉ vs) (h : look K H (wipe σ vs) j w) : look K H σ j w := by
 rcases h with h | ⟨h, o, a, C, dx, fs, n, h1, h2, h3⟩
 ·exact .inl (by rw [wipe_out hj] at h; exact h)
 ·rw [wipe_length] at h h3
  refine .inr ⟨h, o, a, C, dx, fs, n, h1, by rw [wipe_out fun z => Kc.free_ne (hf _ z) h1 rfl] at h2; exact h2, h3⟩
theorem SI.wiped {G H : Hp} {σ : St} {ds : DS} {F : Nat → List Addr} (S : SI K G H σ ds F) (vs : List Nat) (hf : ∀ i ∈ vs, K.free i) : SI K G H (wipe σ vs) (wipeD ds vs) F where
 sub := S.sub
 gnt := S.gnt
 tab := S.tab
 sl := by rw [wipe_length]; exact S.sl
 len := by rw [wipeD_length]; exact S.len
 obj := fun u e => by
  obtain ⟨h1, h2, a, dx, fs, k1, k2, k3⟩ := S.obj u e
  have hn : u.slot ∉ vs := fun z => Kc.free_ne (hf _ z) e rfl
  exact ⟨by rw [wipe_outD hn]; exact h1, by rw [wipe_length]; exact h2, a, dx, fs, by rw [wipe_out hn]; exact k1, by rw [wipeD_length]; exact k2, k3⟩
 exs := fun p e => by
  obtain ⟨h1, h2⟩ := S.exs p e
  have hn : p.1 ∉ vs := fun z => Kc.free_ex (hf _ z) e rfl
  exact ⟨by rw [wipe_outD hn]; exact h1, by rw [wipe_out hn]; exact h2⟩
 rep := fun i o e => by
  obtain ⟨h1, h2⟩ := wipeD_some e
  obtain ⟨v, h3, h4⟩ := S.rep i o h1
  exact ⟨v, look_wipe hf h2 h3, h4⟩
 nod := S.nod
 off := S.off
 dis := S.dis
def mend (d0 d : DS) : List Nat → DS
 | [] => d
 | v :: vs => (mend d0 d vs).set v ((d0[v]?).getD none)
theorem mend_length (d0 d : DS) : ∀ vs : List Nat, (mend d0 d vs).length = d.length
 | [] => rfl
 | v :: vs => by unfold mend; rw [List.length_set, mend_length]
theorem mend_at {d0 d : DS} {i : Nat} {o : OV} : ∀ {vs : List Nat}, (mend d0 d vs)[i]? = some (some o) → (i ∈ vs ∧ d0[i]? = some (some o)) ∨ (i ∉ vs ∧ d[i]? = some (some o))
 | [], h => .inr ⟨by simp, h⟩
 | v :: vs, h => by
  unfold mend at h
  by_cases e : v = i
  ·subst e
   by_cases hl : v < (mend d0 d vs).length
   ·rw [List.getElem?_set_self hl] at h
    refine .inl ⟨by simp, ?_⟩
    cases q : d0[v]? with
    | none => rw [q] at h; cases h
    | some x => rw [q] at h; exact h
   ·rw [List.getElem?_eq_none (by rw [List.length_set]; omega)] at h; cases h
  ·rw [List.getElem?_set_ne e] at h
   rcases mend_at h with ⟨h1, h2⟩ | ⟨h1, h2⟩
   ·exact .inl ⟨by simp [h1], h2⟩
   ·exact .inr ⟨by simp [h1, Ne.symm e], h2⟩
def shB : Option (Option OV) → Bool
 | some (some (.sh _)) => true
 | some (some _) => false
 | _ => true
theorem sh_of {x : Option (Option OV)} {o : OV} (h : shB x = true) (e : x = some (some o)) : ∃ d, o = .sh d := by
 subst e
 cases o with
 | sh d => exact ⟨d, rfl⟩
 | flat l => cases h
 | tree d => cases h
def turnC (g : D → DS → Option DS) (ft : DS → Option (Bool × DS)) (fe : DS → Option (RV × DS)) (vs : List Nat) (d : D) (w : DS) : Option (Option D × DS) :=
 (g d w).bind fun ds1 => (ft ds1).bind fun p => if p.1 = true then (fe p.2).bind fun q => (frz q.1 q.2).map fun z => (some z.1, wipeD z.2 vs) else some (none, wipeD p.2 vs)
def own : RV → Option D
 | .ov o => o.own?
 | .loc _ => none
def lcF (τ : D → DS → Option (Option D × DS)) : List D → DS → List D → Option (List D × DS)
 | [], w, acc => some (acc, w)
 | d :: l, w, acc => (τ d w).bind fun p => lcF τ l p.2 (acc ++ p.1.toList)
def fLcG (mk : List D → OV) (τ : List Nat → D → DS → Option (Option D × DS)) (fi : DS → Option (List D × DS)) (vs : List Nat) (ds : DS) : Option (RV × DS) := (fi ds).bind fun p =>
 if (vs.all fun i => shB p.2[i]?) && decide (p.1.length ≤ 1000000) then (lcF (τ vs) p.1 (wipeD p.2 vs) []).map fun q => (.ov (mk q.1), mend p.2 q.2 vs) else none
def fLc (fi : DS → Option (List D × DS)) (g : D → DS → Option DS) (ft : DS → Option (Bool × DS)) (fe : DS → Option (RV × DS)) (vs : List Nat) : DS → Option (RV × DS) := fLcG .flat (turnC g ft fe) fi vs
theorem wipe_off {T vs : List Nat} {σ σ' : St} (h : ∀ i ∈ T, i ∈ vs) (o : Off T (wipe σ vs) σ') : wipe σ' vs = wipe σ vs := by
 refine List.ext_getElem? fun i => ?_
 have hl : σ'.length = σ.length := by rw [o.1, wipe_length]
 by_cases hi : i ∈ vs
 ·have z : ∀ (τ : St), τ.length = σ.length → (wipe τ vs)[i]? = if i < σ.length then some none else none := fun τ e => by
   clear o
   induction vs with
   | nil => cases hi
   | cons v vs ih =>
    unfold wipe
    by_cases ev : v = i
    ·subst ev
     by_cases hlt : v < σ.length
     ·rw [List.getElem?_set_self (by rw [wipe_length, e]; exact hlt), if_pos hlt]
     ·rw [List.getElem?_eq_none (by rw [List.length_set, wipe_length, e]; omega), if_neg hlt]
    ·rw [List.getElem?_set_ne ev]
     have hm : i ∈ vs := by
      rcases List.mem_cons.mp hi with q | q
      ·exact absurd q.symm ev
      ·exact q
     clear ih
     have go : ∀ us : List Nat, i ∈ us → (wipe τ us)[i]? = if i < σ.length then some none else none := fun us => by
      induction us with
      | nil => intro q; cases q
      | cons u us ih2 =>
       intro q
       unfold wipe
       by_cases eu : u = i
       ·subst eu
        by_cases hlt : u < σ.length
        ·rw [List.getElem?_set_self (by rw [wipe_length, e]; exact hlt), if_pos hlt]
        ·rw [List.getElem?_eq_none (by rw [List.length_set, wipe_length, e]; omega), if_neg hlt]
       ·rw [List.getElem?_set_ne eu]
        rcases List.mem_cons.mp q with q | q
        ·exact absurd q.symm eu
        ·exact ih2 q
     exact go vs hm
  rw [z σ' hl, z σ rfl]
 ·rw [wipe_out hi, wipe_out hi, o.2 i fun z => hi (h i z), wipe_out hi]
theorem mend_out {d0 d : DS} {i : Nat} : ∀ {vs : List Nat}, i ∉ vs → (mend d0 d vs)[i]? = d[i]?
 | [], _ => rfl
 | v :: vs, h => by
  unfold mend
  rw [List.getElem?_set_ne (fun e => h (by simp [e])), mend_out fun z => h (by simp [z])]
theorem SI.mended {G0 H0 G H : Hp} {σ : St} {d0 w : DS} {F0 F : Nat → List Addr} {vs : List Nat} (S0 : SI K G0 H0 σ d0 F0) (sg : Same G0 G) (S : SI K G H (wipe σ vs) w F) (hv : ∀ i ∈ vs, shB d0[i]? = true) (hn : ∀ i ∈ vs, i < K.n) (hf : ∀ i ∈ vs, K.free i) :
  ∃ F', SI K G H σ (mend d0 w vs) F' ∧ ∀ b, Wf F' b → Wf F b := by
 have hsl := S.sl
 rw [wipe_length] at hsl
 refine ⟨fun i => if i ∈ vs then [] else F i, ⟨S.sub, S.gnt, S.tab, hsl, ?_, fun i o e => ?_, fun i => ?_, fun i a ha => ?_, fun i j a h1 h2 => ?_, fun u e => ?_, fun p e => ?_⟩, fun b ⟨i, hb⟩ => ?_⟩
 ·rw [mend_length]
  exact S.len
 ·rcases mend_at e with ⟨h1, h2⟩ | ⟨h1, h2⟩
  ·obtain ⟨v, h3, h4⟩ := S0.rep i o h2
   obtain ⟨d, rfl⟩ := sh_of (hv i h1) h2
   exact ⟨v, .inl (look_at h3 (by rw [hsl]; exact hn i h1)), dpMono sg _ _ h4.1, by simp [h1]⟩
  ·obtain ⟨v, h3, h4⟩ := S.rep i o h2
   refine ⟨v, look_unwipe hf h1 h3, ?_⟩
   rw [if_neg h1]
   exact h4
 ·by_cases h : i ∈ vs
  ·simp [h]
  ·simp only [h, if_false]; exact S.nod i
 ·by_cases h : i ∈ vs
  ·simp [h] at ha
  ·simp only [h, if_false] at ha; exact S.off i a ha
 ·by_cases h : i ∈ vs
  ·simp [h] at h1
  ·by_cases h' : j ∈ vs
   ·simp [h'] at h2
   ·simp only [h, if_false] at h1
    simp only [h', if_false] at h2
    exact S.dis i j a h1 h2
 ·obtain ⟨h1, h2, a, dx, fs, k1, k2, k3⟩ := S.obj u e
  have hs : u.slot ∉ vs := fun z => Kc.free_ne (hf _ z) e rfl
  rw [wipe_length] at h2
  rw [wipe_out hs] at k1
  refine ⟨by rw [mend_out hs]; exact h1, h2, a, dx, fs, k1, ?_, k3⟩
  rw [mend_length]
  have : w.length ∉ vs := fun z => by have := hn _ z; have := S.len; omega
  show (if w.length ∈ vs then [] else F w.length) = _
  rw [if_neg this]; exact k2
 ·obtain ⟨h1, h2⟩ := S.exs p e
  have hs : p.1 ∉ vs := fun z => Kc.free_ex (hf _ z) e rfl
  exact ⟨by rw [mend_out hs]; exact h1, by rw [wipe_out hs] at h2; exact h2⟩
 ·by_cases h : i ∈ vs
  ·simp [h] at hb
  ·simp only [h, if_false] at hb; exact ⟨i, hb⟩
structure Acc (K : Fr) (P : Hp → Hp → Addr → List D → List Addr → Prop) : Prop where
 lst : ∀ {G H A es fp}, P G H A es fp → ∃ xs, H A = some (.lst xs) ∧ xs.length = es.length
 zero : ∀ {G H A}, H A = some (.lst []) → P G H A [] []
 step : ∀ {G H G' H' A es fp}, P G H A es fp → Same G G' → (∀ b ∈ A :: fp, ∀ x, H b = some x → H' b = some x) → P G' H' A es fp
def AccC (K : Fr) (G H : Hp) (A : Addr) (es : List D) (fp : List Addr) : Prop := ∃ xs, H A = some (.lst xs) ∧ DpAll K G xs es ∧ fp = []
def AccM (G H : Hp) (A : Addr) (es : List D) (fp : List Addr) : Prop := ∃ xs, H A = some (.lst xs) ∧ TrAll H xs es fp
theorem trsLen {H : Hp} : ∀ {vs : List V} {ds : List D} {fp : List Addr}, TrAll H vs ds fp → vs.length = ds.length
 | _, _, _, .nil => rfl
 | _, _, _, .cons _ h => by simp [trsLen h]
theorem accC : Acc K (AccC K) where
 lst := fun ⟨xs, h1, h2, _⟩ => ⟨xs, h1, dpsLen h2⟩
 zero := fun h => ⟨[], h, .nil, rfl⟩
 step := fun ⟨xs, h1, h2, h3⟩ s k => ⟨xs, k _ (by simp) _ h1, dpsMono s _ _ h2, h3⟩
theorem accM : Acc K AccM where
 lst := fun ⟨xs, h1, h2⟩ => ⟨xs, h1, trsLen h2⟩
 zero := fun h => ⟨[], h, .nil⟩
 step := fun ⟨xs, h1, h2⟩ s k => ⟨xs, k _ (by simp) _ h1, trsMono _ _ _ h2 fun b hb x e => k b (by simp [hb]) x e⟩
def LcI (K : Fr) (P : Hp → Hp → Addr → List D → List Addr → Prop) (W0 : Addr → Prop) (G0 H0 Gb : Hp) (σw : St) (A : Addr) (w : DS) (es : List D) (H : Hp) : Prop :=
 ∃ G F fp, SI K G H σw w F ∧ Step W0 G0 H0 G H (Wf F) ∧ Same Gb G ∧ P G H A es fp ∧ Fp G H (Wf F) W0 H0 (A :: fp)
theorem lc_loop {P : Hp → Hp → Addr → List D → List Addr → Prop} (hP : Acc K P) {J : It} {g : TG} {tt : TT} {te : TE} {vs : List Nat} {τ : D → DS → Option (Option D × DS)} {W0 : Addr → Prop} {G0 H0 Gb : Hp} {σ : St} {A : Addr} {l : List D} {Q : VK}
  (wk : Wk K Gb J l) (hl : l.length ≤ 1000000)
  (turn : ∀ d w (p : Option D × DS) es x H (Nx : Hp → Prop), τ d w = some p → es.length ≤ 1000000 → (∃ G F fp, SI K G H (wipe σ vs) w F ∧ Step W0 G0 H0 G H (Wf F) ∧ Same Gb G ∧ P G H A es fp ∧ Fp G H (Wf F) W0 H0 (A :: fp) ∧ Dp K G x d) →
   (∀ H', LcI K P W0 G0 H0 Gb (wipe σ vs) A p.2 (es ++ p.1.toList) H' → Nx H') → g x (wipe σ vs) H fun σ2 H2 => wipe σ2 vs = wipe σ vs ∧ tt σ2 H2 fun b H3 =>
    if b = true then te σ2 H3 fun y H4 => ∃ acc, H4 A = some (.lst acc) ∧ acc.length < sizeLine ∧ Nx (upd H4 A (.lst (acc ++ [y]))) else Nx H3)
  {w : DS} {es : List D} {w' : DS} (he : lcF τ l w [] = some (es, w')) {H1 : Hp} (h0 : LcI K P W0 G0 H0 Gb (wipe σ vs) A w [] H1) (hd : ∀ H, LcI K P W0 G0 H0 Gb (wipe σ vs) A w' es H → Q (.ref A) H) :
  ∃ W : Nat → Nat → Hp → Prop, (∃ m, W 0 m H1) ∧ ∀ i m H, W i m H →
   (J.stop i H ∧ Q (.ref A) H) ∨ (J.go i H ∧ ∃ Nx : Hp → Prop, (∀ H', Nx H' → ∃ m', m' < m ∧ W (i + 1) m' H') ∧ ∀ x H', J.yld i H x H' → g x (wipe σ vs) H' fun σ2 H2 => wipe σ2 vs = wipe σ vs ∧ tt σ2 H2 fun b H3 =>
    if b = true then te σ2 H3 fun y H4 => ∃ acc, H4 A = some (.lst acc) ∧ acc.length < sizeLine ∧ Nx (upd H4 A (.lst (acc ++ [y]))) else Nx H3) := by
 refine ⟨fun i m H => m = l.length - i ∧ i ≤ l.length ∧ ∃ wi ei, ei.length ≤ i ∧ lcF τ (l.drop i) wi ei = some (es, w') ∧ LcI K P W0 G0 H0 Gb (wipe σ vs) A wi ei H,
  ⟨l.length, by simp, Nat.zero_le _, w, [], Nat.le_refl _, by simpa using he, h0⟩, ?_⟩
 rintro i m H ⟨rfl, hi, wi, ei, hei, hrun, G, F, fp, S, t, sb, hp, hf⟩
 by_cases hlt : i < l.length
 ·rw [List.drop_eq_getElem_cons hlt] at hrun
  simp only [lcF, Option.bind_eq_some_iff] at hrun
  obtain ⟨p, h1, h2⟩ := hrun
  refine .inr ⟨wk.goes i H hlt (sb.trans S.sub), fun H' => LcI K P W0 G0 H0 Gb (wipe σ vs) A p.2 (ei ++ p.1.toList) H', fun H' q => ⟨l.length - (i + 1), by omega, rfl, hlt, p.2, _, ?_, h2, q⟩, fun x H' y => ?_⟩
  ·rw [List.length_append]
   have : p.1.toList.length ≤ 1 := by cases p.1 <;> simp
   omega
  ·have hd' : l[i]? = some l[i] := by simp [hlt]
   obtain ⟨G', sG, sH, sGH, nw, nt, n2, dd⟩ := wk.yields i l[i] G H x H' hd' sb S.sub y
   have st := Step.grow (W := Wf F) sG sH nw
   exact turn l[i] wi p ei x H' _ h1 (by omega) ⟨G', F, fp, S.grow sG sH sGH nw (nt S.gnt) n2, t.trans st, sb.trans sG, hP.step hp sG fun b hb x e => sH b x e, hf.step st, dd⟩ fun _ q => q
 ·have ei' : i = l.length := by omega
  subst ei'
  rw [List.drop_length] at hrun
  cases hrun
  exact .inl ⟨wk.stops H (sb.trans S.sub), hd H ⟨G, F, fp, S, t, sb, hp, hf⟩⟩
theorem SI.poke {G H : Hp} {σ : St} {ds : DS} {F : Nat → List Addr} (S : SI K G H σ ds F) {A : Addr} {o u : HO} (hA : H A = some u) (uA : NT u) (gA : G A = none) (nA : ¬ Wf F A) (ho : NT o) : SI K G (upd H A o) σ ds F := by
 have ne : ∀ i a, a ∈ F i → a ≠ A := fun i a ha z => nA ⟨i, z ▸ ha⟩
 have sN : ∀ b x, b ≠ A → H b = some x → upd H A o b = some x := fun b x h e => by rw [upd_ne h]; exact e
 have objA : ∀ u, K.ob = some u → ∀ a, σ[u.slot]? = some (some (.ref a)) → a ≠ A := fun u e a k => by
  obtain ⟨h1, h2, a', dx, fs, k1, k2, k3⟩ := S.obj u e
  rw [k] at k1; cases k1
  exact ne ds.length a (by rw [k2]; simp)
 refine ⟨fun b x e => ?_, S.gnt, ?_, S.sl, S.len, fun i v e => ?_, S.nod, fun i a ha => ?_, S.dis, fun u e => ?_, S.exs⟩
 ·have : b ≠ A := fun z => by subst z; rw [gA] at e; cases e
  exact sN b x this (S.sub b x e)
 ·refine ⟨fun p hp => ?_, fun b ps e => (nt_upd ho b _ e).elim (S.tab.2 b ps) fun z => absurd rfl (z.1 ps)⟩
  obtain ⟨ps, h1, h2, h3⟩ := S.tab.1 p hp
  have n1 : p.1 ≠ A := fun z => by rw [z, hA] at h1; cases h1; exact uA.1 ps rfl
  refine ⟨ps, sN _ _ n1 h1, h2, fun pos cv hc => ?_⟩
  obtain ⟨c, e1, e2⟩ := h3 pos cv hc
  by_cases n2 : c = A
  ·subst n2
   rw [hA] at e2; cases e2
   exact absurd rfl (uA.2 _)
  ·exact ⟨c, e1, sN _ _ n2 e2⟩
 ·obtain ⟨w, h1, h2⟩ := S.rep i v e
  refine ⟨w, ?_, h2.mono (Same.refl G) fun b hb x hx => sN b x (ne i b hb) hx⟩
  rcases h1 with h | ⟨h, o', a, C, dx, fs, n, q1, q2, q3, q4⟩
  ·exact .inl h
  ·exact .inr ⟨h, o', a, C, dx, fs, n, q1, q2, sN _ _ (objA o' q1 a q2) q3, q4⟩
 ·obtain ⟨h1, x, h2⟩ := S.off i a ha
  exact ⟨h1, x, sN a x (ne i a ha) h2.1, h2.2⟩
 ·obtain ⟨h1, h2, a, dx, fs, k1, k2, k3, k4, k5⟩ := S.obj u e
  exact ⟨h1, h2, a, dx, fs, k1, k2, sN _ _ (ne ds.length a (by rw [k2]; simp)) k3, sN _ _ (ne ds.length dx (by rw [k2]; simp)) k4, k5⟩
theorem Step.poke {W0 W : Addr → Prop} {G0 H0 G H : Hp} (t : Step W0 G0 H0 G H W) {A : Addr} {o : HO} (n : W0 A ∨ H0 A = none) : Step W0 G0 H0 G (upd H A o) W :=
 ⟨t.sg, fun b x e nw n2 => by
  have : b ≠ A := fun z => by
   subst z
   rcases n with n | n
   ·exact nw n
   ·rw [n] at e; cases e
  rw [upd_ne this]; exact t.keep b x e nw n2, fun b x e => by
  by_cases h : b = A
  ·subst h; exact ⟨o, upd_same⟩
  ·rw [upd_ne h]; exact t.dom b x e, t.new, t.own⟩
theorem re_lc {T vs : List Nat} {wi : TI} {g : TG} {tt : TT} {te : TE} {fi : DS → Option (List D × DS)} {fg : D → DS → Option DS} {ft : DS → Option (Bool × DS)} {fe : DS → Option (RV × DS)} (hT : ∀ i ∈ T, i ∈ vs) (hn : ∀ i ∈ vs, i < K.n) (hfr : ∀ i ∈ vs, K.free i) (hi : RI K wi fi) (hg : RG K T g fg) (ht : RT K tt ft) (he : RE K te fe) :
  RE K (tLc wi g tt te vs) (fLc fi fg ft fe vs) := by
 intro G0 H0 F0 σ ds r ds' Q S0 e q
 simp only [fLc, fLcG, Option.bind_eq_some_iff] at e
 obtain ⟨⟨l, ds1⟩, e1, e2⟩ := e
 split at e2
 ·rename_i hc
  simp only [Bool.and_eq_true, List.all_eq_true, decide_eq_true_eq] at hc
  obtain ⟨hv, hl⟩ := hc
  simp only [Option.map_eq_some_iff] at e2
  obtain ⟨⟨es, w'⟩, e3, e4⟩ := e2
  cases e4
  refine hi G0 H0 F0 σ ds l ds1 _ S0 e1 fun J Gb H1 F1 S1 t1 wk A hA => ?_
  have N := new_list (ys := []) (z := []) (S1.wiped vs hfr) t1 hA .nil
  obtain ⟨S2, t2, r2, f2⟩ := N
  refine lc_loop (σ := σ) (W0 := Wf F0) (G0 := G0) (H0 := H0) (Gb := Gb) accC wk hl ?_ e3 ⟨Gb, F1, [], S2, t2, Same.refl Gb, ⟨[], upd_same, .nil, rfl⟩, f2⟩ ?_
  ·rintro d w p es x H Nx hτ hes ⟨G, F, fp, S, t, sb, ⟨xs, hx1, hx2, rfl⟩, hf, dd⟩ nx
   simp only [turnC, Option.bind_eq_some_iff] at hτ
   obtain ⟨d1, k1, ⟨b, d2⟩, k2, k3⟩ := hτ
   refine hg G H F _ w x d d1 _ S dd k1 fun σ2 F2 S2 w2 o2 => ⟨wipe_off hT o2, ?_⟩
   have tt2 : Step (Wf F0) G0 H0 G H (Wf F2) := t.reown fun b hb => t.own b (w2 b hb)
   have hf2 : Fp G H (Wf F2) (Wf F0) H0 [A] := ⟨hf.nod, fun a ha => ⟨(hf.off a ha).1, (hf.off a ha).2.1, fun z => (hf.off a ha).2.2 (w2 a z)⟩, hf.new⟩
   refine ht G H F2 σ2 d1 b d2 _ S2 k2 fun G3 H3 F3 S3 t3 => ?_
   have hf3 := hf2.step t3
   have hx3 : H3 A = some (.lst xs) := hf2.keeps t3 A (by simp) _ hx1
   have ww : wipe σ2 vs = wipe σ vs := wipe_off hT o2
   cases b with
   | true =>
    simp only [if_true, Option.bind_eq_some_iff, Option.map_eq_some_iff] at k3 ⊢
    obtain ⟨⟨rv, d3⟩, k4, ⟨z, d4⟩, k5, k6⟩ := k3
    cases k6
    refine he G3 H3 F3 σ2 d2 rv d3 _ S3 k4 fun v G4 H4 F4 fp4 S4 t4 r4 f4 => ?_
    have hf4 := hf3.step t4
    have hx4 : H4 A = some (.lst xs) := hf3.keeps t4 A (by simp) _ hx3
    have tall := (tt2.trans t3).trans t4
    have f5 : Fp G4 H4 (Wf F4) (Wf F0) H0 (fp4 ++ [A]) := (f4.since (tt2.trans t3)).app hf4 fun y h1 h2 => by
     obtain rfl : y = A := by simpa using h2
     rcases f4.new y h1 with z | z
     ·exact (hf3.off y (by simp)).2.2 z
     ·rw [hx3] at z; cases z
    obtain ⟨G5, F5, S5, t5, s5, dd5, f6⟩ := frz_ok S4 tall r4 f5 k5
    have fa := f6.off A (by simp)
    refine ⟨xs, hx4, by rw [dpsLen hx2]; exact szOf hes, nx _ ⟨G5, F5, [], ?_, t5.poke (f6.new A (by simp)), ?_, ⟨xs ++ [v], upd_same, ?_, rfl⟩, ⟨f6.nod, fun a ha => ?_, f6.new⟩⟩⟩
    ·have := (S5.poke (o := .lst (xs ++ [v])) hx4 nt_lst fa.1 fa.2.2 nt_lst).wiped vs hfr
     rw [ww] at this
     exact this
    ·exact ((sb.trans t3.sg).trans t4.sg).trans s5
    ·exact dpsApp (dpsMono ((t3.sg.trans t4.sg).trans s5) _ _ hx2) (.cons dd5 .nil)
    ·obtain rfl : a = A := by simpa using ha
     exact ⟨fa.1, ⟨_, upd_same, nt_lst⟩, fa.2.2⟩
   | false =>
    simp only [Bool.false_eq_true, if_false] at k3 ⊢
    cases k3
    refine nx _ ⟨G3, F3, [], ?_, tt2.trans t3, sb.trans t3.sg, ⟨xs, hx3, ?_, rfl⟩, hf3⟩
    ·have := S3.wiped vs hfr
     rw [ww] at this
     exact this
    ·simpa using dpsMono t3.sg _ _ hx2
  ·rintro H ⟨G, F, fp, S, t, sb, ⟨xs, hx1, hx2, rfl⟩, hf⟩
   obtain ⟨F', S', w'⟩ := SI.mended S1 sb S hv hn hfr
   refine q (.ref A) G H F' [A] S' (t.reown fun b hb => t.own b (w' b hb)) ⟨A, xs, rfl, hx1, hx2, rfl⟩ ⟨hf.nod, fun a ha => ⟨(hf.off a ha).1, (hf.off a ha).2.1, fun z => (hf.off a ha).2.2 (w' a z)⟩, hf.new⟩
 ·cases e2
end Fx
set_option Elab.async false
set_option linter.all false
set_option maxRecDepth 100000
namespace Fx
open PySem PySem.Spec L2
variable {K : Fr}
theorem OpR.alt {X : Cx} {f : Value → Value → Sem Value} {r r' : R2} (h : OpR X f r) (h' : OpR X f r') : OpR X f (fun x y H Q => r x y H Q ∨ r' x y H Q) := by
 intro pins s σ H x y v u Q I rx ry q
 rcases q with q | q
 ·exact h pins s σ H x y v u Q I rx ry q
 ·exact h' pins s σ H x y v u Q I rx ry q
def gI (c : Int → Int → Bool) (f : Int → Int → D) (d e : D) : Option D := match d, e with
 | .int i, .int j => if c i j = true then some (f i j) else none
 | _, _ => none
theorem vop_I {C : Int → Int → Prop} {g : Int → Int → V} {c : Int → Int → Bool} {f : Int → Int → D} (h : ∀ i j, c i j = true → C i j) (hs : ∀ i j, Sc (g i j) (f i j)) : VOp K (rI C g) (gI c f) := by
 intro H x y d e z Q hd he hz q
 unfold gI at hz
 split at hz
 ·split at hz
  ·rename_i i j hc
   cases hz
   cases hd
   cases he
   exact ⟨i, j, rfl, rfl, h i j hc, q _ (hs i j)⟩
  ·cases hz
 ·cases hz
@[simp] def cT : Int → Int → Bool := fun _ _ => true
theorem vop_I0 {g : Int → Int → V} {f : Int → Int → D} (hs : ∀ i j, Sc (g i j) (f i j)) : VOp K (rI0 g) (gI cT f) := by
 intro H x y d e z Q hd he hz q
 unfold gI at hz
 split at hz
 ·split at hz
  ·rename_i i j hc
   cases hz
   cases hd
   cases he
   exact ⟨i, j, rfl, rfl, q _ (hs i j)⟩
  ·cases hz
 ·cases hz
def CFd (i j : Int) : Prop := j ≠ 0 ∧ Builtin.divisionGoesByPylong i j = false
noncomputable def cFd (i j : Int) : Bool := yes (CFd i j)
section
variable {X : Cx}
def rCatL (K : PySem.W.Frag) : R2 := fun x y H Q => ∃ a b xs ys, x = .ref a ∧ y = .ref b ∧ L2.SqL K H a xs ∧ L2.SqL K H b ys ∧ xs.length + ys.length ≤ sizeLine ∧ ∀ p, H p = none → Q (.ref p) (upd H p (.lst (xs ++ ys)))
theorem op_catL : OpR X (binaryOp .Add) (rCatL X.K) := by
 intro pins s σ H x y v u Q I rx ry h
 obtain ⟨a, b, xs, ys, rfl, rfl, ha, hb, hz, q⟩ := h
 cases rx
 cases ry
 obtain ⟨us, r1, ⟨⟨c1, dd1, da1, sl1⟩, n1, ho1, hc1, hn1, hd1⟩, _⟩ := I.list ha
 obtain ⟨ws, r2, ⟨⟨c2, dd2, da2, sl2⟩, n2, ho2, hc2, hn2, hd2⟩, _⟩ := I.list hb
 simp only at hc1 hd1 hc2 hd2 hn1 hn2
 subst hc1 hd1 hc2 hd2 hn1 hn2
 refine concat_meets ⟨_, ho1, rfl⟩ ⟨_, ho2, rfl⟩ PySem.noFill_list_add PySem.seq_list_add PySem.F.slot_list_add PySem.F.entry_list_add (PySem.F.args_list_add_2 _ _)
  (PyProof.Rows.list_addW a b us.toArray ws.toArray n1 n2 none none sl1 sl2 (by
   rw [List.size_toArray, List.size_toArray, ← r1.length, ← r2.length]
   exact hz)) ⟨ho1, ho2, ?_⟩
 have ea : us.toArray ++ ws.toArray = (us ++ ws).toArray := by simp
 rw [ea]
 exact ⟨.ref _, _, I.lnew (t' := s.toks) (r1.append r2) (by rw [List.length_append]; exact hz), rfl, q _ I.fresh⟩
end
def items (r : RV) (ds : DS) : Option (List D × DS) := match r with
 | .ov o => match o.view with
  | .list l => some (l, ds)
  | .tuple l => some (l, ds)
  | _ => none
 | .loc i => match ds[i]? with
  | some (some (.flat l)) => some (l, ds)
  | some (some o) => match o.view with
   | .list l => some (l, ds.set i (some (.sh (.list l))))
   | .tuple l => some (l, ds.set i (some (.sh (.tuple l))))
   | _ => none
  | _ => none
def isT (r : RV) (ds : DS) : Bool := match see r ds with
 | some (.tuple _) => true
 | _ => false
theorem items_ok {G H G0 H0 : Hp} {σ : St} {ds ds' : DS} {F : Nat → List Addr} {W0 : Addr → Prop} {v : V} {r : RV} {fp fq : List Addr} {l : List D} (S : SI K G H σ ds F) (t : Step W0 G0 H0 G H (Wf F)) (h : VRep K G H σ v r fp) (f : Fp G H (Wf F) W0 H0 (fp ++ fq))
  (e : items r ds = some (l, ds')) : ∃ G' F' a xs, SI K G' H σ ds' F' ∧ Step W0 G0 H0 G' H (Wf F') ∧ Same G G' ∧ v = .ref a ∧ DpAll K G' xs l ∧ Fp G' H (Wf F') W0 H0 fq ∧ ((see r ds = some (.list l) ∧ SqL K H a xs) ∨ (see r ds = some (.tuple l) ∧ SqT K H a xs)) := by
 have fin : ∀ {d : D} {ds'' : DS}, frz r ds = some (d, ds'') → ∀ l, (d = .list l ∨ d = .tuple l) → ∃ G' F' a xs, SI K G' H σ ds'' F' ∧ Step W0 G0 H0 G' H (Wf F') ∧ Same G G' ∧ v = .ref a ∧ DpAll K G' xs l ∧ Fp G' H (Wf F') W0 H0 fq ∧ ((see r ds = some (.list l) ∧ SqL K H a xs) ∨ (see r ds = some (.tuple l) ∧ SqT K H a xs)) := by
  intro d ds'' hz l hl
  obtain ⟨G2, F2, S2, t2, s2, dd, f2⟩ := frz_ok S t h f hz
  have hs := (frz_see hz).1
  rcases hl with rfl | rfl
  ·cases dd with
   | lst h1 h2 => exact ⟨G2, F2, _, _, S2, t2, s2, rfl, h2, f2, .inl ⟨hs, S2.sub.seq h1⟩⟩
  ·cases dd with
   | tup h1 h2 => exact ⟨G2, F2, _, _, S2, t2, s2, rfl, h2, f2, .inr ⟨hs, same_sqt S2.sub h1⟩⟩
 cases r with
 | ov o =>
  have hz : frz (.ov o) ds = some (o.view, ds) := rfl
  simp only [items] at e
  split at e
  ·rename_i l' hl
   cases e
   exact fin hz _ (.inl hl)
  ·rename_i l' hl
   cases e
   exact fin hz _ (.inr hl)
  ·cases e
 | loc i =>
  simp only [items] at e
  split at e
  ·rename_i l' hl
   cases e
   obtain ⟨w, h1, a, xs, h2, h3, h4, h5⟩ := S.rep i _ hl
   have h' : σ[i]? = some (some v) := h.1
   obtain rfl := look_eq h1 h'
   exact ⟨G, F, a, xs, S, t, Same.refl G, h2, h4, f.right, .inl ⟨by simp [see, hl, OV.view], SqL.of h3⟩⟩
  ·rename_i o hne ho
   have hz : frz (.loc i) ds = some (o.view, ds.set i (some (.sh o.view))) := by simp [frz, ho]
   split at e
   ·rename_i l' hl
    cases e
    rw [hl] at hz
    exact fin hz _ (.inl rfl)
   ·rename_i l' hl
    cases e
    rw [hl] at hz
    exact fin hz _ (.inr rfl)
   ·cases e
  ·cases e
theorem items_see {r : RV} {ds ds' : DS} {l : List D} (e : items r ds = some (l, ds')) : ∀ r', see r' ds' = see r' ds := by
 cases r with
 | ov o =>
  simp only [items] at e
  split at e <;> first | (cases e; exact fun _ => rfl) | cases e
 | loc i =>
  simp only [items] at e
  split at e
  ·cases e; exact fun _ => rfl
  ·rename_i o hne ho
   have hz : frz (.loc i) ds = some (o.view, ds.set i (some (.sh o.view))) := by simp [frz, ho]
   split at e
   ·rename_i l' hl
    cases e
    rw [hl] at hz
    exact (frz_see hz).2
   ·rename_i l' hl
    cases e
    rw [hl] at hz
    exact (frz_see hz).2
   ·cases e
  ·cases e
def rAddX (K : PySem.W.Frag) : R2 := fun x y H Q => rI0 (fun i j => .int (i + j)) x y H Q ∨ rCatL K x y H Q
theorem op_addX {X : Cx} : OpR X (binaryOp .Add) (rAddX X.K) := OpR.alt L2.op_add op_catL
def fCat (a b : RV) (ds : DS) : Option (RV × DS) := (items a ds).bind fun p => (items b p.2).bind fun q => if isT a ds || isT b ds || decide (1000000 < p.1.length + q.1.length) then none else some (.ov (.flat (p.1 ++ q.1)), q.2)
def fAdd (fa fb : DS → Option (RV × DS)) (ds : DS) : Option (RV × DS) := (fa ds).bind fun p => (fb p.2).bind fun q => match see p.1 q.2, see q.1 q.2 with
 | some (.int i), some (.int j) => some (.ov (.sh (.int (i + j))), q.2)
 | _, _ => fCat p.1 q.1 q.2
theorem fps_app {G1 H1 G2 H2 H : Hp} {W W1 W2 : Addr → Prop} {fp1 fp2 : List Addr} {G : Hp} (f1 : Fp G1 H1 W1 W H fp1) (t1 : Step W G H G1 H1 W1) (t2 : Step W1 G1 H1 G2 H2 W2) (f2 : Fp G2 H2 W2 W1 H1 fp2) : Fp G2 H2 W2 W H (fp1 ++ fp2) :=
 (f1.step t2).app (f2.since t1) fun x h1 h2 => by
  obtain ⟨_, ⟨y, hy⟩, nw⟩ := f1.off x h1
  rcases f2.new x h2 with z | z
  ·exact nw z
  ·rw [hy.1] at z; cases z
theorem re_add {ta tb : TE} {fa fb : DS → Option (RV × DS)} (ha : RE K ta fa) (hb : RE K tb fb) : RE K (tOp (rAddX K.fr) ta tb) (fAdd fa fb) := by
 intro G H F σ ds rv ds' Q S e q
 simp only [fAdd, Option.bind_eq_some_iff] at e
 obtain ⟨⟨ra, d1⟩, e1, ⟨rb, d2⟩, e2, e3⟩ := e
 refine ha G H F σ ds ra d1 _ S e1 fun v1 G1 H1 F1 fp1 S1 t1 r1 f1 => ?_
 refine hb G1 H1 F1 σ d1 rb d2 _ S1 e2 fun v2 G2 H2 F2 fp2 S2 t2 r2 f2 => ?_
 have t12 := t1.trans t2
 have ff := fps_app f1 t1 t2 f2
 split at e3
 ·rename_i i j hi hj
  cases e3
  have x1 := see_ok S2 (r1.step f1 t2) hi
  have x2 := see_ok S2 r2 hj
  cases x1
  cases x2
  exact .inl ⟨i, j, rfl, rfl, q _ G2 H2 F2 [] S2 t12 ⟨.int _, rfl⟩ .nil⟩
 ·simp only [fCat, Option.bind_eq_some_iff] at e3
  obtain ⟨⟨l, d3⟩, e4, ⟨m, d4⟩, e5, e6⟩ := e3
  split at e6
  ·cases e6
  ·rename_i hn
   cases e6
   rw [Bool.or_eq_true, Bool.or_eq_true, not_or, not_or] at hn
   obtain ⟨⟨n1, n2⟩, n3⟩ := hn
   obtain ⟨G3, F3, a, xs, S3, t3, s3, rfl, dd3, f3, alt⟩ := items_ok S2 t12 (r1.step f1 t2) ff e4
   have r2' : VRep K G3 H2 σ v2 rb fp2 := by
    cases rb with
    | ov o => exact Rep.mono r2 s3 fun _ _ _ e => e
    | loc i => exact r2
   obtain ⟨G4, F4, b, ys, S4, t4, s4, rfl, dd4, f4, alt2⟩ := items_ok (fq := []) S3 t3 r2' (by rw [List.append_nil]; exact f3) e5
   have k1 : SqL K H2 a xs := by
    rcases alt with ⟨_, h⟩ | ⟨h, _⟩
    ·exact h
    ·exact absurd (show isT _ _ = true by unfold isT; rw [h]) n1
   have k2 : SqL K H2 b ys := by
    rcases alt2 with ⟨_, h⟩ | ⟨h, _⟩
    ·exact h
    ·rw [items_see e4] at h
     exact absurd (show isT _ _ = true by unfold isT; rw [h]) n2
   have hlen : ¬ 1000000 < l.length + m.length := fun z => n3 (decide_eq_true z)
   refine .inr ⟨a, b, xs, ys, rfl, rfl, k1, k2, ?_, fun p hp => ?_⟩
   ·rw [dpsLen dd3, dpsLen dd4]
    exact Nat.le_of_lt (szOf (by omega))
   ·obtain ⟨S5, t5, r5, f5⟩ := new_list S4 t4 hp (dpsApp (dpsMono s4 _ _ dd3) dd4)
    exact q _ _ _ _ _ S5 t5 r5 f5
def rMulX (K : PySem.W.Frag) : R2 := fun x y H Q => rI CMulX (fun i j => .int (i * j)) x y H Q ∨ rRep x y H Q
theorem op_mulXX {X : Cx} : OpR X (binaryOp .Mult) (rMulX X.K) := OpR.alt L2.op_mulX L2.op_rep
noncomputable def mulOk (i j : Int) : Bool := yes (CMulX i j)
theorem mulOk_ok {i j : Int} (h : mulOk i j = true) : CMulX i j := of_yes h
theorem mulOk_of {i j : Int} (h : CMulX i j) : mulOk i j = true := yes_of h
def repD (l : List D) (j : Int) : List D := (List.replicate j.toNat l).flatten
noncomputable def repOk (l : List D) (j : Int) : Bool := yes (j ≤ 1000000 ∧ l.length ≤ 1 ∧ -1000000 ≤ j)
theorem repOk_ok {l : List D} {j : Int} (h : repOk l j = true) : j ≤ 1000000 ∧ l.length ≤ 1 ∧ -1000000 ≤ j := of_yes h
theorem repOk_of {l : List D} {j : Int} (h : j ≤ 1000000 ∧ l.length ≤ 1 ∧ -1000000 ≤ j) : repOk l j = true := yes_of h
noncomputable def fMul (fa fb : DS → Option (RV × DS)) (ds : DS) : Option (RV × DS) := (fa ds).bind fun p => (fb p.2).bind fun q => match see q.1 q.2 with
 | some (.int j) => match p.1 with
  | .ov (.flat l) => if repOk l j = true then some (.ov (.flat (repD l j)), q.2) else none
  | r => match see r q.2 with
   | some (.int i) => if mulOk i j = true then some (.ov (.sh (.int (i * j))), q.2) else none
   | _ => none
 | _ => none
theorem dpsRep {G : Hp} {xs : List V} {l : List D} (h : DpAll K G xs l) : ∀ n : Nat, DpAll K G (List.replicate n xs).flatten (List.replicate n l).flatten
 | 0 => .nil
 | n + 1 => by
  rw [List.replicate_succ, List.replicate_succ, List.flatten_cons, List.flatten_cons]
  exact dpsApp h (dpsRep h n)
theorem re_mul {ta tb : TE} {fa fb : DS → Option (RV × DS)} (ha : RE K ta fa) (hb : RE K tb fb) : RE K (tOp (rMulX K.fr) ta tb) (fMul fa fb) := by
 intro G H F σ ds rv ds' Q S e q
 simp only [fMul, Option.bind_eq_some_iff] at e
 obtain ⟨⟨ra, d1⟩, e1, ⟨rb, d2⟩, e2, e3⟩ := e
 refine ha G H F σ ds ra d1 _ S e1 fun v1 G1 H1 F1 fp1 S1 t1 r1 f1 => ?_
 refine hb G1 H1 F1 σ d1 rb d2 _ S1 e2 fun v2 G2 H2 F2 fp2 S2 t2 r2 f2 => ?_
 have t12 := t1.trans t2
 split at e3
 ·rename_i j hj
  have x2 := see_ok S2 r2 hj
  cases x2
  split at e3
  ·rename_i l hl
   have hl : ra = .ov (.flat l) := hl
   subst hl
   split at e3
   ·rename_i hc0
    have hc := repOk_ok hc0
    cases e3
    obtain ⟨a, xs, rfl, h1, h2, h3⟩ := r1.step f1 t2
    refine .inr ⟨a, j, xs, rfl, rfl, h1, by omega, by omega, ?_, fun p hp => ?_⟩
    ·have := dpsLen h2
     have e1 : xs.length * j.toNat ≤ 1 * j.toNat := Nat.mul_le_mul_right _ (by omega)
     have e2 : 1000000 < sizeLine := szOf (Nat.le_refl _)
     omega
    ·obtain ⟨S5, t5, r5, f5⟩ := new_list S2 t12 hp (dpsRep h2 j.toNat)
     exact q _ _ _ _ _ S5 t5 r5 f5
   ·cases e3
  ·split at e3
   ·rename_i i hi
    split at e3
    ·rename_i hc
     cases e3
     have x1 := see_ok S2 (r1.step f1 t2) hi
     cases x1
     exact .inl ⟨i, j, rfl, rfl, mulOk_ok hc, q _ G2 H2 F2 [] S2 t12 ⟨.int _, rfl⟩ .nil⟩
    ·cases e3
   ·cases e3
 ·cases e3
def rIxX (K : PySem.W.Frag) : R2 := fun x y H Q => L2.rIxL K x y H Q ∨ L2.rIxT K x y H Q
theorem ix_X {X : Cx} : IxR X (rIxX X.K) := ix_list.or ix_tup
def fIx (fa fb : DS → Option (RV × DS)) (ds : DS) : Option (RV × DS) := (fa ds).bind fun p => (fb p.2).bind fun q => match see q.1 q.2 with
 | some (.int k) => match see p.1 q.2 with
  | some (.list l) => (atI l k).bind fun e => if isSc e = true then some (.ov (.sh e), q.2) else (items p.1 q.2).map fun w => (.ov (.sh e), w.2)
  | some (.tuple l) => (atI l k).bind fun e => if isSc e = true then some (.ov (.sh e), q.2) else (items p.1 q.2).map fun w => (.ov (.sh e), w.2)
  | _ => none
 | _ => none
theorem atI_dp {G : Hp} {xs : List V} {l : List D} {k : Int} {e : D} (h : DpAll K G xs l) (hk : atI l k = some e) : ∃ v, atI xs k = some v ∧ Dp K G v e := by
 unfold atI at hk ⊢
 rw [dpsLen h]
 simp only [Option.bind_eq_some_iff] at hk
 obtain ⟨j, h1, h2⟩ := hk
 obtain ⟨v, h3, h4⟩ := dpsGet h h2
 exact ⟨v, by rw [h1]; exact h3, h4⟩
theorem re_ix {ta tb : TE} {fa fb : DS → Option (RV × DS)} (ha : RE K ta fa) (hb : RE K tb fb) : RE K (tOp (rIxX K.fr) ta tb) (fIx fa fb) := by
 intro G H F σ ds rv ds' Q S e q
 simp only [fIx, Option.bind_eq_some_iff] at e
 obtain ⟨⟨ra, d1⟩, e1, ⟨rb, d2⟩, e2, e3⟩ := e
 refine ha G H F σ ds ra d1 _ S e1 fun v1 G1 H1 F1 fp1 S1 t1 r1 f1 => ?_
 refine hb G1 H1 F1 σ d1 rb d2 _ S1 e2 fun v2 G2 H2 F2 fp2 S2 t2 r2 f2 => ?_
 have t12 := t1.trans t2
 split at e3
 ·rename_i k hk
  have x2 := see_ok S2 r2 hk
  cases x2
  split at e3
  ·rename_i l hl
   simp only [Option.bind_eq_some_iff] at e3
   obtain ⟨el, h1, h2⟩ := e3
   split at h2
   ·rename_i hsc
    cases h2
    have x1 := see_ok S2 (r1.step f1 t2) hl
    cases x1 with
    | lst g1 g2 =>
     obtain ⟨v, g3, g4⟩ := atI_dp g2 h1
     exact .inl ⟨_, _, k, v, rfl, rfl, g1, g3, q v G2 H2 F2 [] S2 t12 ⟨(scOf g4 hsc).dp, rfl⟩ .nil⟩
   ·simp only [Option.map_eq_some_iff] at h2
    obtain ⟨⟨l', d3⟩, h3, h4⟩ := h2
    cases h4
    obtain ⟨G3, F3, a, xs, S3, t3, s3, rfl, dd3, f3, alt⟩ := items_ok S2 t12 (r1.step f1 t2) (fps_app f1 t1 t2 f2) h3
    rcases alt with ⟨h5, h6⟩ | ⟨h5, _⟩
    ·rw [hl] at h5
     cases h5
     obtain ⟨v, g3, g4⟩ := atI_dp dd3 h1
     exact .inl ⟨_, _, k, v, rfl, rfl, h6, g3, q v G3 H2 F3 [] S3 t3 ⟨g4, rfl⟩ .nil⟩
    ·rw [hl] at h5
     cases h5
  ·rename_i l hl
   simp only [Option.bind_eq_some_iff] at e3
   obtain ⟨el, h1, h2⟩ := e3
   split at h2
   ·rename_i hsc
    cases h2
    have x1 := see_ok S2 (r1.step f1 t2) hl
    cases x1 with
    | tup g1 g2 =>
     obtain ⟨v, g3, g4⟩ := atI_dp g2 h1
     exact .inr ⟨_, _, k, v, rfl, rfl, g1, g3, q v G2 H2 F2 [] S2 t12 ⟨(scOf g4 hsc).dp, rfl⟩ .nil⟩
   ·simp only [Option.map_eq_some_iff] at h2
    obtain ⟨⟨l', d3⟩, h3, h4⟩ := h2
    cases h4
    obtain ⟨G3, F3, a, xs, S3, t3, s3, rfl, dd3, f3, alt⟩ := items_ok S2 t12 (r1.step f1 t2) (fps_app f1 t1 t2 f2) h3
    rcases alt with ⟨h5, _⟩ | ⟨h5, h6⟩
    ·rw [hl] at h5
     cases h5
    ·rw [hl] at h5
     cases h5
     obtain ⟨v, g3, g4⟩ := atI_dp dd3 h1
     exact .inr ⟨_, _, k, v, rfl, rfl, h6, g3, q v G3 H2 F3 [] S3 t3 ⟨g4, rfl⟩ .nil⟩
  ·cases e3
 ·cases e3
def cutD (l : List D) (lo hi : Option Int) : List D := (l.drop (HT.sIx l.length 0 lo)).take (HT.sIx l.length l.length hi - HT.sIx l.length 0 lo)
theorem cut_dp {G : Hp} {xs : List V} {l : List D} (h : DpAll K G xs l) (lo hi : Option Int) : DpAll K G (cutV xs lo hi) (cutD l lo hi) := by
 unfold cutV cutD
 rw [dpsLen h]
 exact dpsTake _ (dpsDrop _ h)
def RO (K : Fr) (t : TO) (f : DS → Option (Option Int × DS)) : Prop :=
 ∀ (G H : Hp) (F : Nat → List Addr) (σ : St) (ds : DS) (o : Option Int) (ds' : DS) (Q : Option Int → Hp → Prop), SI K G H σ ds F → f ds = some (o, ds') →
  (∀ G' H' F', SI K G' H' σ ds' F' → Step (Wf F) G H G' H' (Wf F') → Q o H') → t σ H Q
def fNoPart (ds : DS) : Option (Option Int × DS) := some (none, ds)
def fPart (f : DS → Option (RV × DS)) (ds : DS) : Option (Option Int × DS) := (f ds).bind fun p => match see p.1 p.2 with
 | some (.int i) => some (some i, p.2)
 | _ => none
theorem ro_none : RO K tNoPart fNoPart := by
 intro G H F σ ds o ds' Q S e q
 cases e
 exact q G H F S (Step.refl _ _ _)
theorem ro_some {t : TE} {f : DS → Option (RV × DS)} (h : RE K t f) : RO K (tPart t) (fPart f) := by
 intro G H F σ ds o ds' Q S e q
 simp only [fPart, Option.bind_eq_some_iff] at e
 obtain ⟨⟨r, d1⟩, e1, e2⟩ := e
 split at e2
 ·rename_i i hi
  cases e2
  refine h G H F σ ds r d1 _ S e1 fun v G1 H1 F1 fp1 S1 t1 r1 f1 => ?_
  have x1 := see_ok S1 r1 hi
  cases x1
  exact ⟨i, rfl, q G1 H1 F1 S1 t1⟩
 ·cases e2
def fSl (fe : DS → Option (RV × DS)) (fl fh : DS → Option (Option Int × DS)) (ds : DS) : Option (RV × DS) := (fe ds).bind fun p => (fl p.2).bind fun a => (fh a.2).bind fun b =>
 (items p.1 b.2).bind fun w => if isT p.1 b.2 = true then none else some (.ov (.flat (cutD w.1 a.1 b.1)), w.2)
theorem re_sl {te : TE} {tl th : TO} {fe : DS → Option (RV × DS)} {fl fh : DS → Option (Option Int × DS)} (he : RE K te fe) (hl : RO K tl fl) (hh : RO K th fh) : RE K (tSl (rSlL K) te tl th) (fSl fe fl fh) := by
 intro G H F σ ds rv ds' Q S e q
 simp only [fSl, Option.bind_eq_some_iff] at e
 obtain ⟨⟨r, d1⟩, e1, ⟨lo, d2⟩, e2, ⟨hi, d3⟩, e3, ⟨l, d4⟩, e4, e5⟩ := e
 split at e5
 ·cases e5
 ·rename_i hT
  cases e5
  refine he G H F σ ds r d1 _ S e1 fun v1 G1 H1 F1 fp1 S1 t1 r1 f1 => ?_
  refine hl G1 H1 F1 σ d1 lo d2 _ S1 e2 fun G2 H2 F2 S2 t2 => ?_
  refine hh G2 H2 F2 σ d2 hi d3 _ S2 e3 fun G3 H3 F3 S3 t3 => ?_
  have r3 := (r1.step f1 t2).step (f1.step t2) t3
  have f3 := (f1.step t2).step t3
  obtain ⟨G4, F4, a, xs, S4, t4, s4, rfl, dd4, f4, alt⟩ := items_ok (fq := []) S3 ((t1.trans t2).trans t3) r3 (by rw [List.append_nil]; exact f3) e4
  rcases alt with ⟨h5, h6⟩ | ⟨h5, _⟩
  ·refine ⟨a, xs, rfl, h6, fun p hp => ?_⟩
   obtain ⟨S5, t5, r5, f5⟩ := new_list S4 t4 hp (cut_dp dd4 lo hi)
   exact q _ _ _ _ _ S5 t5 r5 f5
  ·exact absurd (show isT _ _ = true by unfold isT; rw [h5]) hT
def rListOf (K : PySem.W.Frag) : List V → Hp → VK → Prop := fun xs H Q => ∃ p ys, xs = [.ref p] ∧ (L2.SqL K H p ys ∨ L2.SqT K H p ys) ∧ ∀ l, H l = none → Q (.ref l) (upd H l (.lst ys))
def fListOf (fa : DS → Option (List RV × DS)) (ds : DS) : Option (RV × DS) := (fa ds).bind fun p => match p.1 with
 | [r] => (items r p.2).map fun w => (.ov (.flat w.1), w.2)
 | _ => none
theorem re_listOf {t : TA} {fa : DS → Option (List RV × DS)} (ha : RA K t fa) : RE K (tCB (rListOf K.fr) t) (fListOf fa) := by
 intro G H F σ ds rv ds' Q S e q
 simp only [fListOf, Option.bind_eq_some_iff] at e
 obtain ⟨⟨rs, d1⟩, e1, e2⟩ := e
 split at e2
 ·rename_i r hr
  have hr : rs = [r] := hr
  subst hr
  simp only [Option.map_eq_some_iff] at e2
  obtain ⟨⟨l, d2⟩, e3, e4⟩ := e2
  cases e4
  refine ha G H F σ ds _ d1 _ S e1 fun v1 G1 H1 F1 fp1 S1 t1 r1 f1 => ?_
  cases r1 with
  | cons a b =>
   cases b
   obtain ⟨G4, F4, x, xs, S4, t4, s4, rfl, dd4, f4, alt⟩ := items_ok S1 t1 a f1 e3
   refine ⟨x, xs, rfl, alt.imp (·.2) (·.2), fun p hp => ?_⟩
   obtain ⟨S5, t5, r5, f5⟩ := new_list S4 t4 hp dd4
   exact q _ _ _ _ _ S5 t5 r5 f5
 ·cases e2
theorem vop_eq : VOp K (rEqD K) (fun d e => if SeqAt.shaped d && SeqAt.shaped e then some (.bool (PyData.eqv d e)) else none) := by
 intro H x y d e z Q hd he hz q
 simp only at hz
 split at hz
 ·rename_i hs
  cases hz
  rw [Bool.and_eq_true] at hs
  exact ⟨d, e, hd, he, hs.1, hs.2, q _ (.bl _)⟩
 ·cases hz
theorem vop_ne : VOp K (rNeD K) (fun d e => if SeqAt.shaped d && SeqAt.shaped e then some (.bool (!PyData.eqv d e)) else none) := by
 intro H x y d e z Q hd he hz q
 simp only at hz
 split at hz
 ·rename_i hs
  cases hz
  rw [Bool.and_eq_true] at hs
  exact ⟨d, e, hd, he, hs.1, hs.2, q _ (.bl _)⟩
 ·cases hz
def gEq (d e : D) : Option D := if SeqAt.shaped d && SeqAt.shaped e then some (.bool (PyData.eqv d e)) else none
def gNe (d e : D) : Option D := if SeqAt.shaped d && SeqAt.shaped e then some (.bool (!PyData.eqv d e)) else none
def gLen (l : List D) : Option D := match l with
 | [.list xs] => some (.int xs.length)
 | [.tuple xs] => some (.int xs.length)
 | _ => none
theorem vca_len : VCa K (fun xs H Q => ∃ p ys, xs = [.ref p] ∧ (SqL K H p ys ∨ SqT K H p ys) ∧ Q (.int ys.length) H) gLen := by
 intro H xs l z Q h hz q
 unfold gLen at hz
 split at hz
 ·cases hz
  cases h with
  | cons a b =>
   cases b
   cases a with
   | lst h1 h2 => exact ⟨_, _, rfl, .inl h1, by rw [dpsLen h2]; exact q _ (.int _)⟩
 ·cases hz
  cases h with
  | cons a b =>
   cases b
   cases a with
   | tup h1 h2 => exact ⟨_, _, rfl, .inr h1, by rw [dpsLen h2]; exact q _ (.int _)⟩
 ·cases hz
def g1I (f : Int → D) (l : List D) : Option D := match l with
 | [.int i] => some (f i)
 | _ => none
theorem vca_abs : VCa K (fun xs H Q => ∃ i, xs = [.int i] ∧ Q (.int (if i < 0 then -i else i)) H) (g1I fun i => .int (if i < 0 then -i else i)) := by
 intro H xs l z Q h hz q
 unfold g1I at hz
 split at hz
 ·cases hz
  cases h with
  | cons a b =>
   cases b
   cases a
   exact ⟨_, rfl, q _ (.int _)⟩
 ·cases hz
def gInt (l : List D) : Option D := match l with
 | [.int i] => some (.int i)
 | [.bool b] => some (.int (if b then 1 else 0))
 | _ => none
theorem vca_int : VCa K (fun xs H Q => (∃ i, xs = [.int i] ∧ Q (.int i) H) ∨ ∃ k, xs = [.bl k] ∧ Q (.int (if k then 1 else 0)) H) gInt := by
 intro H xs l z Q h hz q
 unfold gInt at hz
 split at hz
 ·cases hz
  cases h with
  | cons a b =>
   cases b
   cases a
   exact .inl ⟨_, rfl, q _ (.int _)⟩
 ·cases hz
  cases h with
  | cons a b =>
   cases b
   cases a
   exact .inr ⟨_, rfl, q _ (.int _)⟩
 ·cases hz
end Fx
set_option Elab.async false
set_option linter.all false
set_option maxRecDepth 100000
namespace Fx
open PySem PySem.Spec L2
variable {K : Fr}
def rEqX (K : PySem.W.Frag) : R2 := fun x y H Q => L2.rEqD K x y H Q ∨ L2.rEq x y H Q
def rNeX (K : PySem.W.Frag) : R2 := fun x y H Q => L2.rNeD K x y H Q ∨ L2.rNe x y H Q
theorem op_eqX {X : Cx} (hu : X.A.units + 64 < cLine) : OpR X (compareOp .Eq) (rEqX X.K) := OpR.alt (op_eqD hu) L2.op_eq
theorem op_neX {X : Cx} (hu : X.A.units + 64 < cLine) : OpR X (compareOp .NotEq) (rNeX X.K) := OpR.alt (op_neD hu) L2.op_ne
def gEqX (d e : D) : Option D := match d, e with
 | .str x, .str y => some (.bool (decide (x = y)))
 | d, e => gEq d e
def gNeX (d e : D) : Option D := match d, e with
 | .str x, .str y => some (.bool (!decide (x = y)))
 | d, e => gNe d e
theorem dec_strV {x y : Str} : decide (V.str x = V.str y) = decide (x = y) := by
 by_cases h : x = y
 ·subst h; simp
 ·have : ¬ V.str x = V.str y := fun z => h (V.str.inj z)
  rw [decide_eq_false h, decide_eq_false this]
theorem vop_eqX : VOp K (rEqX K.fr) gEqX := by
 intro H x y d e z Q hd he hz q
 unfold gEqX at hz
 split at hz
 ·cases hz
  cases hd
  cases he
  exact .inr ⟨rfl, by rw [dec_strV]; exact q _ (.bl _)⟩
 ·exact .inl (vop_eq H x y _ _ z Q hd he hz q)
theorem vop_neX : VOp K (rNeX K.fr) gNeX := by
 intro H x y d e z Q hd he hz q
 unfold gNeX at hz
 split at hz
 ·cases hz
  cases hd
  cases he
  exact .inr ⟨rfl, by rw [dec_strV]; exact q _ (.bl _)⟩
 ·exact .inl (vop_ne H x y _ _ z Q hd he hz q)
def tyD : D → Option String
 | .none => some "NoneType"
 | .bool _ => some "bool"
 | .int _ => some "int"
 | .str _ => some "str"
 | .list _ => some "list"
 | .tuple _ => some "tuple"
 | .dict _ => none
theorem ty_of {H : Hp} {v : V} {d : D} {t : String} (h : Dp K H v d) (e : tyD d = some t) : TyX K H v (.type t) := by
 cases h with
 | non => cases e; exact .base .non
 | bl b => cases e; exact .base (.bl b)
 | int i => cases e; exact .base (.int i)
 | str x => cases e; exact .base (.str x)
 | lst h1 _ =>
  cases e
  rcases h1 with (h | ⟨o, h⟩) | ⟨o, its, n, h, c, _⟩
  ·exact .base (.lst h)
  ·exact .base (.frz h)
  ·exact .kList h c
 | tup h1 _ =>
  cases e
  rcases h1 with (h | ⟨o, h⟩) | ⟨o, its, n, h, c, _⟩
  ·exact .base (.tup h)
  ·exact .fTuple h
  ·exact .kTuple h c
def fIsi (n : String) (f : DS → Option (RV × DS)) (ds : DS) : Option (RV × DS) := (f ds).bind fun p => (see p.1 p.2).bind fun d => (tyD d).bind fun t => (kitB t n).map fun b => (.ov (.sh (.bool b)), p.2)
theorem re_isi {n : String} {te : TE} {f : DS → Option (RV × DS)} (h : RE K te f) : RE K (tCB (rIsi K) (tCons te (tCons (tC (.ty n)) tNil))) (fIsi n f) := by
 intro G H F σ ds rv ds' Q S e q
 simp only [fIsi, Option.bind_eq_some_iff, Option.map_eq_some_iff] at e
 obtain ⟨⟨r, d1⟩, e1, d, e2, t, e3, b, e4, e5⟩ := e
 cases e5
 refine h G H F σ ds r _ _ S e1 fun v G1 H1 F1 fp1 S1 t1 r1 f1 => ?_
 exact ⟨v, .ty n, .type t, .type n, b, rfl, .ty n, ty_of (see_ok S1 r1 e2) e3, kit_ty e4, q _ G1 H1 F1 [] S1 t1 ⟨.bl b, rfl⟩ .nil⟩
def gNeg (d : D) : Option D := match d with
 | .int i => some (.int (-i))
 | _ => none
theorem vun_neg : VUn K (rU fun i => .int (-i)) gNeg := by
 intro H x d z Q hd hz q
 unfold gNeg at hz
 split at hz
 ·cases hz
  cases hd
  exact ⟨_, rfl, q _ (.int _)⟩
 ·cases hz
noncomputable def rgOk (i j c : Int) : Bool := yes (((c ≠ 0 ∧ c.natAbs < 1073741824) ∧ Builtin.Range.small i j c = true) ∧ 0 ≤ Builtin.Range.rangeSize i j c)
def fApp (i : Nat) (f : DS → Option (RV × DS)) (ds : DS) : Option Out := match ds[i]? with
 | some (some (.flat _)) => (f ds).bind fun p => (frz p.1 p.2).bind fun q => match q.2[i]? with
  | some (some (.flat l)) => if l.length ≤ 1000000 then some (.nx (q.2.set i (some (.flat (l ++ [q.1]))))) else none
  | _ => none
 | _ => none
theorem SI.change {G H H0 : Hp} {σ : St} {ds : DS} {F : Nat → List Addr} (S : SI K G H σ ds F) {i : Nat} {l m : List D} {a : Addr} {xs ys : List V} (hi : ds[i]? = some (some (.flat l))) (hσ : look K H σ i (.ref a)) (hx : H a = some (.lst xs)) (hF : F i = [a]) (hy : DpAll K G ys m) :
  SI K G (upd H a (.lst ys)) σ (ds.set i (some (.flat m))) F := by
 have il : i < ds.length := (List.getElem?_eq_some_iff.mp hi).1
 have ne : ∀ j b, j ≠ i → b ∈ F j → b ≠ a := fun j b hj hb z => by
  subst z
  exact hj (S.dis j i b hb (by simp [hF]))
 have sN : ∀ b x, b ≠ a → H b = some x → upd H a (.lst ys) b = some x := fun b x h e => by rw [upd_ne h]; exact e
 have objA : ∀ u, K.ob = some u → ∀ c, σ[u.slot]? = some (some (.ref c)) → c ≠ a := fun u e c k => by
  obtain ⟨h1, h2, a', dx, fs, k1, k2, k3⟩ := S.obj u e
  rw [k] at k1; cases k1
  exact ne ds.length c (by omega) (by rw [k2]; simp)
 have lk : ∀ j w, look K H σ j w → look K (upd H a (.lst ys)) σ j w := fun j w h => by
  rcases h with h | ⟨h, o', c, C, dx, fs, n, q1, q2, q3, q4⟩
  ·exact .inl h
  ·exact .inr ⟨h, o', c, C, dx, fs, n, q1, q2, sN _ _ (objA o' q1 c q2) q3, q4⟩
 refine ⟨fun b x e => ?_, S.gnt, ?_, S.sl, by rw [List.length_set]; exact S.len, fun j u e => ?_, S.nod, fun j b hb => ?_, S.dis, fun u e => ?_, fun p e => ?_⟩
 ·have : b ≠ a := fun z => by
   subst z
   rw [(S.off i b (by simp [hF])).1] at e; cases e
  exact sN b x this (S.sub b x e)
 ·refine ⟨fun p hp => ?_, fun b ps e => (nt_upd nt_lst b _ e).elim (S.tab.2 b ps) fun z => absurd rfl (z.1 ps)⟩
  obtain ⟨ps, h1, h2, h3⟩ := S.tab.1 p hp
  have n1 : p.1 ≠ a := fun z => by rw [z, hx] at h1; cases h1
  refine ⟨ps, sN _ _ n1 h1, h2, fun pos cv hc => ?_⟩
  obtain ⟨c, e1, e2⟩ := h3 pos cv hc
  have n2 : c ≠ a := fun z => by rw [z, hx] at e2; cases e2
  exact ⟨c, e1, sN _ _ n2 e2⟩
 ·by_cases hj : j = i
  ·subst hj
   rw [List.getElem?_set_self il] at e
   cases e
   exact ⟨_, lk _ _ hσ, a, ys, rfl, upd_same, hy, hF⟩
  ·rw [List.getElem?_set_ne (Ne.symm hj)] at e
   obtain ⟨w, h1, h2⟩ := S.rep j u e
   exact ⟨w, lk _ _ h1, h2.mono (Same.refl G) fun b hb x hx' => sN b x (ne j b hj hb) hx'⟩
 ·obtain ⟨h1, x, h2⟩ := S.off j b hb
  refine ⟨h1, ?_⟩
  by_cases z : b = a
  ·subst z; exact ⟨_, upd_same, nt_lst⟩
  ·exact ⟨x, sN _ _ z h2.1, h2.2⟩
 ·obtain ⟨h1, h2, c, dx, fs, k1, k2, k3, k4, k5⟩ := S.obj u e
  have hs : i ≠ u.slot := fun z => by rw [z, h1] at hi; cases hi
  refine ⟨by rw [List.getElem?_set_ne hs]; exact h1, h2, c, dx, fs, k1, by rw [List.length_set]; exact k2, sN _ _ (ne ds.length c (by omega) (by rw [k2]; simp)) k3, sN _ _ (ne ds.length dx (by omega) (by rw [k2]; simp)) k4, k5⟩
 ·obtain ⟨h1, h2⟩ := S.exs p e
  have hs : i ≠ p.1 := fun z => by rw [z, h1] at hi; cases hi
  exact ⟨by rw [List.getElem?_set_ne hs]; exact h1, h2⟩
theorem slot_flat {G H : Hp} {σ : St} {ds : DS} {F : Nat → List Addr} (S : SI K G H σ ds F) {i : Nat} {l : List D} (hn : i < K.n) (hi : ds[i]? = some (some (.flat l))) : ∃ a xs, σ[i]? = some (some (.ref a)) ∧ H a = some (.lst xs) ∧ DpAll K G xs l ∧ F i = [a] := by
 obtain ⟨v, h1, a, xs, rfl, h2, h3, h4⟩ := S.rep i _ hi
 exact ⟨a, xs, look_at h1 (by rw [S.sl]; exact hn), h2, h3, h4⟩
variable {Z : Zc}
theorem rs_app {i : Nat} (hn : i < K.n) {t : TE} {f : DS → Option (RV × DS)} (h : RE K t f) : RS K Z [] (tDrop (tBM K "list" rAppend (tVar i) (tCons t tNil))) (fApp i f) := by
 intro G H F σ ds o E S e q
 simp only [fApp] at e
 split at e
 ·rename_i l0 hl0
  simp only [Option.bind_eq_some_iff] at e
  obtain ⟨⟨r, d1⟩, e1, ⟨d, d2⟩, e2, e3⟩ := e
  split at e3
  ·rename_i l hl
   split at e3
   ·rename_i hlen
    cases e3
    obtain ⟨a0, xs0, k1, k2, k3, k4⟩ := slot_flat S hn hl0
    refine ⟨.ref a0, k1, .inl ⟨rfl, xs0, SqL.of k2⟩, ?_⟩
    refine h G H F σ ds r d1 _ S e1 fun v G1 H1 F1 fp1 S1 t1 r1 f1 => ?_
    obtain ⟨G2, F2, S2, t2, s2, dd, f2⟩ := frz_ok (fq := []) S1 t1 r1 (by rw [List.append_nil]; exact f1) e2
    obtain ⟨a, xs, m1, m2, m3, m4⟩ := slot_flat S2 hn hl
    rw [k1] at m1
    cases m1
    refine ⟨a0, xs, v, rfl, rfl, m2, by rw [dpsLen m3]; exact szOf hlen, ?_⟩
    exact q σ G2 _ F2 (S2.change (H0 := H) hl (.inl k1) m2 m4 (dpsApp m3 (.cons dd .nil))) (t2.poke (t2.own a0 ⟨i, by simp [m4]⟩)) (Off.refl _ _)
   ·cases e3
  ·cases e3
 ·cases e
def fSetIx (i : Nat) (f fk : DS → Option (RV × DS)) (ds : DS) : Option Out := (f ds).bind fun p => (frz p.1 p.2).bind fun q => match q.2[i]? with
 | some (some (.flat _)) => (fk q.2).bind fun w => match see w.1 w.2, w.2[i]? with
  | some (.int k), some (some (.flat l)) => (ixN l.length k).map fun j => .nx (w.2.set i (some (.flat (l.set j q.1))))
  | _, _ => none
 | _ => none
theorem rs_setIx {i : Nat} (hn : i < K.n) {t tk : TE} {f fk : DS → Option (RV × DS)} (h : RE K t f) (hk : RE K tk fk) : RS K Z [] (tAsg t (gSub (tVar i) tk rSetL)) (fSetIx i f fk) := by
 intro G H F σ ds o E S e q
 simp only [fSetIx, Option.bind_eq_some_iff] at e
 obtain ⟨⟨r, d1⟩, e1, ⟨d, d2⟩, e2, e3⟩ := e
 split at e3
 ·rename_i l0 hl0
  simp only [Option.bind_eq_some_iff] at e3
  obtain ⟨⟨rk, d3⟩, e4, e5⟩ := e3
  split at e5
  ·rename_i k l hk' hl
   simp only [Option.map_eq_some_iff] at e5
   obtain ⟨j, e6, e7⟩ := e5
   cases e7
   refine h G H F σ ds r d1 _ S e1 fun v G1 H1 F1 fp1 S1 t1 r1 f1 => ?_
   obtain ⟨G2, F2, S2, t2, s2, dd, f2⟩ := frz_ok (fq := []) S1 t1 r1 (by rw [List.append_nil]; exact f1) e2
   obtain ⟨a0, xs0, k1, k2, k3, k4⟩ := slot_flat S2 hn hl0
   refine ⟨.ref a0, k1, ?_⟩
   refine hk G2 H1 F2 σ d2 rk d3 _ S2 e4 fun vk G3 H3 F3 fp3 S3 t3 r3 f3 => ?_
   have xk := see_ok S3 r3 hk'
   cases xk
   obtain ⟨a, xs, m1, m2, m3, m4⟩ := slot_flat S3 hn hl
   rw [k1] at m1
   cases m1
   refine ⟨a0, xs, k, j, rfl, rfl, m2, by rw [dpsLen m3]; exact e6, ?_⟩
   have t23 := t2.trans t3
   exact q σ G3 _ F3 (S3.change (H0 := H) hl (.inl k1) m2 m4 (dpsSet (dpMono t3.sg _ _ dd) j m3)) (t23.poke (t23.own a0 ⟨i, by simp [m4]⟩)) (Off.refl _ _)
  ·cases e5
 ·cases e3
end Fx
set_option Elab.async false
set_option linter.all false
set_option maxRecDepth 100000
namespace Fx
open PySem PySem.Spec L2
def Kc.freeB (K : Kc) (i : Nat) : Bool := (match K.ob with
 | none => true
 | some o => decide (o.slot ≠ i)) && (match K.ex with
 | none => true
 | some p => decide (p.1 ≠ i))
theorem Kc.freeB_ok {K : Kc} {i : Nat} (h : K.freeB i = true) : K.free i := by
 obtain ⟨fr, tb, ob, n, ex⟩ := K
 unfold Kc.freeB at h
 unfold Kc.free
 rw [Bool.and_eq_true] at h
 obtain ⟨h1, h2⟩ := h
 refine ⟨?_, ?_⟩
 ·cases ob with
  | none => trivial
  | some o => exact of_decide_eq_true h1
 ·cases ex with
  | none => trivial
  | some p => exact of_decide_eq_true h2
theorem allN {K : Kc} {l : List Nat} (h : (l.all fun i => decide (i < K.n)) = true) : ∀ i ∈ l, i < K.n := fun i hi => of_decide_eq_true (List.all_eq_true.mp h i hi)
theorem allF {K : Kc} {l : List Nat} (h : (l.all fun i => K.freeB i) = true) : ∀ i ∈ l, K.free i := fun i hi => Kc.freeB_ok (List.all_eq_true.mp h i hi)
structure JE (K : Fr) (X : Cx) (e : Expr) (t : TE) (f : DS → Option (RV × DS)) : Prop where
 p : PE X e t
 r : RE K t f
structure JT (K : Fr) (X : Cx) (e : Expr) (t : TT) (f : DS → Option (Bool × DS)) : Prop where
 p : PT X e t
 r : RT K t f
structure JW (K : Fr) (X : Cx) (e : Expr) (t : TT) (f : DS → Option (Bool × DS)) : Prop where
 p : PW X e t
 r : RT K t f
structure JA (K : Fr) (X : Cx) (es : List Expr) (t : TA) (f : DS → Option (List RV × DS)) : Prop where
 p : PA X es t
 r : RA K t f
structure JS (K : Fr) (X : Cx) (Z : Zc) (T : List Nat) (s : Stmt) (t : TS) (f : DS → Option Out) : Prop where
 p : PS X s t
 r : RS K Z T t f
structure JB (K : Fr) (X : Cx) (Z : Zc) (T : List Nat) (s : List Stmt) (t : TS) (f : DS → Option Out) : Prop where
 p : PSs X s t
 r : RS K Z T t f
structure JG (K : Fr) (X : Cx) (T : List Nat) (e : Expr) (t : TG) (f : D → DS → Option DS) : Prop where
 p : PG X e t
 r : RG K T t f
structure JGs (K : Fr) (X : Cx) (T : List Nat) (e : List Expr) (t : TGs) (f : List D → DS → Option DS) : Prop where
 p : PGs X e t
 r : RGs K T t f
structure JI (K : Fr) (X : Cx) (tg e : Expr) (t : TI) (f : DS → Option (List D × DS)) : Prop where
 p : PI X tg e t
 r : RI K t f
structure JO (K : Fr) (X : Cx) (e : Option Expr) (t : TO) (f : DS → Option (Option Int × DS)) : Prop where
 p : PO X e t
 r : RO K t f
structure JTs (K : Fr) (X : Cx) (e : List Expr) (t : TT) (f : DS → Option (Bool × DS)) : Prop where
 p : PTs X e t
 r : RT K t f
section
variable {K : Fr} {X : Cx} {a b c e : Expr} {es : List Expr} {ta tb tc te : TE} {t u : TT} {tl : TA} {fa fb fc fe : DS → Option (RV × DS)} {ft fu : DS → Option (Bool × DS)} {fl : DS → Option (List RV × DS)} {pos p : Pos}
theorem jv (i : Nat) {x : Str} (hN : X.N[i]? = some x := by rfl) (hi : i < K.n := by exact of_decide_eq_true rfl) (hv : Vis X.env.scope x := by first | exact Or.inl rfl | exact Or.inr (Or.inl rfl) | exact Or.inr (Or.inr rfl)) (hd : (x == ("__debug__" : Str)) = false := by decide)
  (hcd : (x == ("__classdict__" : Str)) = false := by decide) : JE K X (.Name x pos) (tVar i) (fVar i) := ⟨pe_var hN hv hd hcd, re_var hi⟩
theorem j_int {i j} : JE K X (.Constant (.int i) j pos) (tC (.int i)) (fC (.int i)) := ⟨pe_int, re_c (.int i)⟩
theorem j_bl {i j} : JE K X (.Constant (.bool i) j pos) (tC (.bl i)) (fC (.bool i)) := ⟨pe_bl, re_c (.bl i)⟩
theorem j_non {j} : JE K X (.Constant .none j pos) (tC .non) (fC .none) := ⟨pe_non, re_c .non⟩
theorem j_str {x j} : JE K X (.Constant (.str x) j pos) (tC (.str x)) (fC (.str x)) := ⟨pe_str, re_c (.str x)⟩
theorem j_add (ha : JE K X a ta fa) (hb : JE K X b tb fb) (hk : X.K = K.fr := by rfl) : JE K X (.BinOp a .Add b pos) (tOp (rAddX K.fr) ta tb) (fAdd fa fb) := by
 obtain ⟨kf, kt, ko, kn, kx⟩ := K
 subst hk
 exact ⟨pe_op op_addX ha.p hb.p, re_add ha.r hb.r⟩
theorem j_sub (ha : JE K X a ta fa) (hb : JE K X b tb fb) : JE K X (.BinOp a .Sub b pos) (tOp (rI0 fun i j => .int (i - j)) ta tb) (fOp (gI cT fun i j => .int (i - j)) fa fb) := ⟨pe_op op_sub ha.p hb.p, re_op (vop_I0 fun _ _ => .int _) ha.r hb.r⟩
theorem j_mul (ha : JE K X a ta fa) (hb : JE K X b tb fb) (hk : X.K = K.fr := by rfl) : JE K X (.BinOp a .Mult b pos) (tOp (rMulX K.fr) ta tb) (fMul fa fb) := by
 obtain ⟨kf, kt, ko, kn, kx⟩ := K
 subst hk
 exact ⟨pe_op op_mulXX ha.p hb.p, re_mul ha.r hb.r⟩
def cNz : Int → Int → Bool := fun _ j => decide (j ≠ 0)
theorem j_mod (ha : JE K X a ta fa) (hb : JE K X b tb fb) : JE K X (.BinOp a .Mod b pos) (tOp (rI (fun _ j => j ≠ 0) fun i j => .int (i.fmod j)) ta tb) (fOp (gI cNz fun i j => .int (i.fmod j)) fa fb) := ⟨pe_op op_modN ha.p hb.p, re_op (vop_I (fun _ _ h => of_decide_eq_true h) fun _ _ => .int _) ha.r hb.r⟩
noncomputable def cPow : Int → Int → Bool := fun i j => yes (CPow i j)
theorem cPow_ok (i j : Int) (h : cPow i j = true) : CPow i j := of_yes h
theorem j_pow (ha : JE K X a ta fa) (hb : JE K X b tb fb) : JE K X (.BinOp a .Pow b pos) (tOp (rI CPow fun i j => .int (i ^ j.toNat)) ta tb) (fOp (gI cPow fun i j => .int (i ^ j.toNat)) fa fb) := ⟨pe_op op_pow ha.p hb.p, re_op (vop_I cPow_ok fun _ _ => .int _) ha.r hb.r⟩
theorem j_neg (ha : JE K X a ta fa) : JE K X (.UnaryOp .USub a pos) (tUn (rU fun i => .int (-i)) ta) (fUn gNeg fa) := ⟨pe_un un_neg ha.p, re_un vun_neg ha.r⟩
@[simp] def gCmp (f : Int → Int → Bool) : D → D → Option D := gI cT fun i j => .bool (f i j)
theorem j_ge (ha : JE K X a ta fa) (hb : JE K X b tb fb) : JE K X (.Compare a [.GtE] [b] pos) (tOp (rI0 fun i j => .bl (decide (j ≤ i))) ta tb) (fOp (gCmp fun i j => decide (j ≤ i)) fa fb) := ⟨pe_cmpR op_ge ha.p hb.p (nomark _), re_op (vop_I0 fun _ _ => .bl _) ha.r hb.r⟩
theorem j_eq (hu : X.A.units + 64 < cLine) (ha : JE K X a ta fa) (hb : JE K X b tb fb) (hk : X.K = K.fr := by rfl) : JE K X (.Compare a [.Eq] [b] pos) (tOp (rEqX K.fr) ta tb) (fOp gEqX fa fb) := by
 obtain ⟨kf, kt, ko, kn, kx⟩ := K
 subst hk
 exact ⟨pe_cmpR (op_eqX hu) ha.p hb.p (nomark _), re_op vop_eqX ha.r hb.r⟩
theorem k_lt (ha : JE K X a ta fa) (hb : JE K X b tb fb) : JT K X (.Compare a [.Lt] [b] pos) (tTest (tOp (rI0 fun i j => .bl (decide (i < j))) ta tb)) (fBool (fOp (gCmp fun i j => decide (i < j)) fa fb)) := ⟨pt_cmpR op_lt ha.p hb.p (nomark _), rt_bool (re_op (vop_I0 fun _ _ => .bl _) ha.r hb.r)⟩
theorem k_gt (ha : JE K X a ta fa) (hb : JE K X b tb fb) : JT K X (.Compare a [.Gt] [b] pos) (tTest (tOp (rI0 fun i j => .bl (decide (j < i))) ta tb)) (fBool (fOp (gCmp fun i j => decide (j < i)) fa fb)) := ⟨pt_cmpR op_gt ha.p hb.p (nomark _), rt_bool (re_op (vop_I0 fun _ _ => .bl _) ha.r hb.r)⟩
theorem k_eq (hu : X.A.units + 64 < cLine) (ha : JE K X a ta fa) (hb : JE K X b tb fb) (hk : X.K = K.fr := by rfl) : JT K X (.Compare a [.Eq] [b] pos) (tTest (tOp (rEqX K.fr) ta tb)) (fBool (fOp gEqX fa fb)) := by
 obtain ⟨kf, kt, ko, kn, kx⟩ := K
 subst hk
 exact ⟨pt_cmpR (op_eqX hu) ha.p hb.p (nomark _), rt_bool (re_op vop_eqX ha.r hb.r)⟩
theorem k_ne (hu : X.A.units + 64 < cLine) (ha : JE K X a ta fa) (hb : JE K X b tb fb) (hk : X.K = K.fr := by rfl) : JT K X (.Compare a [.NotEq] [b] pos) (tTest (tOp (rNeX K.fr) ta tb)) (fBool (fOp gNeX fa fb)) := by
 obtain ⟨kf, kt, ko, kn, kx⟩ := K
 subst hk
 exact ⟨pt_cmpR (op_neX hu) ha.p hb.p (nomark _), rt_bool (re_op vop_neX ha.r hb.r)⟩
def isNd : D → Bool
 | .none => true
 | _ => false
theorem Dp.isN {K : Fr} {H : Hp} {v : V} {d : D} (h : Dp K H v d) : decide (v = .non) = isNd d := by
 cases h <;> simp [isNd]
def rIsN : R2 := fun x y H Q => y = .non ∧ Q (.bl (decide (x = .non))) H
def rNotN : R2 := fun x y H Q => y = .non ∧ Q (.bl (!decide (x = .non))) H
def gIsN2 (d e : D) : Option D := match e with
 | .none => some (.bool (isNd d))
 | _ => none
def gNotN2 (d e : D) : Option D := match e with
 | .none => some (.bool (!(isNd d)))
 | _ => none
theorem vop_isN {K : Fr} : VOp K rIsN gIsN2 := by
 intro H x y d e z Q hd he hz q
 unfold gIsN2 at hz
 split at hz
 ·cases hz
  cases he
  exact ⟨rfl, by rw [Dp.isN hd]; exact q _ (.bl _)⟩
 ·cases hz
theorem vop_notN {K : Fr} : VOp K rNotN gNotN2 := by
 intro H x y d e z Q hd he hz q
 unfold gNotN2 at hz
 split at hz
 ·cases hz
  cases he
  exact ⟨rfl, by rw [Dp.isN hd]; exact q _ (.bl _)⟩
 ·cases hz
theorem k_isN (ha : JE K X a ta fa) (hb : JE K X b tb fb) : JT K X (.Compare a [.Is] [b] pos) (tTest (tOp rIsN ta tb)) (fBool (fOp gIsN2 fa fb)) := ⟨pt_cmpR op_isN ha.p hb.p (nomark _), rt_bool (re_op vop_isN ha.r hb.r)⟩
theorem k_notN (ha : JE K X a ta fa) (hb : JE K X b tb fb) : JT K X (.Compare a [.IsNot] [b] pos) (tTest (tOp rNotN ta tb)) (fBool (fOp gNotN2 fa fb)) := ⟨pt_cmpR op_notN ha.p hb.p (nomark _), rt_bool (re_op vop_notN ha.r hb.r)⟩
theorem k_tru (ha : JE K X a ta fa) (he : ∀ whole, isTrue a X.env whole = (do let v ← whole; standAt a.pos; holding [v] (truthy v)) := by intro _; rfl) (hk : X.K = K.fr := by rfl) : JT K X a (tTru K ta) (fTru fa) := by
 obtain ⟨kf, kt, ko, kn, kx⟩ := K
 subst hk
 exact ⟨pt_truth ha.p he, rt_tru ha.r⟩
theorem w_and1 (ha : JT K X a t ft) : JW K X (.BoolOp .And [a] pos) t ft := ⟨pw_and1 ha.p, ha.r⟩
theorem w_or1 (ha : JT K X a t ft) : JW K X (.BoolOp .Or [a] pos) t ft := ⟨pw_or1 ha.p, ha.r⟩
theorem w_and (ha : JT K X a t ft) (hb : JW K X (.BoolOp .And (b :: es) pos) u fu) : JW K X (.BoolOp .And (a :: b :: es) pos) (tAnd t u) (fAndT ft fu) := ⟨pw_and ha.p hb.p, rt_and ha.r hb.r⟩
theorem w_or (ha : JT K X a t ft) (hb : JW K X (.BoolOp .Or (b :: es) pos) u fu) : JW K X (.BoolOp .Or (a :: b :: es) pos) (tOr t u) (fOrT ft fu) := ⟨pw_or ha.p hb.p, rt_or ha.r hb.r⟩
theorem k_w (h : JW K X a t ft) : JT K X a t ft := ⟨PW.pt h.p, h.r⟩
theorem k_not (ha : JT K X a t ft) : JT K X (.UnaryOp .Not a pos) (tNot t) (fNotT ft) := ⟨pt_not ha.p, rt_not ha.r⟩
theorem j_one {op} (h : JE K X a ta fa) : JE K X (.BoolOp op [a] pos) ta fa := ⟨pe_one h.p, h.r⟩
theorem j_and (ha : JE K X a ta fa) (hb : JE K X (.BoolOp .And (b :: es) pos) tb fb) : JE K X (.BoolOp .And (a :: b :: es) pos) (tAndV ta tb) (fAndV fa fb) := ⟨pe_and ha.p hb.p, re_and ha.r hb.r⟩
theorem j_not (ha : JE K X a ta fa) : JE K X (.UnaryOp .Not a pos) (tNotV ta) (fNotV fa) := ⟨pe_not ha.p, re_not ha.r⟩
theorem j_if (hc : JT K X c t ft) (ha : JE K X a ta fa) (hb : JE K X b tb fb) : JE K X (.IfExp c a b pos) (tIf t ta tb) (fIf ft fa fb) := ⟨pe_ifExp hc.p ha.p hb.p, re_if hc.r ha.r hb.r⟩
theorem a_nil : JA K X [] tNil fNil := ⟨pa_nil, ra_nil⟩
theorem a_cons (ha : JE K X a ta fa) (hr : JA K X es tl fl) (hs : starEach (a :: es) X.env = (false, eval a X.env) :: starEach es X.env := by rfl) : JA K X (a :: es) (tCons ta tl) (fCons fa fl) := ⟨pa_cons ha.p hr.p hs, ra_cons ha.r hr.r⟩
theorem j_lst (h : JA K X es tl fl) : JE K X (.List es pos) (tLst tl) (fLst fl) := ⟨pe_lst h.p, re_lst h.r⟩
theorem j_tup {x1} (h : JA K X es tl fl) : JE K X (.Tuple es x1 pos) (tTup tl) (fTup fl) := ⟨pe_tup h.p, re_tup h.r⟩
theorem j_ix (ha : JE K X a ta fa) (hb : JE K X b tb fb) (hs : PlainIx b := by exact fun _ _ => rfl) (hk : X.K = K.fr := by rfl) : JE K X (.Subscript a b pos) (tOp (rIxX K.fr) ta tb) (fIx fa fb) := by
 obtain ⟨kf, kt, ko, kn, kx⟩ := K
 subst hk
 exact ⟨pe_ix ix_X ha.p hb.p hs, re_ix ha.r hb.r⟩
variable {lo hi : Option Expr} {to1 to2 : TO} {fo1 fo2 : DS → Option (Option Int × DS)} {p2 : Pos}
theorem o_none : JO K X none tNoPart fNoPart := ⟨po_none, ro_none⟩
theorem o_some (h : JE K X a ta fa) : JO K X (some a) (tPart ta) (fPart fa) := ⟨po_some h.p, ro_some h.r⟩
theorem j_sl (ha : JE K X a ta fa) (hl : JO K X lo to1 fo1) (hh : JO K X hi to2 fo2) (hk : X.K = K.fr := by rfl) : JE K X (.Subscript a (.Slice lo hi none p2) pos) (tSl (rSlL K) ta to1 to2) (fSl fa fo1 fo2) := by
 obtain ⟨kf, kt, ko, kn, kx⟩ := K
 subst hk
 exact ⟨pe_slice sl_list ha.p hl.p hh.p, re_sl ha.r hl.r hh.r⟩
theorem j_len (hm : X.mg "len" = none) (h : JA K X (e :: es) tl fl) (hg : Gl X "len" := by rfl) (hdb : (("len" : Str) == ("__debug__" : Str)) = false := by decide) (he : starEach (e :: es) X.env = (false, eval e X.env) :: starEach es X.env := by rfl) (hpl : (backTo pos (starEach es X.env)).any (·.1) = false := by rfl) (hk : X.K = K.fr := by rfl) :
  JE K X (.Call (.Name "len" p) (e :: es) [] pos) (tCB (fun xs H Q => ∃ p ys, xs = [.ref p] ∧ (SqL K H p ys ∨ SqT K H p ys) ∧ Q (.int ys.length) H) tl) (fCa gLen fl) := by
 obtain ⟨kf, kt, ko, kn, kx⟩ := K
 subst hk
 exact ⟨pe_callB call_len_seq hg hm PySem.boot_len h.p (by decide) hdb he hpl, re_cb vca_len h.r⟩
theorem j_abs (hm : X.mg "abs" = none) (h : JA K X (e :: es) tl fl) (hg : Gl X "abs" := by rfl) (hdb : (("abs" : Str) == ("__debug__" : Str)) = false := by decide) (he : starEach (e :: es) X.env = (false, eval e X.env) :: starEach es X.env := by rfl) (hpl : (backTo pos (starEach es X.env)).any (·.1) = false := by rfl) :
  JE K X (.Call (.Name "abs" p) (e :: es) [] pos) (tCB (fun xs H Q => ∃ i, xs = [.int i] ∧ Q (.int (if i < 0 then -i else i)) H) tl) (fCa (g1I fun i => .int (if i < 0 then -i else i)) fl) := ⟨pe_callB call_abs hg hm (by decide +kernel) h.p (by decide) hdb he hpl, re_cb vca_abs h.r⟩
theorem j_intc (hm : X.mg "int" = none) (h : JA K X (e :: es) tl fl) (hg : Gl X "int" := by rfl) (hdb : (("int" : Str) == ("__debug__" : Str)) = false := by decide) (he : starEach (e :: es) X.env = (false, eval e X.env) :: starEach es X.env := by rfl) (hpl : (backTo pos (starEach es X.env)).any (·.1) = false := by rfl) :
  JE K X (.Call (.Name "int" p) (e :: es) [] pos) (tCB (fun xs H Q => (∃ i, xs = [.int i] ∧ Q (.int i) H) ∨ ∃ k, xs = [.bl k] ∧ Q (.int (if k then 1 else 0)) H) tl) (fCa gInt fl) := ⟨pe_callTy call_int1 hg hm (by decide +kernel) h.p (by decide) hdb he hpl, re_cb vca_int h.r⟩
theorem j_list (hm : X.mg "list" = none) (h : JA K X (e :: es) tl fl) (hg : Gl X "list" := by rfl) (hdb : (("list" : Str) == ("__debug__" : Str)) = false := by decide) (he : starEach (e :: es) X.env = (false, eval e X.env) :: starEach es X.env := by rfl) (hpl : (backTo pos (starEach es X.env)).any (·.1) = false := by rfl) (hk : X.K = K.fr := by rfl) :
  JE K X (.Call (.Name "list" p) (e :: es) [] pos) (tCB (rListOf K.fr) tl) (fListOf fl) := by
 obtain ⟨kf, kt, ko, kn, kx⟩ := K
 subst hk
 exact ⟨pe_callTy call_list_of hg hm (by decide +kernel) h.p (by decide) hdb he hpl, re_listOf h.r⟩
theorem j_isi {x : Str} {n : String} {p1 : Pos} (hm : X.mg "isinstance" = none) (hx : X.mg x = none) (ha : JE K X a ta fa) (hv : bootBuiltins x = some (.type n) := by decide +kernel) (hg : Gl X "isinstance" := by rfl) (hgx : Gl X x := by rfl) (hn : x ≠ "__name__" := by decide) (hd : (x == ("__debug__" : Str)) = false := by decide)
  (hdb : (("isinstance" : Str) == ("__debug__" : Str)) = false := by decide) (he : starEach [a, .Name x p1] X.env = (false, eval a X.env) :: starEach [.Name x p1] X.env := by rfl) (he2 : starEach [.Name x p1] X.env = (false, eval (.Name x p1) X.env) :: starEach [] X.env := by rfl) (hpl : (backTo pos (starEach [.Name x p1] X.env)).any (·.1) = false := by rfl) (hk : X.K = K.fr := by rfl) :
  JE K X (.Call (.Name "isinstance" p) [a, .Name x p1] [] pos) (tCB (rIsi K) (tCons ta (tCons (tC (.ty n)) tNil))) (fIsi n fa) := by
 obtain ⟨kf, kt, ko, kn, kx⟩ := K
 subst hk
 exact ⟨pe_callB call_isi hg hm (by decide +kernel) (pa_cons ha.p (pa_cons (pe_bltn hgx hx hv rfl hn hd) pa_nil he2) he) (by decide) hdb he hpl, re_isi ha.r⟩
variable {tg iter elt : Expr} {wi : TI} {fi : DS → Option (List D × DS)} {g : TG} {fg : D → DS → Option DS} {T : List Nat} {ifs : List Expr} {scope : Scope} {own : List (Str × Nat)}
theorem s_nil : JTs K X [] tYes fYes := ⟨pts_nil, rt_yes⟩
theorem s_one (h : JT K X c t ft) : JTs K X [c] t ft := ⟨pts_one h.p, h.r⟩
theorem j_lc (hc : X.calm = true) (hN : X.N.Nodup) (hi : JI K X tg iter wi fi) (ok : BlkOk X.N X.env.scope scope own) (hg : ∀ (s : Shared) (H : Hp) (C : Addr) (cl : List (Str × Addr)) (fp : List Addr), JG K (X.blk s H scope (compEnvC scope cl C X.env) fp) T tg g fg)
  (ht : ∀ (s : Shared) (H : Hp) (C : Addr) (cl : List (Str × Addr)) (fp : List Addr), JTs K (X.blk s H scope (compEnvC scope cl C X.env) fp) ifs t ft) (he : ∀ (s : Shared) (H : Hp) (C : Addr) (cl : List (Str × Addr)) (fp : List Addr), JE K (X.blk s H scope (compEnvC scope cl C X.env) fp) elt te fe)
  (hT : ∀ i ∈ T, i ∈ own.map (·.2)) (s0 : Shared) (H0 : Hp) (hn : ((own.map (·.2)).all fun i => decide (i < K.n)) = true := by rfl) (hf : ((own.map (·.2)).all fun i => K.freeB i) = true := by rfl) (hs : ∀ x, foldedSetIterable iter X.env x = pure x := by intro _; rfl) :
  JE K X (.ListComp elt [⟨tg, iter, ifs, 0⟩] scope pos) (tLc wi g t te (own.map (·.2))) (fLc fi fg ft fe (own.map (·.2))) :=
 ⟨pe_lc hc hN hi.p ok (fun s H C cl fp => (hg s H C cl fp).p) (fun s H C cl fp => (ht s H C cl fp).p) (fun s H C cl fp => (he s H C cl fp).p) hs,
  re_lc hT (allN hn) (allF hf) hi.r (hg s0 H0 0 [] []).r (ht s0 H0 0 [] []).r (he s0 H0 0 [] []).r⟩
end
end Fx
set_option Elab.async false
set_option linter.all false
set_option maxRecDepth 100000
namespace Fx
open PySem PySem.Spec L2
section
variable {K : Fr} {X : Cx} {Z : Zc} {a b c e iter tg : Expr} {es : List Expr} {ta tb tc te : TE} {t u : TT} {tl : TA} {fa fb fc fe : DS → Option (RV × DS)} {ft fu : DS → Option (Bool × DS)} {fl : DS → Option (List RV × DS)} {pos p : Pos}
 {st : Stmt} {sts rest : List Stmt} {ts us : TS} {fs fr : DS → Option Out} {wi : TI} {fi : DS → Option (List D × DS)} {g : TG} {gs : TGs} {fg : D → DS → Option DS} {fgs : List D → DS → Option DS} {T T' : List Nat}
theorem b_nil : JB K X Z [] [] tNext fNext := ⟨pss_nil, rs_next⟩
theorem b_one (h : JS K X Z T st ts fs) : JB K X Z T [st] ts fs := ⟨pss_one h.p, h.r⟩
theorem b_cons (h : JS K X Z T st ts fs) (k : JB K X Z T' rest us fr) : JB K X Z (T ++ T') (st :: rest) (tSeq ts us) (fSeq fs fr) := ⟨pss_cons h.p k.p, rs_seq h.r k.r⟩
theorem s_ret (h : JE K X e te fe) : JS K X Z [] (.Return (some e) pos) (tRet te) (fRet fe) := ⟨ps_ret h.p, rs_ret h.r⟩
theorem s_if (hc : JT K X c t ft) (ha : JB K X Z T sts ts fs) (hb : JB K X Z T' rest us fr) : JS K X Z (T ++ T') (.If c sts rest pos) (tIfS t ts us) (fIfS ft fs fr) := ⟨ps_if hc.p ha.p hb.p, rs_if hc.r ha.r hb.r⟩
theorem s_set (i : Nat) {x : Str} {pos' : Pos} (hN : X.N.Nodup) (he : JE K X e te fe) (hi : X.N[i]? = some x := by rfl) (hx : Loc X.env.scope x := by first | exact Or.inl rfl | exact Or.inr rfl) (hs : swapsWith e (some (.Name x pos')) pos.line X.env = pure false := by rfl) (hf : X.fn x = true ∨ X.env.scope.names.lookup x = some .local := by first | exact .inl rfl | exact .inr rfl | assumption) (kin : decide (i < K.n) = true := by rfl) (kif : K.freeB i = true := by rfl) :
  JS K X Z [i] (.Assign [.Name x pos'] e pos) (tAsg te (gName i)) (fSet i fe) := ⟨ps_set hN hi hx he.p hs hf, rs_set (of_decide_eq_true kin) (Kc.freeB_ok kif) he.r⟩
theorem s_asg (he : JE K X e te fe) (hg : JG K X T tg g fg) (hs : swapsWithSole [tg] e pos.line X.env = pure false := by rfl) (hw : swappedStores [tg] e X.env = pure none := by rfl)
  (h1 : (assignEach [tg] X.env).map (·.2) = [assign tg X.env] := by rfl) : JS K X Z T (.Assign [tg] e pos) (tAsg te g) (fAsg fg fe) := ⟨ps_asg he.p hg.p hs hw h1, rs_asg he.r hg.r⟩
theorem s_for (hc : X.calm = true) (hi : JI K X tg iter wi fi) (hg : JG K X T tg g fg) (hb : JB K X Z T' sts ts fs) (hp : PassesOwn (model X.prog X.w) X.A X.env X.xe := by first | exact PassesOwn.never | exact passes_of rfl)
  (hs : ∀ x, foldedSetIterable iter X.env x = pure x := by intro _; rfl) : JS K X Z (T ++ T') (.For tg iter sts [] pos) (tFor wi g ts) (fFor fi fg fs) := ⟨ps_for hp hc hi.p hg.p hb.p hs, rs_for hi.r hg.r hb.r⟩
theorem s_app (i : Nat) {x : Str} {p1 apos cpos : Pos} (he : JE K X e te fe) (hN : X.N[i]? = some x := by rfl) (hv : Vis X.env.scope x := by first | exact Or.inl rfl | exact Or.inr (Or.inl rfl) | exact Or.inr (Or.inr rfl)) (hd : (x == ("__debug__" : Str)) = false := by decide) (hcd : (x == ("__classdict__" : Str)) = false := by decide)
  (hse : starEach [e] X.env = (false, eval e X.env) :: starEach [] X.env := by rfl)
  (hbase : attributeBase (.Name x p1) "append" X.env (eval (.Name x p1) X.env) = eval (.Name x p1) X.env := by rfl)
  (hfew : ((backTo cpos (starEach [e] X.env)).all (fun x => !x.1) && (backToKw cpos (keywordEach [] X.env)).all (fun x => x.1.isSome)
   && decide ([e].length + ([] : List Keyword).length + (if ([] : List Keyword).isEmpty then 0 else 1) < 30)) = true := by rfl)
  (hline : (apos.endLine == cpos.line) = true := by rfl) (hplain : (backTo cpos (starEach [] X.env)).any (·.1) = false := by rfl)
  (hs : swapsWith (.Call (.Attribute (.Name x p1) "append" apos) [e] [] cpos) none pos.line X.env = pure false := by rfl) (hk : X.K = K.fr := by rfl) (kin : decide (i < K.n) = true := by rfl) :
  JS K X Z [] (.Expr (.Call (.Attribute (.Name x p1) "append" apos) [e] [] cpos) pos) (tDrop (tBM K "list" rAppend (tVar i) (tCons te tNil))) (fApp i fe) := by
 obtain ⟨kf, kt, ko, kn, kx⟩ := K
 subst hk
 exact ⟨ps_expr (pe_bm PySem.F.plainAttrs_list PySem.F.slot_list_append PySem.F.type_list_append mt_append (pe_var hN hv hd hcd) (pa_cons he.p pa_nil hse) hbase hfew hline hse hplain) hs, rs_app (of_decide_eq_true kin) he.r⟩
theorem s_setIx (i : Nat) {x : Str} {p1 p2 : Pos} {k : Expr} {tk : TE} {fk : DS → Option (RV × DS)} (he : JE K X e te fe) (hk : JE K X k tk fk) (hN : X.N[i]? = some x := by rfl) (hv : Vis X.env.scope x := by first | exact Or.inl rfl | exact Or.inr (Or.inl rfl) | exact Or.inr (Or.inr rfl)) (hd : (x == ("__debug__" : Str)) = false := by decide) (hcd : (x == ("__classdict__" : Str)) = false := by decide)
  (ha : ∀ v, assign (.Subscript (.Name x p1) k p2) X.env v = (do
   let ov ← holding [v] (eval (.Name x p1) X.env)
   let iv ← holding [v, ov] (eval k X.env)
   standAt p2
   holding [v, ov, iv] (setItem ov iv v)
   release [v, ov, iv] []) := by intro _; rfl)
  (hs : swapsWithSole [.Subscript (.Name x p1) k p2] e pos.line X.env = pure false := by rfl) (hw : swappedStores [.Subscript (.Name x p1) k p2] e X.env = pure none := by rfl)
  (h1 : (assignEach [.Subscript (.Name x p1) k p2] X.env).map (·.2) = [assign (.Subscript (.Name x p1) k p2) X.env] := by rfl) (kin : decide (i < K.n) = true := by rfl) :
  JS K X Z [] (.Assign [.Subscript (.Name x p1) k p2] e pos) (tAsg te (gSub (tVar i) tk rSetL)) (fSetIx i fe fk) :=
 ⟨ps_asg he.p (pg_sub (pe_var hN hv hd hcd) hk.p set_list ha) hs hw h1, rs_setIx (of_decide_eq_true kin) he.r hk.r⟩
theorem s_setLc (i : Nat) {y : Str} {py spos : Pos} {elt : Expr} {ifs : List Expr} {scope : Scope} {own : List (Str × Nat)} (hc : X.calm = true) (hN : X.N.Nodup) (hsw : swapsWith (.ListComp elt [⟨tg, iter, ifs, 0⟩] scope pos) (some (.Name y py)) spos.line X.env = pure true) (hi : JI K X tg iter wi fi) (ok : BlkOk X.N X.env.scope scope own) (hg : ∀ (s : Shared) (H : Hp) (C : Addr) (cl : List (Str × Addr)) (fp : List Addr), JG K (X.blk s H scope (compEnvC scope cl C X.env) fp) T tg g fg)
  (ht : ∀ (s : Shared) (H : Hp) (C : Addr) (cl : List (Str × Addr)) (fp : List Addr), JTs K (X.blk s H scope (compEnvC scope cl C X.env) fp) ifs t ft) (he : ∀ (s : Shared) (H : Hp) (C : Addr) (cl : List (Str × Addr)) (fp : List Addr), JE K (X.blk s H scope (compEnvC scope cl C X.env) fp) elt te fe)
  (hT : ∀ i ∈ T, i ∈ own.map (·.2)) (s0 : Shared) (H0 : Hp) (hn : ((own.map (·.2)).all fun i => decide (i < K.n)) = true := by rfl) (hf : ((own.map (·.2)).all fun i => K.freeB i) = true := by rfl) (hin : decide (i < K.n) = true := by rfl) (hif : K.freeB i = true := by rfl) (hy : X.N[i]? = some y := by rfl) (hyl : X.env.scope.names.lookup y = some .local := by rfl) (hs : ∀ x, foldedSetIterable iter X.env x = pure x := by intro _; rfl) :
  JS K X Z [i] (.Assign [.Name y py] (.ListComp elt [⟨tg, iter, ifs, 0⟩] scope pos) spos) (tAsg (tLc wi g t te (own.map (·.2))) (gName i)) (fSet i (fLc fi fg ft fe (own.map (·.2)))) :=
 ⟨ps_setLc hc hN hy hyl hsw hi.p ok (fun s H C cl fp => (hg s H C cl fp).p) (fun s H C cl fp => (ht s H C cl fp).p) (fun s H C cl fp => (he s H C cl fp).p) hs,
  rs_set (of_decide_eq_true hin) (Kc.freeB_ok hif) (re_lc hT (allN hn) (allF hf) hi.r (hg s0 H0 0 [] []).r (ht s0 H0 0 [] []).r (he s0 H0 0 [] []).r)⟩
theorem g_name (i : Nat) {x : Str} (hN : X.N.Nodup) (hi : X.N[i]? = some x := by rfl) (hx : Loc X.env.scope x := by first | exact Or.inl rfl | exact Or.inr rfl) (hf : X.fn x = true ∨ X.env.scope.names.lookup x = some .local := by first | exact .inl rfl | exact .inr rfl | assumption) (kin : decide (i < K.n) = true := by rfl) (kif : K.freeB i = true := by rfl) : JG K X [i] (.Name x pos) (gName i) (fgName i) := ⟨pg_name hN hi hx hf, rg_name (of_decide_eq_true kin) (Kc.freeB_ok kif)⟩
theorem gs_nil : JGs K X [] [] gNil fgNil := ⟨pgs_nil, rgs_nil⟩
theorem gs_cons {T2 : List Nat} (h1 : JG K X T e g fg) (h2 : JGs K X T' es gs fgs) (hs : (assignEach (e :: es) X.env).map (·.2) = assign e X.env :: (assignEach es X.env).map (·.2) := by rfl) (hT : T ++ T' = T2 := by rfl) : JGs K X T2 (e :: es) (gCons g gs) (fgCons fg fgs) := ⟨pgs_cons h1.p h2.p hs, by rw [← hT]; exact rgs_cons h1.r h2.r⟩
theorem g_tup {k n : Nat} (hc : X.calm = true) (h : JGs K X T es gs fgs) (hn : (assignEach es X.env).length = n := by rfl) (hst : (assignEach es X.env).findIdx? (·.1) = none := by rfl) (hk : X.K = K.fr := by rfl) : JG K X T (.Tuple es k pos) (gTup K n gs) (fgTup n fgs) := by
 obtain ⟨kf, kt, ko, kn, kx⟩ := K
 subst hk
 exact ⟨pg_tup hc h.p hn hst, rg_tup h.r⟩
theorem i_list (h : JE K X e te fe) (hk : X.K = K.fr := by rfl) : JI K X tg e (iList K te) (fiList fe) := by
 obtain ⟨kf, kt, ko, kn, kx⟩ := K
 subst hk
 exact ⟨pi_list h.p, ri_list h.r⟩
theorem i_tup (h : JE K X e te fe) (hk : X.K = K.fr := by rfl) : JI K X tg e (iTup K te) (fiTup fe) := by
 obtain ⟨kf, kt, ko, kn, kx⟩ := K
 subst hk
 exact ⟨pi_tup h.p, ri_tup h.r⟩
theorem i_r1 (hm : X.mg "range" = none) (h : JA K X [a] tl fl) (hg : Gl X "range" := by rfl) (hs : starEach [a] X.env = [(false, eval a X.env)] := by rfl) : JI K X tg (.Call (.Name "range" p) [a] [] pos) (iRng1 tl) (fiR1 fl) := ⟨pi_range1 hg hm h.p hs, ri_r1 h.r⟩
end
end Fx
set_option Elab.async false
set_option linter.all false
set_option maxRecDepth 100000
namespace Fx
open PySem PySem.Spec L2
variable {K : Kc}
inductive DR where
 | ret (o : OV) (ds : DS)
 | ex (x : Str) (ds : DS)
def spO (K : Kc) (mg : Str → Option Value) (g : DS → Option DR) : Sp := fun vs H Q E => vs.length = K.n ∧ ∃ G F ds r, SI K G H (vs.map some) ds F ∧ g ds = some r ∧ match r with
 | .ret o ds' => ∀ v G' H' F' fp, SI K G' H' (vs.map some) ds' F' → Step (Wf F) G H G' H' (Wf F') → Rep K G' H' v o fp → Fp G' H' (Wf F') (Wf F) H fp → Q v H'
 | .ex x ds' => ∀ C G' H' F', mg x = some (.ref C) → SI K G' H' (vs.map some) ds' F' → Step (Wf F) G H G' H' (Wf F') → E (.ref C) none H'
def padD (p q : Nat) (ds : DS) : DS := ds.take p ++ (List.replicate (q - p) none ++ ds.drop p)
def cutO (io : List Nat) (p q : Nat) (ds : DS) : DS := ((List.range p).map fun i => if i ∈ io then (ds[i]?).getD none else none) ++ ds.drop q
theorem padD_lt {p q i : Nat} {ds : DS} (hp : p ≤ ds.length) (h : i < p) : (padD p q ds)[i]? = ds[i]? := by
 unfold padD
 rw [List.getElem?_append_left (by simp; omega), List.getElem?_take_of_lt h]
theorem padD_mid {p q i : Nat} {ds : DS} (hp : p ≤ ds.length) (h : p ≤ i) (h2 : i < q) : (padD p q ds)[i]? = some none := by
 unfold padD
 have e : (ds.take p).length = p := by simp; omega
 rw [List.getElem?_append_right (by omega), List.getElem?_append_left (by simp; omega), List.getElem?_replicate, if_pos (by omega)]
theorem padD_ge {p q i : Nat} {ds : DS} (hp : p ≤ ds.length) (hq : p ≤ q) (h : q ≤ i) : (padD p q ds)[i]? = ds[i - (q - p)]? := by
 unfold padD
 have e : (ds.take p).length = p := by simp; omega
 rw [List.getElem?_append_right (by omega), List.getElem?_append_right (by simp; omega), List.getElem?_drop]
 congr 1
 simp
 omega
theorem padD_len {p q : Nat} {ds : DS} (hp : p ≤ ds.length) (hq : p ≤ q) : (padD p q ds).length = ds.length + (q - p) := by
 unfold padD
 simp
 omega
theorem cutO_lt {io : List Nat} {p q i : Nat} {ds : DS} (h : i < p) : (cutO io p q ds)[i]? = some (if i ∈ io then (ds[i]?).getD none else none) := by
 unfold cutO
 rw [List.getElem?_append_left (by simp; omega)]
 simp [h]
theorem cutO_ge {io : List Nat} {p q i : Nat} {ds : DS} (h : p ≤ i) : (cutO io p q ds)[i]? = ds[i + q - p]? := by
 unfold cutO
 rw [List.getElem?_append_right (by simp; omega), List.getElem?_drop]
 congr 1
 simp
 omega
theorem cutO_len {io : List Nat} {p q : Nat} {ds : DS} (h : q ≤ ds.length) : (cutO io p q ds).length = p + (ds.length - q) := by
 unfold cutO
 simp
theorem start_get {N : List Str} {vs : List V} {i : Nat} (h : i < vs.length) : (L2.start N vs)[i]? = (vs.map some)[i]? := by
 unfold L2.start
 rw [List.getElem?_append_left (by simpa using h)]
theorem start_len {N : List Str} {vs : List V} (h : vs.length ≤ N.length) : (L2.start N vs).length = N.length := by
 unfold L2.start
 simp
 omega
def padF (p q : Nat) (F : Nat → List Addr) : Nat → List Addr := fun i => if i < p then F i else if i < q then [] else F (i - (q - p))
theorem wf_pad {p q : Nat} {F : Nat → List Addr} (hq : p ≤ q) {b : Addr} : Wf (padF p q F) b ↔ Wf F b := by
 constructor
 ·rintro ⟨i, h⟩
  unfold padF at h
  split at h
  ·exact ⟨_, h⟩
  ·split at h
   ·cases h
   ·exact ⟨_, h⟩
 ·rintro ⟨i, h⟩
  by_cases hi : i < p
  ·exact ⟨i, by unfold padF; rw [if_pos hi]; exact h⟩
  ·refine ⟨i + (q - p), ?_⟩
   unfold padF
   rw [if_neg (by omega), if_neg (by omega)]
   have : i + (q - p) - (q - p) = i := by omega
   rw [this]; exact h
theorem SI.pad {G H : Hp} {vs : List V} {ds : DS} {F : Nat → List Addr} {N : List Str} (S : SI K G H (vs.map some) ds F) (hN : vs.length ≤ N.length) : SI ⟨K.fr, K.tb, K.ob, N.length, none⟩ G H (L2.start N vs) (padD vs.length N.length ds) (padF vs.length N.length F) := by
 have hsl := S.sl
 rw [List.length_map] at hsl
 have hp : vs.length ≤ ds.length := by rw [S.len]; omega
 refine ⟨S.sub, S.gnt, S.tab, start_len hN, ?_, fun i o e => ?_, fun i => ?_, fun i a h => ?_, fun i j a h1 h2 => ?_, fun o e => ?_, fun p e => by cases e⟩
 ·rw [padD_len hp hN, S.len]
  show _ = N.length + K.nf
  omega
 ·by_cases h1 : i < vs.length
  ·rw [padD_lt hp h1] at e
   obtain ⟨v, k1, k2⟩ := S.rep i o e
   refine ⟨v, .inl (by rw [start_get h1]; exact look_at k1 (by simpa using h1)), ?_⟩
   unfold padF; rw [if_pos h1]; exact k2
  ·by_cases h2 : i < N.length
   ·rw [padD_mid hp (by omega) h2] at e; cases e
   ·rw [padD_ge hp hN (by omega)] at e
    obtain ⟨v, k1, k2⟩ := S.rep _ o e
    refine ⟨v, ?_, by unfold padF; rw [if_neg h1, if_neg h2]; exact k2⟩
    rcases k1 with k1 | ⟨_, o', a, C, dx, fs, n, q1, q2, q3, q4, q5⟩
    ·have := (List.getElem?_eq_some_iff.mp k1).1
     rw [List.length_map] at this
     omega
    ·have hs : o'.slot < vs.length := by
      have := (List.getElem?_eq_some_iff.mp q2).1
      rwa [List.length_map] at this
     refine .inr ⟨by rw [start_len hN]; omega, o', a, C, dx, fs, n, q1, by rw [start_get hs]; exact q2, q3, ?_, q5⟩
     rw [start_len hN]
     rw [List.length_map] at q4
     have : i - (N.length - vs.length) - vs.length = i - N.length := by omega
     rw [this] at q4
     exact q4
 ·unfold padF
  split
  ·exact S.nod i
  ·split
   ·exact .nil
   ·exact S.nod _
 ·unfold padF at h
  split at h
  ·exact S.off _ a h
  ·split at h
   ·cases h
   ·exact S.off _ a h
 ·unfold padF at h1 h2
  split at h1
  ·split at h2
   ·exact S.dis i j a h1 h2
   ·split at h2
    ·cases h2
    ·have := S.dis _ _ a h1 h2
     omega
  ·split at h1
   ·cases h1
   ·split at h2
    ·have := S.dis _ _ a h1 h2
     omega
    ·split at h2
     ·cases h2
     ·have := S.dis _ _ a h1 h2
      omega
 ·obtain ⟨h1, h2, a, dx, fs, k1, k2, k3⟩ := S.obj o e
  rw [List.length_map] at h2
  refine ⟨by rw [padD_lt hp h2]; exact h1, by rw [start_len hN]; omega, a, dx, fs, by rw [start_get h2]; exact k1, ?_, k3⟩
  rw [padD_len hp hN]
  unfold padF
  rw [if_neg (by omega), if_neg (by omega)]
  have : ds.length + (N.length - vs.length) - (N.length - vs.length) = ds.length := by omega
  rw [this]; exact k2
def cutF (io : List Nat) (p q : Nat) (F : Nat → List Addr) : Nat → List Addr := fun i => if i < p then (if i ∈ io then F i else []) else F (i + q - p)
theorem wf_cut {io : List Nat} {p q : Nat} {F : Nat → List Addr} {b : Addr} (h : Wf (cutF io p q F) b) : Wf F b := by
 obtain ⟨i, h⟩ := h
 unfold cutF at h
 split at h
 ·split at h
  ·exact ⟨_, h⟩
  ·cases h
 ·exact ⟨_, h⟩
theorem SI.cut {G H : Hp} {vs : List V} {σ : St} {ds : DS} {F : Nat → List Addr} {N : List Str} {io : List Nat} (S : SI ⟨K.fr, K.tb, K.ob, N.length, none⟩ G H σ ds F) (hK : vs.length = K.n) (hx : K.ex = none) (hN : vs.length ≤ N.length) (hio : ∀ i ∈ io, i < vs.length → σ[i]? = (vs.map some)[i]?) (hob : ∀ o, K.ob = some o → o.slot < vs.length ∧ σ[o.slot]? = (vs.map some)[o.slot]?) :
  SI K G H (vs.map some) (cutO io vs.length N.length ds) (cutF io vs.length N.length F) := by
 have hl : ds.length = N.length + K.nf := S.len
 have hsl : σ.length = N.length := S.sl
 have hq : N.length ≤ ds.length := by omega
 refine ⟨S.sub, S.gnt, S.tab, by rw [List.length_map]; exact hK, ?_, fun i o e => ?_, fun i => ?_, fun i a h => ?_, fun i j a h1 h2 => ?_, fun o e => ?_, fun p e => by rw [hx] at e; cases e⟩
 ·rw [cutO_len hq, hl, ← hK]; omega
 ·by_cases h1 : i < vs.length
  ·rw [cutO_lt h1] at e
   by_cases hi : i ∈ io
   ·rw [if_pos hi] at e
    have e' : ds[i]? = some (some o) := by
     cases hd : ds[i]? with
     | none => rw [hd] at e; cases e
     | some x => rw [hd] at e; exact e
    obtain ⟨v, k1, k2⟩ := S.rep i o e'
    have k3 := look_at k1 (by omega)
    rw [hio i hi h1] at k3
    refine ⟨v, .inl k3, ?_⟩
    unfold cutF; rw [if_pos h1, if_pos hi]; exact k2
   ·rw [if_neg hi] at e; cases e
  ·rw [cutO_ge (by omega)] at e
   obtain ⟨v, k1, k2⟩ := S.rep _ o e
   refine ⟨v, ?_, by unfold cutF; rw [if_neg h1]; exact k2⟩
   rcases k1 with k1 | ⟨hx, o', a, C, dx, fs, n, q1, q2, q3, q4, q5⟩
   ·have := (List.getElem?_eq_some_iff.mp k1).1
    omega
   ·obtain ⟨w1, w2⟩ := hob o' q1
    refine .inr ⟨by rw [List.length_map]; omega, o', a, C, dx, fs, n, q1, by rw [← w2]; exact q2, q3, ?_, q5⟩
    rw [hsl] at q4
    rw [List.length_map]
    have : i + N.length - vs.length - N.length = i - vs.length := by omega
    rw [this] at q4
    exact q4
 ·unfold cutF
  split
  ·split
   ·exact S.nod i
   ·exact .nil
  ·exact S.nod _
 ·unfold cutF at h
  split at h
  ·split at h
   ·exact S.off _ a h
   ·cases h
  ·exact S.off _ a h
 ·unfold cutF at h1 h2
  split at h1
  ·split at h1
   ·split at h2
    ·split at h2
     ·exact S.dis i j a h1 h2
     ·cases h2
    ·have := S.dis _ _ a h1 h2
     omega
   ·cases h1
  ·split at h2
   ·split at h2
    ·have := S.dis _ _ a h1 h2
     omega
    ·cases h2
   ·have := S.dis _ _ a h1 h2
    omega
 ·obtain ⟨h1, h2, a, dx, fs, k1, k2, k3⟩ := S.obj o e
  obtain ⟨w1, w2⟩ := hob o e
  refine ⟨?_, by rw [List.length_map]; exact w1, a, dx, fs, by rw [← w2]; exact k1, ?_, k3⟩
  ·rw [cutO_lt w1]
   split
   ·rw [h1]; rfl
   ·rfl
  ·rw [cutO_len hq]
   unfold cutF
   rw [if_neg (by omega)]
   have : vs.length + (ds.length - N.length) + N.length - vs.length = ds.length := by omega
   rw [this]; exact k2
def funO (io : List Nat) (p q : Nat) (f : DS → Option Out) (ds : DS) : Option DR := match f (padD p q ds) with
 | some (.ret o d) => some (.ret o (cutO io p q d))
 | some (.nx d) => some (.ret (.sh .none) (cutO io p q d))
 | some (.ex x d) => some (.ex x (cutO io p q d))
 | _ => none
def Dk (P : Program) (w : World) (fr : PySem.W.Frag) (tb : List (Addr × Str)) (mg : Str → Option Value) (base : Heap) (k : Nat) (x : Str) (n : Nat) (g : DS → Option DR) : Prop :=
 ∃ (f : Addr) (fd : FuncData) (ps : List Str), FnOk P w fr mg base (L2.CX P w) k f fd ps (spO ⟨fr, tb, none, n, none⟩ mg g) ∧ mg x = some (.ref f) ∧ PySem.W.keepIn fr (.ref f) = true ∧ Binds fr fd ps []
theorem body_ok {mg : Str → Option Value} {N : List Str} {vs : List V} {H : Hp} {Q : VK} {E : XK} {t : TS} {T io : List Nat} {fb : DS → Option Out} (hx : K.ex = none) (hN : K.n ≤ N.length) (hT : ∀ i ∈ io, i ∉ T) (hob : ∀ o, K.ob = some o → o.slot ∉ T)
  (J : RS ⟨K.fr, K.tb, K.ob, N.length, none⟩ ⟨fun c d _ H => E c d H, mg⟩ T t fb) (h : spO K mg (funO io K.n N.length fb) vs H Q E) : t { nx := fun _ H' => Q .non H', rt := Q } (L2.start N vs) H := by
 obtain ⟨hl, G, F, ds, r, S, hr, q⟩ := h
 have hN' : vs.length ≤ N.length := by omega
 have S0 := S.pad (N := N) hN'
 unfold funO at hr
 rw [← hl] at hr
 have same : ∀ {σ' : St}, Off T (L2.start N vs) σ' → (∀ i ∈ io, i < vs.length → σ'[i]? = (vs.map some)[i]?) ∧ ∀ o, K.ob = some o → o.slot < vs.length ∧ σ'[o.slot]? = (vs.map some)[o.slot]? := fun {σ'} f => by
  refine ⟨fun i hi hlt => by rw [f.2 i (hT i hi), start_get hlt], fun o e => ?_⟩
  obtain ⟨_, h2, _⟩ := S.obj o e
  rw [List.length_map] at h2
  exact ⟨h2, by rw [f.2 _ (hob o e), start_get h2]⟩
 have wp : ∀ {b}, Wf (padF vs.length N.length F) b ↔ Wf F b := wf_pad hN'
 have stp : ∀ {G' H' W'}, Step (Wf (padF vs.length N.length F)) G H G' H' W' → Step (Wf F) G H G' H' W' := fun {G' H' W'} s => ⟨s.sg, fun b x e n => s.keep b x e fun z => n (wp.mp z), s.dom, fun b x e => (s.new b x e).imp id fun z => z.imp wp.mp id, fun b z => (s.own b z).imp wp.mp id⟩
 split at hr
 ·rename_i o d he
  cases hr
  refine J G H _ _ _ _ _ S0 he fun v σ' G' H' F' fp S' t' f' r' p' => ?_
  obtain ⟨a1, a2⟩ := same f'
  exact q v G' H' _ fp (S'.cut hl hx hN' a1 a2) (stp (t'.reown fun b hb => t'.own b (wf_cut hb))) r' ⟨p'.nod, fun a ha => ⟨(p'.off a ha).1, (p'.off a ha).2.1, fun z => (p'.off a ha).2.2 (wf_cut z)⟩, fun a ha => (p'.new a ha).imp wp.mp id⟩
 ·rename_i d he
  cases hr
  refine J G H _ _ _ _ _ S0 he fun σ' G' H' F' S' t' f' => ?_
  obtain ⟨a1, a2⟩ := same f'
  exact q .non G' H' _ [] (S'.cut hl hx hN' a1 a2) (stp (t'.reown fun b hb => t'.own b (wf_cut hb))) ⟨.non, rfl⟩ .nil
 ·rename_i x d he
  cases hr
  refine J G H _ _ _ _ _ S0 he fun C σ' G' H' F' m S' t' f' => ?_
  obtain ⟨a1, a2⟩ := same f'
  exact q C G' H' _ m (S'.cut hl hx hN' a1 a2) (stp (t'.reown fun b hb => t'.own b (wf_cut hb)))
 ·cases hr
theorem def_ok {P : Program} {w : World} {fr : PySem.W.Frag} {tb : List (Addr × Str)} {mg : Str → Option Value} {base : Heap} {x qual : Str} {st : Stmt} {f : Addr} {fd : FuncData} {N ps : List Str} {k : Nat} {io T : List Nat} {fb : DS → Option Out} (F : L2.Fun fr x qual st f fd) (hm : mg x = some (.ref f)) (hb : Binds fr fd ps []) (S : FnScope N ps (defScope st)) (hN : ps.length ≤ N.length)
  (body : ∀ (cdv : Value) (A : Around) (outer : List Env) (s : Shared) (H : Hp) (E : XK), Room k (A.deeper (PyProof.Rows.envOfC qual (defScope st) s.heap.objs.size f cdv)) → ∃ t, JB ⟨fr, tb, none, N.length, none⟩ (cxOf (L2.CX P w) P w fr mg base N qual (defScope st) f cdv A outer s H E) ⟨fun c d _ H => E c d H, mg⟩ T (defBody st) t fb) (hT : ∀ i ∈ io, i ∉ T := by decide) :
  Dk P w fr tb mg base (k + 1) x ps.length (funO io ps.length N.length fb) := by
 refine ⟨f, fd, ps, F.okX S (fun vs H Q E h => h.1) fun cdv A outer s H vs Q E hr h => ?_, hm, F.kp, hb⟩
 obtain ⟨t, J⟩ := body cdv A outer s H E hr
 exact ⟨t, J.p, body_ok (K := ⟨fr, tb, none, ps.length, none⟩) rfl hN hT (fun o e => nomatch e) J.r h⟩
end Fx
set_option Elab.async false
set_option linter.all false
set_option maxRecDepth 100000
namespace Fx
open PySem PySem.Spec L2
variable {K : Kc}
theorem SI.frame {G H G' H' : Hp} {σ : St} {ds : DS} {F : Nat → List Addr} {Wa W' : Addr → Prop} (S : SI K G H σ ds F) (t : Step Wa G H G' H' W') (sub : Same G' H') (nt : ∀ b x, G' b = some x → NT x) (tab : TabX K.tb H') (dj : ∀ a, Wf F a → ¬ Wa a) : SI K G' H' σ ds F := by
 have kp : ∀ i b, b ∈ F i → ∀ x, H b = some x → H' b = some x := fun i b hb x e => by
  obtain ⟨_, y, h1, h2⟩ := S.off i b hb
  rw [e] at h1; cases h1
  exact t.keep b x e (dj b ⟨i, hb⟩) h2.1
 refine ⟨sub, nt, tab, S.sl, S.len, fun i o e => ?_, S.nod, fun i a ha => ?_, S.dis, fun u e => ?_, S.exs⟩
 ·obtain ⟨v, h1, h2⟩ := S.rep i o e
  refine ⟨v, ?_, h2.mono t.sg fun b hb x hx => kp i b hb x hx⟩
  rcases h1 with h | ⟨h, o', a, C, dx, fs, n, q1, q2, q3, q4, q5⟩
  ·exact .inl h
  ·obtain ⟨_, _, a', dx', fs', k1, k2, k3⟩ := S.obj o' q1
   rw [q2] at k1; cases k1
   exact .inr ⟨h, o', a, C, dx, fs, n, q1, q2, kp ds.length a (by rw [k2]; simp) _ q3, q4, q5⟩
 ·obtain ⟨h1, x, h2, h3⟩ := S.off i a ha
  refine ⟨?_, x, kp i a ha x h2, h3⟩
  rcases some_or (G' a) with ⟨y, e⟩ | e
  ·rcases t.new a y e with ⟨z, e'⟩ | w | e'
   ·rw [h1] at e'; cases e'
   ·exact absurd w (dj a ⟨i, ha⟩)
   ·rw [h2] at e'; cases e'
  ·exact e
 ·obtain ⟨h1, h2, a, dx, fs, k1, k2, k3, k4, k5⟩ := S.obj u e
  exact ⟨h1, h2, a, dx, fs, k1, k2, kp ds.length a (by rw [k2]; simp) _ k3, kp ds.length dx (by rw [k2]; simp) _ k4, k5⟩
theorem SI.shared {fr : PySem.W.Frag} {tb : List (Addr × Str)} {G H : Hp} {vs : List V} {l : List D} (s : Same G H) (nt : ∀ b x, G b = some x → NT x) (tab : TabX tb H) (h : L2.DpAll fr G vs l) : SI ⟨fr, tb, none, vs.length, none⟩ G H (vs.map some) (l.map fun d => some (.sh d)) (fun _ => []) where
 sub := s
 gnt := nt
 tab := tab
 sl := by rw [List.length_map]
 len := by
  rw [List.length_map]
  have := dpsLen (K := ⟨fr, tb, none, 0, none⟩) h
  show l.length = vs.length + 0
  omega
 rep := fun i o e => by
  rw [List.getElem?_map] at e
  obtain ⟨d, h1, h2⟩ := Option.map_eq_some_iff.mp e
  cases h2
  obtain ⟨v, h3, h4⟩ := dpsGet (K := ⟨fr, tb, none, 0, none⟩) h h1
  exact ⟨v, .inl (by rw [List.getElem?_map, h3]; rfl), h4, rfl⟩
 nod := fun _ => .nil
 off := fun _ _ h => nomatch h
 dis := fun _ _ _ h => nomatch h
 obj := fun o e => nomatch e
 exs := fun o e => nomatch e
theorem bindSome' {α β : Type} (a : α) (f : α → Option β) : (some a).bind f = f a := rfl
theorem noW {b : Addr} (h : Wf (fun _ => []) b) : False := by
 obtain ⟨i, h⟩ := h
 cases h
abbrev shs (l : List D) : DS := l.map fun d => some (OV.sh d)
def fCallX (n : Nat) (g : DS → Option DR) (fa : DS → Option (List RV × DS)) (ds : DS) : Option ((RV × DS) ⊕ (Str × DS)) :=
 (fa ds).bind fun p => (frzs p.1 p.2).bind fun q => if q.1.length = n then (g (shs q.1)).map fun r => match r with
  | .ret o _ => .inl (.ov o, q.2)
  | .ex x _ => .inr (x, q.2) else none
def RX (K : Fr) (Z : Zc) (t : TE) (f : DS → Option ((RV × DS) ⊕ (Str × DS))) : Prop :=
 ∀ (G H : Hp) (F : Nat → List Addr) (σ : St) (ds : DS) (r : (RV × DS) ⊕ (Str × DS)) (Q : VK), SI K G H σ ds F → f ds = some r → (match r with
  | .inl (rv, ds') => ∀ v G' H' F' fp, SI K G' H' σ ds' F' → Step (Wf F) G H G' H' (Wf F') → VRep K G' H' σ v rv fp → Fp G' H' (Wf F') (Wf F) H fp → Q v H'
  | .inr (x, ds') => ∀ C G' H' F', Z.mg x = some (.ref C) → SI K G' H' σ ds' F' → Step (Wf F) G H G' H' (Wf F') → Z.W (.ref C) none σ H') → t σ H Q
theorem rx_call {Z : Zc} {n : Nat} {g : DS → Option DR} {t : TA} {fa : DS → Option (List RV × DS)} (ha : RA K t fa) : RX K Z (tCallS (spO ⟨K.fr, K.tb, none, n, none⟩ Z.mg g) (WE Z.W) t) (fCallX n g fa) := by
 intro G H F σ ds r Q S e q
 simp only [fCallX, Option.bind_eq_some_iff] at e
 obtain ⟨⟨ra, d1⟩, e1, ⟨l, d2⟩, e3, e4⟩ := e
 split at e4
 ·rename_i hn
  simp only [Option.map_eq_some_iff] at e4
  obtain ⟨dr, e5, e6⟩ := e4
  refine ha G H F σ ds ra d1 _ S e1 fun v1 G1 H1 F1 fp1 S1 t1 r1 f1 => ?_
  obtain ⟨G2, F2, S2, t2, s2, dd, _⟩ := frzs_ok (fq := []) S1 t1 r1 (by rw [List.append_nil]; exact f1) e3
  have hl : v1.length = n := by rw [dpsLen dd]; exact hn
  subst hl
  refine ⟨rfl, G2, fun _ => [], shs l, dr, SI.shared S2.sub S2.gnt S2.tab dd, e5, ?_⟩
  cases dr with
  | ret o d' =>
   subst e6
   intro v G' H' F' fp S' t' r' f'
   have SS := S2.frame t' S'.sub S'.gnt S'.tab fun a _ z => noW z
   have tt : Step (Wf F) G H G' H' (Wf F2) := t2.trans ⟨t'.sg, fun b x e n nt => t'.keep b x e noW nt, t'.dom, fun b x e => (t'.new b x e).imp id fun z => z.elim (fun z => (noW z).elim) .inr, fun b z => .inl z⟩
   refine q v G' H' F2 fp SS tt r' ⟨f'.nod, fun a h => ⟨(f'.off a h).1, (f'.off a h).2.1, fun ⟨i, z⟩ => ?_⟩, fun a h => .inr ?_⟩
   ·rcases f'.new a h with z' | z'
    ·exact noW z'
    ·obtain ⟨_, x, y, _⟩ := S2.off i a z
     rw [z'] at y; cases y
   ·rcases f'.new a h with z' | z'
    ·exact (noW z').elim
    ·exact t2.back z'
  | ex x d' =>
   subst e6
   intro C G' H' F' m S' t'
   have SS := S2.frame t' S'.sub S'.gnt S'.tab fun a _ z => noW z
   have tt : Step (Wf F) G H G' H' (Wf F2) := t2.trans ⟨t'.sg, fun b x e n nt => t'.keep b x e noW nt, t'.dom, fun b x e => (t'.new b x e).imp id fun z => z.elim (fun z => (noW z).elim) .inr, fun b z => .inl z⟩
   exact q C G' H' F2 m SS tt
 ·cases e4
def fCallS (n : Nat) (g : DS → Option DR) (fa : DS → Option (List RV × DS)) (ds : DS) : Option (RV × DS) := (fCallX n g fa ds).bind fun r => match r with
 | .inl p => some p
 | .inr _ => none
def Z0 (mg : Str → Option Value) : Zc := ⟨fun _ _ _ _ => False, mg⟩
theorem re_callS {mg : Str → Option Value} {n : Nat} {g : DS → Option DR} {t : TA} {fa : DS → Option (List RV × DS)} (ha : RA K t fa) : RE K (tCallS (spO ⟨K.fr, K.tb, none, n, none⟩ mg g) (WE (Z0 mg).W) t) (fCallS n g fa) := by
 intro G H F σ ds r ds' Q S e q
 simp only [fCallS, Option.bind_eq_some_iff] at e
 obtain ⟨rr, e1, e2⟩ := e
 cases rr with
 | inl p => cases e2; exact rx_call (Z := Z0 mg) ha G H F σ ds _ Q S e1 q
 | inr p => cases e2
noncomputable def Gb (H : Hp) (fp : List Addr) : Hp := fun b => if b ∈ fp then none else match H b with
 | some x => if yes (NT x) = true then some x else none
 | none => none
theorem gb_some {H : Hp} {fp : List Addr} {b : Addr} {x : HO} (h : Gb H fp b = some x) : H b = some x ∧ NT x ∧ b ∉ fp := by
 unfold Gb at h
 split at h
 ·cases h
 ·rename_i hn
  split at h
  ·split at h
   ·rename_i hy
    cases h
    exact ⟨by assumption, of_yes hy, hn⟩
   ·cases h
  ·cases h
theorem gb_of {H : Hp} {fp : List Addr} {b : Addr} {x : HO} (h : H b = some x) (nt : NT x) (n : b ∉ fp) : Gb H fp b = some x := by
 unfold Gb
 rw [if_neg n, h]
 exact if_pos (yes_of nt)
theorem Rep.closed {G G' H : Hp} {v : V} {o : OV} {fp : List Addr} {d : D} (r : Rep K G' H v o fp) (e : o.own? = some d) : Rep K G H v o fp := by
 cases o with
 | sh d' =>
  simp only [OV.own?] at e
  split at e
  ·exact ⟨(scOf r.1 (by assumption)).dp, r.2⟩
  ·cases e
 | flat l =>
  simp only [OV.own?] at e
  split at e
  ·rename_i hl
   obtain ⟨a, xs, rfl, h1, h2, rfl⟩ := r
   refine ⟨a, xs, rfl, h1, ?_, rfl⟩
   have go : ∀ {vs : List V} {ds : List D}, DpAll K G' vs ds → ds.all isSc = true → DpAll K G vs ds := by
    intro vs ds h
    induction ds generalizing vs with
    | nil => intro _; cases h; exact .nil
    | cons d ds ih =>
     intro hs
     rw [List.all_cons, Bool.and_eq_true] at hs
     cases h with
     | cons a b => exact .cons (scOf a hs.1).dp (ih b hs.2)
   exact go h2 hl
  ·cases e
 | tree d' => exact r
mutual
theorem dpGb {H : Hp} {G : Hp} {fp : List Addr} (hG : ∀ b x, G b = some x → NT x ∧ b ∉ fp ∧ H b = some x) : ∀ (d : D) (v : V), Dp K G v d → Dp K (Gb H fp) v d
 | .none, _, h => by cases h; exact .non
 | .bool b, _, h => by cases h; exact .bl b
 | .int i, _, h => by cases h; exact .int i
 | .str x, _, h => by cases h; exact .str x
 | .list ds, _, h => by
  cases h with
  | lst hs ha => exact .lst (Same.seq (fun b x e => gb_of (hG b x e).2.2 (hG b x e).1 (hG b x e).2.1) hs) (dpsGb hG ds _ ha)
 | .tuple ds, _, h => by
  cases h with
  | tup hs ha => exact .tup (same_sqt (K := K) (fun b x e => gb_of (hG b x e).2.2 (hG b x e).1 (hG b x e).2.1) hs) (dpsGb hG ds _ ha)
 | .dict _, _, h => by cases h
theorem dpsGb {H : Hp} {G : Hp} {fp : List Addr} (hG : ∀ b x, G b = some x → NT x ∧ b ∉ fp ∧ H b = some x) : ∀ (ds : List D) (vs : List V), DpAll K G vs ds → DpAll K (Gb H fp) vs ds
 | [], _, h => by cases h; exact .nil
 | d :: ds, _, h => by
  cases h with
  | cons h1 h2 => exact .cons (dpGb hG d _ h1) (dpsGb hG ds _ h2)
end
end Fx
set_option Elab.async false
set_option linter.all false
set_option maxRecDepth 100000
namespace Fx
open PySem PySem.Spec L2
variable {K : Kc}
theorem Rep.gb {G H : Hp} {v : V} {o : OV} {fp fm : List Addr} (r : Rep K G H v o fp) (hG : ∀ b x, G b = some x → NT x ∧ b ∉ fm ∧ H b = some x) (hp : ∀ b ∈ fp, b ∉ fm ∧ ∃ x, H b = some x ∧ NT x) : Dp K (Gb H fm) v o.view := by
 have kp : ∀ b ∈ fp, ∀ x, H b = some x → Gb H fm b = some x := fun b hb x e => by
  obtain ⟨n, y, h1, h2⟩ := hp b hb
  rw [e] at h1; cases h1
  exact gb_of e h2 n
 cases o with
 | sh d => exact dpGb hG d v r.1
 | flat l =>
  obtain ⟨a, xs, rfl, h1, h2, rfl⟩ := r
  exact .lst (SqL.of (kp a (by simp) _ h1)) (dpsGb hG l xs h2)
 | tree d => exact trDp d v fp (trMono d v fp r kp)
theorem sees_gb {G H : Hp} {σ : St} {ds : DS} {F : Nat → List Addr} {W0 : Addr → Prop} {H0 : Hp} {fm : List Addr} (S : SI K G H σ ds F) (hm : ∀ b ∈ fm, G b = none) : ∀ {vs : List V} {rs : List RV} {fp : List Addr} {l : List D}, VReps K G H σ vs rs fp → Fp G H (Wf F) W0 H0 fp → (∀ b ∈ fp, b ∉ fm) → (∀ i : Nat, RV.loc i ∈ rs → ∀ b ∈ F i, b ∉ fm) → sees rs ds = some l → DpAll K (Gb H fm) vs l := by
 have hG : ∀ b x, G b = some x → NT x ∧ b ∉ fm ∧ H b = some x := fun b x e => ⟨S.gnt b x e, (fun z => by rw [hm b z] at e; cases e), S.sub b x e⟩
 intro vs rs fp l h
 induction h generalizing l with
 | nil => intro _ _ _ e; cases e; exact .nil
 | cons a t ih =>
  rename_i v vs r rs fp fq
  intro f hfm hl e
  simp only [sees, Option.bind_eq_some_iff, Option.map_eq_some_iff] at e
  obtain ⟨d, h1, l', h2, rfl⟩ := e
  refine .cons ?_ (ih f.right (fun b hb => hfm b (List.mem_append_right _ hb)) (fun i hi => hl i (by simp [hi])) h2)
  cases r with
  | ov o =>
   cases h1
   exact Rep.gb a hG fun b hb => ⟨hfm b (List.mem_append_left _ hb), (f.left.off b hb).2.1⟩
  | loc i =>
   simp only [see] at h1
   split at h1
   ·rename_i o ho
    cases h1
    obtain ⟨u, k1, k2⟩ := S.rep i o ho
    obtain rfl := look_eq k1 a.1
    exact Rep.gb k2 hG fun b hb => ⟨hl i (by simp) b hb, (S.off i b hb).2⟩
   ·cases h1
def fCall (n : Nat) (g : DS → Option DR) (fa : DS → Option (List RV × DS)) (ds : DS) : Option (RV × DS) :=
 (fa ds).bind fun p => (sees p.1 p.2).bind fun l => if l.length = n then (g (shs l)).bind fun r => match r with
  | .ret o _ => if o.own?.isSome then some (.ov o, p.2) else (frzs p.1 p.2).map fun q => (.ov o, q.2)
  | .ex _ _ => none else none
theorem re_call {mg : Str → Option Value} {n : Nat} {g : DS → Option DR} {t : TA} {fa : DS → Option (List RV × DS)} (ha : RA K t fa) : RE K (tCallS (spO ⟨K.fr, K.tb, none, n, none⟩ mg g) (WE (Z0 mg).W) t) (fCall n g fa) := by
 intro G H F σ ds rv ds' Q S e q
 have e0 := e
 simp only [fCall, Option.bind_eq_some_iff] at e
 obtain ⟨⟨ra, d1⟩, e1, l, e3, e4⟩ := e
 split at e4
 ·rename_i hn
  simp only [Option.bind_eq_some_iff] at e4
  obtain ⟨dr, e5, e6⟩ := e4
  cases dr with
  | ex x d => cases e6
  | ret o dd =>
  simp only at e6
  split at e6
  ·rename_i hc
   cases e6
   obtain ⟨d, hc⟩ := Option.isSome_iff_exists.mp hc
   refine ha G H F σ ds ra _ _ S e1 fun v1 G1 H1 F1 fp1 S1 t1 r1 f1 => ?_
   have dp := sees_gb (fm := []) S1 (fun _ h => nomatch h) r1 f1 (fun _ _ h => nomatch h) (fun _ _ _ _ h => nomatch h) e3
   have hl : v1.length = n := by rw [dpsLen dp]; exact hn
   subst hl
   refine ⟨rfl, Gb H1 [], fun _ => [], shs l, _, SI.shared (fun b x h => (gb_some h).1) (fun b x h => (gb_some h).2.1) S1.tab dp, e5, ?_⟩
   intro v G' H' F' fp S' t' r' f'
   have tf : Step (Wf (fun _ => [])) G1 H1 G1 H' (Wf F') := ⟨Same.refl _, t'.keep, t'.dom, fun b x e => .inl ⟨x, e⟩, t'.own⟩
   have SS := S1.frame tf (fun b x h => t'.keep b x (S1.sub b x h) noW (S1.gnt b x h).1) S1.gnt S'.tab fun a _ z => noW z
   have tt : Step (Wf F) G H G1 H' (Wf F1) := t1.trans ⟨Same.refl _, fun b x e n nt => t'.keep b x e noW nt, t'.dom, fun b x e => .inl ⟨x, e⟩, fun b z => .inl z⟩
   refine q v G1 H' F1 fp SS tt (Rep.closed (K := K) r' hc) ⟨f'.nod, fun a h => ?_, fun a h => .inr ?_⟩
   ·have fr : H1 a = none := (f'.new a h).elim (fun z => (noW z).elim) id
    refine ⟨S1.sub.free fr, (f'.off a h).2.1, fun ⟨i, z⟩ => ?_⟩
    obtain ⟨_, x, y, _⟩ := S1.off i a z
    rw [fr] at y; cases y
   ·exact t1.back ((f'.new a h).elim (fun z => (noW z).elim) id)
  ·simp only [Option.map_eq_some_iff] at e6
   obtain ⟨⟨l2, d2⟩, e7, e8⟩ := e6
   cases e8
   have el : l2 = l := Option.some.inj ((frzs_sees e7).symm.trans e3)
   subst el
   exact re_callS ha G H F σ ds (.ov o) d2 Q S (by simp only [fCallS, fCallX, e1, bindSome', e7, if_pos hn, e5, Option.map_some]) q
 ·cases e4
end Fx
set_option Elab.async false
set_option linter.all false
set_option maxRecDepth 100000
namespace Fx
open PySem PySem.Spec L2
section
variable {K : Kc} {X : Cx} {Z : Zc} {e : Expr} {es : List Expr} {tl : TA} {fl : DS → Option (List RV × DS)} {pos p : Pos} {k : Nat} {x : Str} {n : Nat} {g : DS → Option DR}
theorem Dk.le {P : Program} {w : World} {fr : PySem.W.Frag} {tb : List (Addr × Str)} {mg : Str → Option Value} {base : Heap} {k k' : Nat} {x : Str} {n : Nat} {g : DS → Option DR} (h : Dk P w fr tb mg base k x n g) (hk : k ≤ k') : Dk P w fr tb mg base k' x n g :=
 let ⟨f, fd, ps, h1, h2⟩ := h; ⟨f, fd, ps, h1.mono hk, h2⟩
theorem j_call {mg : Str → Option Value} (d : Dk X.prog X.w K.fr K.tb mg X.base k x n g) (hr : Room k X.A) (h : JA K X (e :: es) tl fl) (hg : Gl X x := by rfl) (hdb : (x == ("__debug__" : Str)) = false := by decide) (he : starEach (e :: es) X.env = (false, eval e X.env) :: starEach es X.env := by rfl) (hpl : (backTo pos (starEach es X.env)).any (·.1) = false := by rfl) (hk : X.K = K.fr := by rfl) (hmg : X.mg = mg := by rfl) :
  JE K X (.Call (.Name x p) (e :: es) [] pos) (tCallS (spO ⟨K.fr, K.tb, none, n, none⟩ mg g) (WE (Z0 mg).W) tl) (fCall n g fl) := by
 subst hmg
 obtain ⟨f, fd, ps, F, hm, hkp, hb⟩ := d
 rw [← hk] at F hkp hb
 refine ⟨?_, re_call h.r⟩
 rw [← hk]
 exact pe_callS F hr hg hm hkp hb (fun σ => passAt takes0 σ) h.p hdb he hpl
structure JX (K : Fr) (X : Cx) (Z : Zc) (e : Expr) (t : TE) (f : DS → Option ((RV × DS) ⊕ (Str × DS))) : Prop where
 p : PE X e t
 r : RX K Z t f
end
section
variable {K : Kc} {Z : Zc} {t : TE} {f : DS → Option ((RV × DS) ⊕ (Str × DS))}
def fSetX (i : Nat) (f : DS → Option ((RV × DS) ⊕ (Str × DS))) (ds : DS) : Option Out := (f ds).bind fun r => match r with
 | .inl p => (match p.1 with
  | .ov o => some (.nx (p.2.set i (some o)))
  | .loc _ => none)
 | .inr q => some (.ex q.1 q.2)
theorem rs_setX {i : Nat} (hi : i < K.n) (hf : K.free i) (h : RX K Z t f) : RS K Z [i] (tAsg t (gName i)) (fSetX i f) := by
 intro G H F σ ds o E S e q
 simp only [fSetX, Option.bind_eq_some_iff] at e
 obtain ⟨r, e1, e2⟩ := e
 cases r with
 | inl p =>
  obtain ⟨rv, d1⟩ := p
  cases rv with
  | ov u => cases e2; exact h G H F σ ds _ _ S e1 fun v G1 H1 F1 fp S1 t1 r1 f1 => q _ G1 H1 _ (S1.put i hi hf r1 f1) (t1.put f1.new) (Off.set i _ σ)
  | loc j => cases e2
 | inr p => cases e2; exact h G H F σ ds _ _ S e1 fun C G1 H1 F1 m S1 t1 => q C σ G1 H1 F1 m S1 t1 (Off.refl _ _)
def fRetX (f : DS → Option ((RV × DS) ⊕ (Str × DS))) (ds : DS) : Option Out := (f ds).bind fun r => match r with
 | .inl p => (mov p.1 p.2).map fun q => .ret q.1 q.2
 | .inr q => some (.ex q.1 q.2)
theorem rs_retX (h : RX K Z t f) : RS K Z [] (tRet t) (fRetX f) := by
 intro G H F σ ds o E S e q
 simp only [fRetX, Option.bind_eq_some_iff] at e
 obtain ⟨r, e1, e2⟩ := e
 cases r with
 | inl p =>
  obtain ⟨rv, d1⟩ := p
  simp only [Option.map_eq_some_iff] at e2
  obtain ⟨⟨o', d2⟩, e3, e4⟩ := e2
  cases e4
  refine h G H F σ ds _ _ S e1 fun v G1 H1 F1 fp S1 t1 r1 f1 => ?_
  obtain ⟨F2, fp2, S2, t2, r2, f2, _⟩ := mov_ok (fq := []) S1 t1 r1 (by rw [List.append_nil]; exact f1) e3
  rw [List.append_nil] at f2
  exact q v σ G1 H1 F2 fp2 S2 t2 (Off.refl _ _) r2 f2
 | inr p => cases e2; exact h G H F σ ds _ _ S e1 fun C G1 H1 F1 m S1 t1 => q C σ G1 H1 F1 m S1 t1 (Off.refl _ _)
def fRaise (x : Str) (ds : DS) : Option Out := some (.ex x ds)
theorem rs_raise {x : Str} {C : Addr} (hx : Z.mg x = some (.ref C)) : RS K Z [] (fun _ σ H => Z.W (.ref C) none σ H) (fRaise x) := by
 intro G H F σ ds o E S e q
 cases e
 exact q C σ G H F hx S (Step.refl _ _ _) (Off.refl _ _)
end
section
variable {K : Kc} {X : Cx} {Z : Zc} {e : Expr} {t : TE} {f : DS → Option ((RV × DS) ⊕ (Str × DS))} {pos p : Pos} {x : Str}
theorem s_retX (h : JX K X Z e t f) : JS K X Z [] (.Return (some e) pos) (tRet t) (fRetX f) := ⟨ps_ret h.p, rs_retX h.r⟩
theorem s_setX (i : Nat) {x : Str} {pos' : Pos} (hN : X.N.Nodup) (he : JX K X Z e t f) (hi : X.N[i]? = some x := by rfl) (hx : Loc X.env.scope x := by first | exact Or.inl rfl | exact Or.inr rfl) (hs : swapsWith e (some (.Name x pos')) pos.line X.env = pure false := by rfl) (hf : X.fn x = true ∨ X.env.scope.names.lookup x = some .local := by first | exact .inl rfl | exact .inr rfl | assumption)
  (kin : decide (i < K.n) = true := by rfl) (kif : K.freeB i = true := by rfl) : JS K X Z [i] (.Assign [.Name x pos'] e pos) (tAsg t (gName i)) (fSetX i f) := ⟨ps_set hN hi hx he.p hs hf, rs_setX (of_decide_eq_true kin) (Kc.freeB_ok kif) he.r⟩
structure ExT (fr : PySem.W.Frag) (mg : Str → Option Value) (x : Str) (C : Addr) : Prop where
 g : mg x = some (.ref C)
 x : PySem.W.excIn fr C [.type "ValueError", .type "Exception", .type "BaseException", .type "object"] "ValueError.__new__" = true
 k : PySem.W.keepIn fr (.ref C) = true
 b : PySem.W.subIn fr (.ref C) (.type "BaseException") = some true
 t : PySem.W.typeIn fr (.ref C) = some (.type "type")
 i : PySem.W.isClsIn fr C = true
end
end Fx
set_option Elab.async false
set_option linter.all false
set_option maxRecDepth 100000
namespace Fx
open PySem PySem.Spec L2
theorem s_raise {K : Kc} {X : Cx} {Z : Zc} {x m : Str} {j : Nat} {p p2 pos pos' : Pos} {C : Addr} (hc : X.calm = true) (tk : Takes X Z.W) (E : ExT K.fr Z.mg x C) (hz : X.mg = Z.mg := by rfl) (hg : Gl X x := by rfl) (hdb : (x == ("__debug__" : Str)) = false := by decide) (hk : X.K = K.fr := by rfl) :
  JS K X Z [] (.Raise (some (.Call (.Name x p) [.Constant (.str m) j p2] [] pos)) none pos') (fun _ σ H => Z.W (.ref C) none σ H) (fRaise x) := by
 obtain ⟨g1, x1, k1, b1, t1, i1⟩ := E
 refine ⟨?_, rs_raise g1⟩
 rw [← hk] at x1 k1 b1 t1
 exact ps_raise hc tk (pmk_own PySem.F.excBase_ValueError x1 (by rw [hz]; exact g1) k1 (raises_own b1 t1) hg hdb)
section
variable {K : Kc} {Z : Zc}
abbrev Kc.caught (K : Kc) (i : Nat) (a : Addr) : Kc := ⟨K.fr, K.tb, K.ob, K.n, some (i, a)⟩
theorem SI.catch {G H : Hp} {σ : St} {ds : DS} {F : Nat → List Addr} (S : SI K G H σ ds F) {i : Nat} (a : Addr) (hi : i < K.n) (hf : K.free i) : SI (K.caught i a) G H (σ.set i (some (.ref a))) (ds.set i none) (offF F i []) := by
 have S1 := S.shut i hi
 have lt : i < σ.length := by rw [S.sl]; exact hi
 have lt2 : i < ds.length := by rw [S.len]; omega
 refine ⟨S1.sub, S1.gnt, S1.tab, by rw [List.length_set]; exact S1.sl, S1.len, fun j o e => ?_, S1.nod, S1.off, S1.dis, fun o e => ?_, fun p e => ?_⟩
 ·by_cases hj : j = i
  ·subst hj
   rw [List.getElem?_set_self lt2] at e
   cases e
  ·obtain ⟨v, h1, h2⟩ := S1.rep j o e
   exact ⟨v, look_set (K := K) hf hj h1, h2⟩
 ·obtain ⟨h1, h2, b, dx, fs, k1, k2, k3⟩ := S1.obj o e
  have ne := Kc.free_ne hf e
  exact ⟨h1, by rw [List.length_set]; exact h2, b, dx, fs, by rw [List.getElem?_set_ne (Ne.symm ne)]; exact k1, k2, k3⟩
 ·cases e
  exact ⟨List.getElem?_set_self lt2, List.getElem?_set_self lt⟩
theorem SI.uncatch {G H : Hp} {σ : St} {ds : DS} {F : Nat → List Addr} {i : Nat} {a : Addr} (S : SI (K.caught i a) G H σ ds F) (hf : K.free i) (hx : K.ex = none) : SI K G H (σ.set i none) ds F := by
 have ex := S.exs (i, a) rfl
 refine ⟨S.sub, S.gnt, S.tab, by rw [List.length_set]; exact S.sl, S.len, fun j o e => ?_, S.nod, S.off, S.dis, fun o e => ?_, fun p e => by rw [hx] at e; cases e⟩
 ·have hj : j ≠ i := fun z => by subst z; rw [ex.1] at e; cases e
  obtain ⟨v, h1, h2⟩ := S.rep j o e
  exact ⟨v, look_set (K := K) hf hj h1, h2⟩
 ·obtain ⟨h1, h2, b, dx, fs, k1, k2, k3⟩ := S.obj o e
  have ne := Kc.free_ne hf e
  exact ⟨h1, by rw [List.length_set]; exact h2, b, dx, fs, by rw [List.getElem?_set_ne (Ne.symm ne)]; exact k1, k2, k3⟩
def fTry (x : Str) (i : Nat) (fb fs : DS → Option Out) (ds : DS) : Option Out := (fb ds).bind fun o => match o with
 | .ex y d => if y = x then (fs (d.set i none)).bind fun o => match o with
  | .ex _ _ => none
  | o => some o else none
 | o => some o
abbrev Zf (mg : Str → Option Value) : Zc := ⟨fun _ _ _ _ => False, mg⟩
theorem Off.end {T T' : List Nat} {i : Nat} {σ σ1 σ2 : St} {v w : Option V} (a : Off T σ σ1) (b : Off T' (σ1.set i v) σ2) : Off (T ++ (i :: T')) σ (σ2.set i w) := by
 refine ⟨by rw [List.length_set, b.1, List.length_set, a.1], fun j hj => ?_⟩
 have h1 : j ∉ T := fun z => hj (List.mem_append_left _ z)
 have h2 : j ≠ i := fun z => hj (List.mem_append_right _ (by simp [z]))
 have h3 : j ∉ T' := fun z => hj (List.mem_append_right _ (List.mem_cons_of_mem _ z))
 rw [List.getElem?_set_ne (Ne.symm h2), b.2 j h3, List.getElem?_set_ne (Ne.symm h2), a.2 j h1]
theorem rs_try {x : Str} {C : Addr} {i : Nat} {T T' : List Nat} {tb : WX → TS} {ts : Addr → TS} {fb fs : DS → Option Out} (hi : i < K.n) (hf : K.free i) (hx0 : K.ex = none) (hC : Z.mg x = some (.ref C)) (he : PySem.W.exmOne K.fr (.ref C) (.ref C) = some true)
  (hb : ∀ W, RS K ⟨W, Z.mg⟩ T (tb W) fb) (hs : ∀ a, RS (K.caught i a) (Zf Z.mg) T' (ts a) fs) :
  RS K Z (T ++ (i :: T')) (fun D σ H => tb (wAs K.fr (.ref C) i (fun a cls d D σ H => (cls = .ref C ∧ d = none) ∧ ts a D σ H) Z.W D) D σ H) (fTry x i fb fs) := by
 intro G H F σ ds o E S e q
 simp only [fTry, Option.bind_eq_some_iff] at e
 obtain ⟨o1, e1, e2⟩ := e
 refine hb _ G H F σ ds o1 E S e1 ?_
 cases o1 with
 | nx d => cases e2; exact fun σ' G' H' F' S' t' f' => q σ' G' H' F' S' t' f'.left
 | bk d => cases e2; exact fun σ' G' H' F' S' t' f' => q σ' G' H' F' S' t' f'.left
 | ct d => cases e2; exact fun σ' G' H' F' S' t' f' => q σ' G' H' F' S' t' f'.left
 | ret r d => cases e2; exact fun v σ' G' H' F' fp S' t' f' => q v σ' G' H' F' fp S' t' f'.left
 | ex y d =>
  simp only at e2
  split at e2
  ·rename_i hy
   subst hy
   simp only [Option.bind_eq_some_iff] at e2
   obtain ⟨o2, e3, e4⟩ := e2
   intro C' σ1 G1 H1 F1 m S1 t1 f1
   have hCC : C' = C := by
    have z : Z.mg y = some (.ref C') := m
    rw [hC] at z; cases z; rfl
   subst hCC
   refine ⟨true, he, fun _ a ha => ⟨⟨rfl, rfl⟩, ?_⟩, fun z => nomatch z⟩
   have S2 := S1.catch a hi hf
   have t2 : Step (Wf F) G H G1 H1 (Wf (offF F1 i [])) := t1.reown fun b hb => t1.own b (wf_shut hb)
   refine hs a G1 H1 _ _ _ o2 _ S2 e3 ?_
   cases o2 with
   | ex y' d' => cases e4
   | nx d' => cases e4; exact fun σ' G' H' F' S' t' f' => q _ G' H' F' (S'.uncatch hf hx0) (t2.trans t') (f1.end f')
   | bk d' => cases e4; exact fun σ' G' H' F' S' t' f' => q _ G' H' F' (S'.uncatch hf hx0) (t2.trans t') (f1.end f')
   | ct d' => cases e4; exact fun σ' G' H' F' S' t' f' => q _ G' H' F' (S'.uncatch hf hx0) (t2.trans t') (f1.end f')
   | ret r d' => cases e4; exact fun v σ' G' H' F' fp S' t' f' r' p' => q v _ G' H' F' fp (S'.uncatch hf hx0) (t2.trans t') (f1.end f') r' (p'.since t2)
  ·cases e2
end
section
variable {K : Kc} {X : Cx} {Z : Zc} {x n : Str} {C : Addr} {i : Nat} {body suite : List Stmt} {b₀ : Stmt} {np pos pos' : Pos} {T T' : List Nat} {tb : WX → TS} {ts : Addr → TS} {fb fs : DS → Option Out}
structure CaT (fr : PySem.W.Frag) (mg : Str → Option Value) (x : Str) (C : Addr) : Prop where
 g : mg x = some (.ref C)
 b : PySem.W.subIn fr (.ref C) (.type "BaseException") = some true
 d : PySem.W.hasDictIn fr C = true
 t : PySem.W.typeIn fr (.ref C) = some (.type "type")
 s : PySem.W.subIn fr (.ref C) (.ref C) = some true
theorem CaT.e {fr : PySem.W.Frag} {mg : Str → Option Value} (h : CaT fr mg x C) : PySem.W.exmOne fr (.ref C) (.ref C) = some true := PySem.W.exm_ref h.b h.d h.t h.s
theorem s_tryAs (i : Nat) (tk : Takes X Z.W) (E : CaT K.fr Z.mg x C) (hN : X.N.Nodup)
  (hb : ∀ (W : WX) (pn : List (Addr × Obj)) (xe : Value → Shared → Prop), Takes (X.tr pn xe) W → JB K (X.tr pn xe) ⟨W, Z.mg⟩ T body (tb W) fb)
  (hs : ∀ (a : Addr) (oe : Obj) (pn : List (Addr × Obj)), L2.Zc (.ref C) none oe → (∃ vs, oe.data = .fields vs) → JB (K.caught i a) (X.suite a ((a, oe) :: pn)) (Zf Z.mg) T' (b₀ :: suite) (ts a) fs)
  (hi : X.N[i]? = some n := by rfl) (hln : X.env.kindOf n = some .local := by rfl) (hg : Gl X x := by rfl) (hdb : (x == ("__debug__" : Str)) = false := by decide) (hst : X.stack = X.env :: X.outer := by rfl) (hfr : X.env.frame = some X.env.locals := by rfl) (hz : X.mg = Z.mg := by rfl) (hk : X.K = K.fr := by rfl) (kin : decide (i < K.n) = true := by rfl) (kif : K.freeB i = true := by rfl) (kx : K.ex = none := by rfl) :
  JS K X Z (T ++ (i :: T')) (.Try body [.ExceptHandler (some (.Name x np)) (some n) (b₀ :: suite) pos'] [] [] pos) (fun D σ H => tb (wAs K.fr (.ref C) i (fun a cls d D σ H => (cls = .ref C ∧ d = none) ∧ ts a D σ H) Z.W D) D σ H) (fTry x i fb fs) := by
 obtain ⟨kf, kt, ko, kn, kx'⟩ := K
 subst hk
 have hf : (⟨X.K, kt, ko, kn, kx'⟩ : Kc).free i := Kc.freeB_ok kif
 refine ⟨ps_try_as hst hfr hN hi hln ⟨hg, hdb, .inl (by rw [hz]; exact E.g)⟩ tk (fun W pn xe t _ => (hb W pn xe t).p) fun a oe cls d pn z f => ⟨fun pins s σ H D I h => ?_⟩, rs_try (of_decide_eq_true kin) hf kx E.g E.e (fun W => (hb W [] (fun _ _ => True) fun _ _ _ => trivial).r) fun a => (hs a ⟨.ref C, none, .fields #[], #[]⟩ [] ⟨rfl, rfl⟩ ⟨_, rfl⟩).r⟩
 obtain ⟨⟨rfl, rfl⟩, h⟩ := h
 exact (hs a oe pn z f).p.run pins s σ H D I h
end
end Fx
namespace Fx
open PySem PySem.Spec L2
end Fx
set_option Elab.async false
set_option linter.all false
set_option maxRecDepth 100000
namespace Fx
open PySem PySem.Spec L2
theorem re_isE {K : Kc} {i : Nat} {a D : Addr} {v : V} {cv : Value} {b : Bool} (hv : ∀ u, RelV v u → u = cv) (hb : PySem.W.kitOne K.fr (.ref D) cv = some b) : RE (K.caught i a) (tCB (rIsE K.fr D a) (tCons (tVar i) (tCons (tC v) tNil))) (fC (.bool b)) := by
 intro G H F σ ds r ds' Q S e q
 cases e
 refine ⟨.ref a, (S.exs (i, a) rfl).2, v, cv, b, rfl, hv, hb, ?_⟩
 exact q _ G H F [] S (Step.refl _ _ _) ⟨.bl b, rfl⟩ .nil
section
variable {K : Kc} {X : Cx} {a D C : Addr} {oe : Obj} {pn : List (Addr × Obj)} {x n : Str} {p pos p1 p2 : Pos} {i : Nat} {b : Bool}
theorem j_isE (i : Nat) (E : ExcC K.fr D) (hm : X.mg "isinstance" = none) (hz : L2.Zc (.ref D) none oe) (hf : ∃ vs, oe.data = .fields vs) (hx : X.mg x = some (.ref C)) (hb : PySem.W.kitOne K.fr (.ref D) (.ref C) = some b) (hN : X.N[i]? = some n := by rfl) (hv : Vis X.env.scope n := by first | exact Or.inl rfl | exact Or.inr (Or.inl rfl) | exact Or.inr (Or.inr rfl))
  (hd : (n == ("__debug__" : Str)) = false := by decide) (hcd : (n == ("__classdict__" : Str)) = false := by decide) (hg : Gl X "isinstance" := by rfl) (hgx : Gl X x := by rfl) (hd2 : (x == ("__debug__" : Str)) = false := by decide)
  (he : starEach [.Name n p1, .Name x p2] X.env = (false, eval (.Name n p1) X.env) :: starEach [.Name x p2] X.env := by rfl) (he2 : starEach [.Name x p2] X.env = (false, eval (.Name x p2) X.env) :: starEach [] X.env := by rfl) (hpl : (backTo pos (starEach [.Name x p2] X.env)).any (·.1) = false := by rfl) (hk : X.K = K.fr := by rfl) :
  JE (K.caught i a) (X.suite a ((a, oe) :: pn)) (.Call (.Name "isinstance" p) [.Name n p1, .Name x p2] [] pos) (tCB (rIsE K.fr D a) (tCons (tVar i) (tCons (tC (.ref C)) tNil))) (fC (.bool b)) := by
 refine ⟨?_, re_isE (fun u r => r) hb⟩
 rw [← hk] at E ⊢
 exact pe_callB (X := X.suite a ((a, oe) :: pn)) (call_isE E hz hf) hg hm (by decide +kernel) (pa_cons (pe_var hN hv hd hcd) (pa_cons (pe_glob (v := .ref C) hgx hx rfl hd2) pa_nil he2) he) (by decide) (by decide) he hpl
end
end Fx
set_option Elab.async false
set_option linter.all false
set_option maxRecDepth 100000
namespace Fx
open PySem PySem.Spec L2
structure Bx (P : Program) (base : Heap) : Prop where
 s : base.NoSeer
 t : P.given.tree = none
def StkOk (X : Cx) : Prop := ∃ e l, X.stack = e :: l ∧ e.scope.isGenerator = false ∧ e.scope.isCoroutine = false ∧ e.builtins = builtinsNs ∧ e.globals = mainGlobals
theorem op_fdP {X : Cx} {k : Nat} (B : Bx X.prog X.base) (hr : Room k X.A) (hk : 32 ≤ k) (hst : StkOk X) : OpR X (binaryOp .FloorDiv) (rI (fun _ j => j ≠ 0) fun i j => .int (i.fdiv j)) := by
 intro pins s σ H x y v u Q I rx ry h
 obtain ⟨i, j, rfl, rfl, hc, q⟩ := h
 obtain ⟨t, rfl⟩ := rx
 obtain ⟨t', rfl⟩ := ry
 obtain ⟨e, l, h1, h2, h3, h4, h5⟩ := hst
 have dp := hr.dp
 refine PyProof.Rows.floordiv_int hc ⟨.int (i.fdiv j), H, I.tok _, ⟨_, rfl⟩, q⟩ (.inr (PySem.PylongRoom.of I.nolimit ?_ ?_))
 ·show X.A.depth + 100 < recursionLimit
  omega
 ·exact PySem.SeerAt.of (B.s.keeps I.bk) B.t (by rw [I.ok.frames, h1]) h2 h3 h4 h5
section
variable {K : Kc} {X : Cx} {a b : Expr} {ta tb : TE} {fa fb : DS → Option (RV × DS)} {pos : Pos} {k : Nat}
theorem j_fdivP (B : Bx X.prog X.base) (hr : Room k X.A) (ha : JE K X a ta fa) (hb : JE K X b tb fb) (hk : 32 ≤ k := by decide) (hst : StkOk X := by exact ⟨_, _, rfl, rfl, rfl, rfl, rfl⟩) : JE K X (.BinOp a .FloorDiv b pos) (tOp (rI (fun _ j => j ≠ 0) fun i j => .int (i.fdiv j)) ta tb) (fOp (gI cNz fun i j => .int (i.fdiv j)) fa fb) :=
 ⟨pe_op (op_fdP B hr hk hst) ha.p hb.p, re_op (vop_I (fun _ _ h => of_decide_eq_true h) fun _ _ => .int _) ha.r hb.r⟩
end
end Fx
set_option Elab.async false
set_option linter.all false
set_option maxRecDepth 100000
namespace Fx
open PySem PySem.Spec L2
def scriptH (a : Addr) (us : List Value) (ns : List Int) : Hp := fun c => if c = a then some (.frz { cls := .type "list", data := .seq us.toArray } (.lst (ns.map V.int))) else none
theorem scriptH_at {a : Addr} {us : List Value} {ns : List Int} : scriptH a us ns a = some (.frz { cls := .type "list", data := .seq us.toArray } (.lst (ns.map V.int))) := if_pos rfl
theorem scriptH_off {a c : Addr} {us : List Value} {ns : List Int} (h : c ≠ a) : scriptH a us ns c = none := if_neg h
theorem only_script {a : Addr} {us : List Value} {ns : List Int} : Only (scriptH a us ns) := fun c => by
 by_cases h : c = a
 ·subst h; exact .inr ⟨_, _, scriptH_at⟩
 ·exact .inl (scriptH_off h)
theorem law_env {P : Program} {w : World} {K : PySem.W.Frag} {mg mb : Str → Option Value} {a : Addr} {z : Shared} {us : List Value} {ns : List Int} (kin : K.In z.heap) (gl : z.heap.Ns mainGlobals mg) (bl : z.heap.Ns builtinsNs mb)
  (bb : ∀ x : Str, x ≠ "__name__" → mb x = bootBuiltins x) (lim : z.heap.NoLimit) (gens : z.gens = #[]) (ho : z.heap.get? a = some { cls := .type "list", data := .seq us.toArray }) (hi : PyProof.Rows.IntsAre us ns) (small : ns.length ≤ sizeLine) (seer : z.heap.NoSeer) :
  ∃ (H : Hp) (base : Heap), Only H ∧ L2.SqL K H a (ns.map V.int) ∧ K.In base ∧ base.Ns mainGlobals mg ∧ base.NoSeer ∧ Env0 P w K mg base callerA [] z H := by
 have vals := vals_ints hi
 have step : ∀ T : Hp, Only T → L2.SqL K T a (ns.map V.int) → HOk P w T z.heap → (∀ c u, T c = some u → c = a ∧ K.lookup a = none) → ∃ (H : Hp) (base : Heap), Only H ∧ L2.SqL K H a (ns.map V.int) ∧ K.In base ∧ base.Ns mainGlobals mg ∧ base.NoSeer ∧ Env0 P w K mg base callerA [] z H := by
  intro T oT sT okT onlyA
  have out : ∀ {c : Addr}, (∀ u, T c ≠ some u) → T c = none := fun {c} h => by
   rcases some_or (T c) with ⟨u, e⟩ | e
   ·exact absurd e (h u)
   ·exact e
  have names : ∀ {c : Addr} {m : Str → Option Value}, z.heap.Ns c m → (hidT z.heap T).Ns c m := by
   rintro c m ⟨o, es, ep, e1, e2, e3⟩
   refine ⟨o, es, ep, hidT_get e1 (out fun u e => ?_), e2, e3⟩
   obtain ⟨rfl, _⟩ := onlyA c u e
   rw [ho] at e1
   cases e1
   cases e2
  have inn : K.In (hidT z.heap T) := fun c o e => hidT_get (kin c o e) (out fun u q => by
   obtain ⟨rfl, n⟩ := onlyA c u q
   rw [n] at e
   cases e)
  obtain ⟨mc, l1, l2⟩ := lim
  have see : (hidT z.heap T).NoSeer := by
   obtain ⟨⟨m1, a1, a2⟩, ⟨m2, b1, b2⟩, ⟨m3, c1, c2⟩, ⟨m4, bm, ob, d1, d2, d3, d4, d5⟩⟩ := seer
   refine ⟨⟨m1, names a1, a2⟩, ⟨m2, names b1, b2⟩, ⟨m3, names c1, c2⟩, ⟨m4, bm, ob, names d1, d2, hidT_get d3 (out fun u e => ?_), d4, d5⟩⟩
   obtain ⟨rfl, _⟩ := onlyA bm u e
   rw [ho] at d3
   cases d3
   exact absurd d4 (by simp)
  exact ⟨T, hidT z.heap T, oT, sT, inn, names gl, see, rfl, ⟨inn, names gl, ⟨mb, names bl, bb⟩, mc, names l1, l2⟩, fun c o e => of_hidT e, Nat.le_of_eq (hidT_size _ _), trivial, fun c hc => (nomatch (show c ∈ ([] : List Addr) from hc)), okT, .of_eq gens⟩
 rcases some_or (K.lookup a) with ⟨o, e⟩ | e
 ·have e1 := kin a o e
  rw [ho] at e1
  cases e1
  exact step (fun _ => none) (fun _ => .inl rfl) (.inr ⟨_, us.toArray, _, e, rfl, rfl, rfl, by rw [List.size_toArray, hi.length]; exact small, by simpa using vals⟩) (fun _ _ q => nomatch q) fun _ _ q => nomatch q
 ·refine step (scriptH a us ns) only_script (.inl (.inr ⟨_, scriptH_at⟩)) (fun c u q => ?_) fun c u q => ?_
  ·by_cases h : c = a
   ·subst h
    rw [scriptH_at] at q
    cases q
    exact ⟨ho, by rw [List.length_map]; exact small, us, _, vals, ho⟩
   ·rw [scriptH_off h] at q; cases q
  ·by_cases h : c = a
   ·exact ⟨h, e⟩
   ·rw [scriptH_off h] at q; cases q
theorem law_runG {P : Program} {w : World} {K : PySem.W.Frag} {mg : Str → Option Value} {base : Heap} {k : Nat} {x : Str} {st : Stmt} {f a : Addr} {fd : FuncData} {N : List Str} {v : Str} {fb : DS → Option Out} {ns : List Int} {z : Shared} {H : Hp} (F : L2.Fun K x x st f fd) (S : FnScope N [v] (defScope st))
  (bind : ∀ (s : Shared) (u : Value), BindsTo s fd ⟨[u], []⟩ [(v, u)]) (hr : Room (k + 1) callerA) (oH : Only H) (sH : L2.SqL K H a (ns.map V.int)) (env : Env0 P w K mg base callerA [] z H)
  (body : ∀ (cdv : Value) (A : Around) (outer : List Env) (s : Shared) (H : Hp) (E : XK), Room k (A.deeper (PyProof.Rows.envOfC x (defScope st) s.heap.objs.size f cdv)) → (A.deeper (PyProof.Rows.envOfC x (defScope st) s.heap.objs.size f cdv)).guards = some [] →
   ∃ t T, JB ⟨K, [], none, N.length, none⟩ (cxOf CX0 P w K mg base N x (defScope st) f cdv A outer s H E).nox (Zf mg) T (defBody st) t fb) (yes : ∃ d, funO [] 1 N.length fb [some (.sh (.list (ns.map PyData.int)))] = some (.ret (.sh (.bool true)) d)) :
  codeAny (model P w) callerA (.call (.ref f) ⟨[.ref a], []⟩) (fun r s' => r = .ok (.ret (.bool true)) ∧ PySem.OldK z.heap s'.heap ∧ s'.os = z.os ∧ PyProof.Rows.AllBare s'.gens) z := by
 obtain ⟨oc, od, kV, doc, pm, an, cdv, ct, osl, rfl, lk, hcd⟩ := F.ex
 have kin : K.In z.heap := env.mod.kin.keeps fun b o e => (env.bs b o e).1
 have lim : z.heap.NoLimit := env.mod.nolimit.keeps fun b o e => (env.bs b o e).1
 have kinds : ∀ y ∈ [v].zip [Value.ref a], (defScope st).names.lookup y.1 = some .local ∨ ((defScope st).names.lookup y.1 = some .cell ∧ ((cellsFrom (z.heap.objs.size + 1) (defScope st).names []).lookup y.1).isSome = true) := by
  intro y hy
  obtain rfl : y = (v, Value.ref a) := by simpa using hy
  rcases S.par v (by simp) with q | q
  ·exact .inl q
  ·exact .inr ⟨q, PySem.W.cellsFrom_some _ _ _ (.inl q)⟩
 refine codeAny_call_function hr.depth (kin _ _ lk) rfl S.co S.gen rfl (PySem.W.codeRec_of kin hcd) (bind z (.ref a) _ _ _ _ ?_)
 refine wpAny_newFunctionEnv_cells (binds := [(v, Value.ref a)]) S.kind kinds fun envv he s1 xx => ?_
 subst he
 refine ⟨lim.keeps xx.toInCall.keep, codeAny_func ?_⟩
 obtain ⟨t, T', J⟩ := body cdv callerA [] z H (fun _ _ _ => False) (hr.deeper _) rfl
 have I := inv_start (CX := CX0) (E := fun _ _ _ => False) (vs := [V.ref a]) (us := [Value.ref a]) S hr.hd env rfl (.cons rfl .nil) xx
 have dlist : L2.DpAll K H [V.ref a] [PyData.list (ns.map PyData.int)] := .cons (.lst sH (by
  clear sH yes
  induction ns with
  | nil => exact .nil
  | cons n ns ih => exact .cons (.int n) ih)) .nil
 have hN : [V.ref a].length ≤ N.length := by
  have z := congrArg List.length S.pre
  rw [List.length_take] at z
  simp at z ⊢
  omega
 have rd : t { nx := fun _ _ => False, rt := fun v _ => v = .bl true } (L2.start N [V.ref a]) H := by
  obtain ⟨dd, yes⟩ := yes
  have nt : ∀ b x, H b = some x → NT x := fun b x e => by
   rcases oH b with z | ⟨o, xs, z⟩
   ·rw [e] at z; cases z
   ·rw [e] at z; cases z
    exact ⟨(fun _ h => nomatch h), (fun _ h => nomatch h)⟩
  have S0 : SI ⟨K, [], none, 1, none⟩ H H ([V.ref a].map some) _ _ := SI.shared (vs := [V.ref a]) (Same.refl H) nt ⟨(fun p hp => (nomatch hp)), (fun b ps e => absurd rfl ((nt b _ e).1 ps))⟩ dlist
  have S1 : SI ⟨K, [], none, N.length, none⟩ H H (L2.start N [V.ref a]) _ _ := S0.pad (K := ⟨K, [], none, 1, none⟩) hN
  unfold funO at yes
  split at yes
  ·rename_i o d ho
   cases yes
   exact J.r H H _ _ _ _ _ S1 ho fun v σ' G' H' F' fp sg t1 f1 r1 p1 => by
    have r1 : Dp ⟨K, [], none, N.length, none⟩ G' v (.bool true) := r1.1
    cases r1
    rfl
  ·cases yes
  ·cases yes
  ·cases yes
 refine wpAny_mono (J.p.run [] s1 (L2.start N [V.ref a]) H _ (I.wish _) rd) (fun fl s' hs => ?_) fun e s' hs => hs.elim
 cases fl with
 | next => obtain ⟨_, _, _, q⟩ := hs; exact q.elim
 | brk => obtain ⟨_, _, _, q⟩ := hs; exact q.elim
 | cont => obtain ⟨_, _, _, q⟩ := hs; exact q.elim
 | ret u =>
  obtain ⟨v', σ', H', J', rv, q⟩ := hs
  have q : v' = .bl true := q
  subst q
  obtain rfl : u = Value.bool true := rv
  refine ⟨rfl, PySem.OldK.of_keep fun c o e => ?_, J'.os, J'.bare⟩
  rcases some_or (H c) with ⟨y, h⟩ | h
  ·rcases oH c with n | ⟨ob, xs, n⟩
   ·rw [h] at n; cases n
   ·have later := J'.base.frzs c ob _ n
    obtain ⟨e1, _⟩ := env.hok c _ n
    obtain ⟨e2, _⟩ := J'.hok c _ later
    rw [e] at e1
    cases e1
    exact e2
  ·exact J'.base.keep c o e h (by intro z; exact (nomatch (show c ∈ ([] : List Addr) from z))) (by intro z; exact (nomatch (show c ∈ ([] : List Addr) from z)))
theorem walk_G {l : PySem.W.OpenLaw} {n k : Nat} {q : Program} {loose : List Str} {XP : (Str → Option Value) → Heap → Prop} {YP : World → Heap → Prop} {d : DefRec} {K : Params → PySem.W.Frag} {st : Stmt} {N : List Str} {v : Str} {fb : DS → Option Out}
  (hn : l.most = some n) (hn2 : n ≤ sizeLine) (hdf : d.params.defaults = []) (hr : Room (k + 1) callerA) (hY : ∀ (w : World) (h : Heap), YP w h → (K w.params).In h) (hi : PyProof.Rows.importsNone q = true) (ht : l.prog.given.tree = none)
  (F : ∀ (w : World) (mg : Str → Option Value) (fa : Addr) (h : Heap), (K w.params).In h → h.Ns mainGlobals mg → mg d.name = some (.ref fa) →
   ∃ (x : Str) (fd : FuncData), L2.Fun (K w.params) x x st fa fd ∧ (∀ (s : Shared) (u : Value), BindsTo s fd ⟨[u], []⟩ [(v, u)]) ∧
    ∀ base : Heap, (K w.params).In base → base.Ns mainGlobals mg → Bx l.prog base → ∀ (cdv : Value) (A : Around) (outer : List Env) (s : Shared) (H : Hp) (E : XK), Room k (A.deeper (PyProof.Rows.envOfC x (defScope st) s.heap.objs.size fa cdv)) →
     (A.deeper (PyProof.Rows.envOfC x (defScope st) s.heap.objs.size fa cdv)).guards = some [] → ∃ t T, JB ⟨K w.params, [], none, N.length, none⟩ (cxOf CX0 l.prog w (K w.params) mg base N x (defScope st) fa cdv A outer s H E).nox (Zf mg) T (defBody st) t fb)
  (S : FnScope N [v] (defScope st)) (yes : ∀ ns : List Int, ns.length ≤ n → (∀ k ∈ ns, Builtin.Int.intBits k ≤ 1048576) → ∃ d, funO [] 1 N.length fb [some (.sh (.list (ns.map PyData.int)))] = some (.ret (.sh (.bool true)) d)) :
  PySem.W.WalkO q loose XP YP l.row.toRowW d [] (fun f vs => PySem.call f vs) := by
 refine Att.attach_callB hn hdf fun w s₀ z mg mb fa o pm cd doc a us ns G Y ho hd hcd hmg hobj hints hlen hbits hg => ?_
 have KX := hY w _ Y
 obtain ⟨x, fd, FF, bd, body⟩ := F w mg fa _ KX G.T.g hmg
 obtain ⟨H, base, oH, sH, b1, b2, b3, env⟩ := law_env (P := l.prog) (w := w) KX G.T.g G.T.b G.T.builtins G.T.nolimit hg hobj hints (Nat.le_trans hlen hn2) (G.T.seer hi)
 exact law_runG FF S bd hr oH sH env (body base b1 b2 ⟨b3, ht⟩) (yes ns hlen hbits)
end Fx
set_option Elab.async false
set_option linter.all false
set_option maxRecDepth 100000
namespace Fx
open PySem PySem.Spec L2
def back (i : Nat) (l : List D) : Out → Out
 | .nx d => .nx (d.set i (some (.flat l)))
 | .bk d => .bk (d.set i (some (.flat l)))
 | .ct d => .ct (d.set i (some (.flat l)))
 | .ret o d => .ret o (d.set i (some (.flat l)))
 | .ex x d => .ex x (d.set i (some (.flat l)))
variable {K : Fr} {Z : Zc}
theorem SI.open' {G H H0 : Hp} {σ : St} {ds : DS} {F : Nat → List Addr} {W0 : Addr → Prop} {v : V} {o : OV} {fp : List Addr} (S : SI K G H σ ds F) (i : Nat) (hi : i < K.n) (hf : K.free i) (hσ : σ[i]? = some (some v)) (r : Rep K G H v o fp) (f : Fp G H (Wf F) W0 H0 fp) : SI K G H σ (ds.set i (some o)) (offF F i fp) := by
 have e : σ.set i (some v) = σ := by
  refine List.ext_getElem? fun j => ?_
  by_cases hj : i = j
  ·subst hj
   rw [hσ]
   exact List.getElem?_set_self (List.getElem?_eq_some_iff.mp hσ).1
  ·exact List.getElem?_set_ne hj
 have := S.put i hi hf r f
 rwa [e] at this
end Fx
set_option Elab.async false
set_option linter.all false
set_option maxRecDepth 100000
namespace Fx
open PySem PySem.Spec L2
variable {X : Cx}
variable {K : Fr} {Z : Zc}
variable {e k : Expr} {te tk : TE} {fe fk : DS → Option (RV × DS)} {pos : Pos}
def fgLst (n : Nat) (g : List D → DS → Option DS) (d : D) (ds : DS) : Option DS := match d with
 | .list l => if l.length = n then g l ds else none
 | _ => none
@[simp] theorem fgLst_c {n : Nat} {g : List D → DS → Option DS} {l : List D} {x0 : Option OV} {l0 : DS} : fgLst n g (.list l) (x0 :: l0) = if l.length = n then g l (x0 :: l0) else none := rfl
end Fx
set_option Elab.async false
set_option linter.all false
set_option maxRecDepth 100000
set_option maxHeartbeats 4000000
namespace Fx
open PySem PySem.Spec L2 PySem.W PyProof.Rows
end Fx
set_option Elab.async false
set_option linter.all false
set_option maxRecDepth 100000
set_option maxHeartbeats 4000000
namespace Fx
open PySem PySem.Spec L2 PySem.W PyProof.Rows
end Fx
set_option Elab.async false
set_option linter.all false
set_option maxRecDepth 100000
set_option maxHeartbeats 4000000
namespace Fx
open PySem PySem.Spec L2
structure LamStep (T : List (Addr × Str)) (H H1 : Hp) : Prop where
 keep : ∀ b x, H b = some x → NB x → H1 b = some x
 dom : ∀ b x, H b = some x → ∃ y, H1 b = some y
 tab : TabX T H1
theorem LamStep.refl {T : List (Addr × Str)} {H : Hp} (t : TabX T H) : LamStep T H H := ⟨fun _ _ e _ => e, fun _ x e => ⟨x, e⟩, t⟩
end Fx
set_option Elab.async false
set_option linter.all false
set_option maxRecDepth 100000
set_option maxHeartbeats 4000000
namespace Fx
open PySem PySem.Spec L2 PyProof.Rows
end Fx
namespace Fx
open PySem PySem.Spec L2 PyProof.Rows
end Fx
set_option Elab.async false
set_option linter.all false
set_option maxRecDepth 100000
set_option maxHeartbeats 4000000
namespace Fx
open PySem PySem.Spec L2 PyProof.Rows
def capV (ds : DS) : List Nat → Option (List D)
 | [] => some []
 | j :: r => match ds[j]? with
  | some (some (.sh d)) => (capV ds r).map (d :: ·)
  | _ => none
variable {K : Kc}
end Fx
set_option Elab.async false
set_option linter.all false
set_option maxRecDepth 100000
set_option maxHeartbeats 4000000
namespace Fx
open PySem PySem.Spec L2 PyProof.Rows
end Fx
set_option Elab.async false
set_option linter.all false
set_option maxRecDepth 100000
set_option maxHeartbeats 4000000
namespace Fx
open PySem PySem.Spec L2 PyProof.Rows
end Fx
namespace Fx
open PySem PySem.Spec L2 PyProof.Rows
end Fx
set_option Elab.async false
set_option linter.all false
set_option maxRecDepth 100000
namespace Fx
open PySem PySem.Spec L2
variable {K : Kc}
theorem SI.moved {fr : PySem.W.Frag} {tb : List (Addr × Str)} {ob : Option Ob} {n : Nat} {ex : Option (Nat × Addr)} {G H : Hp} {σ : St} {ds : DS} {F : Nat → List Addr} {i : Nat} {o : OV} {v : V} {vs : List V} {l : List D} (S : SI ⟨fr, tb, ob, n, ex⟩ G H σ ds F) (r : Rep ⟨fr, tb, ob, n, ex⟩ G H v o (F i)) (h : L2.DpAll fr G vs l) :
  SI ⟨fr, tb, none, vs.length + 1, none⟩ G H ((v :: vs).map some) (some o :: shs l) (fun j => if j = 0 then F i else []) where
 sub := S.sub
 gnt := S.gnt
 tab := S.tab
 sl := by simp
 len := by
  have := dpsLen (K := ⟨fr, tb, none, 0, none⟩) h
  show (some o :: shs l).length = vs.length + 1 + 0
  simp; omega
 rep := fun j u e => by
  cases j with
  | zero =>
   have e : some (some o) = some (some u) := e
   cases e
   refine ⟨v, .inl rfl, ?_⟩
   show Rep _ G H v o (F i)
   cases o <;> exact r
  | succ j =>
   have e : (shs l)[j]? = some (some u) := e
   rw [List.getElem?_map] at e
   obtain ⟨d, h1, h2⟩ := Option.map_eq_some_iff.mp e
   cases h2
   obtain ⟨w, h3, h4⟩ := dpsGet (K := ⟨fr, tb, none, 0, none⟩) h h1
   exact ⟨w, .inl (by show (vs.map some)[j]? = _; rw [List.getElem?_map, h3]; rfl), h4, rfl⟩
 nod := fun j => by
  show (if j = 0 then F i else []).Nodup
  split
  ·exact S.nod i
  ·exact .nil
 off := fun j a ha => by
  have ha : a ∈ (if j = 0 then F i else []) := ha
  split at ha
  ·exact S.off i a ha
  ·cases ha
 dis := fun j k a h1 h2 => by
  have h1 : a ∈ (if j = 0 then F i else []) := h1
  have h2 : a ∈ (if k = 0 then F i else []) := h2
  split at h1
  ·split at h2
   ·omega
   ·cases h2
  ·cases h1
 obj := fun o e => nomatch e
 exs := fun o e => nomatch e
end Fx
set_option Elab.async false
set_option linter.all false
set_option maxRecDepth 100000
set_option maxHeartbeats 4000000
namespace Fx
open PySem PySem.Spec L2
end Fx
set_option Elab.async false
set_option linter.all false
set_option maxRecDepth 100000
set_option maxHeartbeats 4000000
namespace Fx
open PySem PySem.Spec L2
end Fx
set_option Elab.async false
set_option linter.all false
set_option maxRecDepth 100000
namespace Fx
open PySem PySem.Spec L2
end Fx
set_option Elab.async false
set_option linter.all false
set_option maxRecDepth 100000
namespace Fx
open PySem PySem.Spec L2
end Fx
set_option Elab.async false
set_option linter.all false
set_option maxRecDepth 100000
set_option maxHeartbeats 4000000
namespace Fx
open PySem PySem.Spec L2
def g2I (f : Int → Int → Int) (l : List D) : Option D := match l with
 | [.int i, .int j] => some (.int (f i j))
 | _ => none
section
variable {K : Kc} {X : Cx} {es : List Expr} {e a b c : Expr} {tl : TA} {fl : DS → Option (List RV × DS)} {ta tb tc : TE} {fa fb fc : DS → Option (RV × DS)} {p pos : Pos}
theorem vca_2I (f : Int → Int → Int) : VCa K (fun xs H Q => ∃ i j, xs = [.int i, .int j] ∧ Q (.int (f i j)) H) (g2I f) := by
 intro H xs l z Q h hz q
 unfold g2I at hz
 split at hz
 ·cases hz
  cases h with
  | cons h1 h2 =>
   cases h2 with
   | cons h3 h4 =>
    cases h4
    cases h1
    cases h3
    exact ⟨_, _, rfl, q _ (.int _)⟩
 ·cases hz
theorem j_min2 (hc : X.calm = true) (hm : X.mg "min" = none) (h : JA K X (e :: es) tl fl) (hg : Gl X "min" := by rfl) (hdb : (("min" : Str) == ("__debug__" : Str)) = false := by decide) (he : starEach (e :: es) X.env = (false, eval e X.env) :: starEach es X.env := by rfl) (hpl : (backTo pos (starEach es X.env)).any (·.1) = false := by rfl) :
  JE K X (.Call (.Name "min" p) (e :: es) [] pos) (tCB (fun xs H Q => ∃ i j, xs = [.int i, .int j] ∧ Q (.int (if j < i then j else i)) H) tl) (fCa (g2I fun i j => if j < i then j else i) fl) := ⟨pe_callB (call_min2 hc) hg hm (by decide +kernel) h.p (by decide) hdb he hpl, re_cb (vca_2I _) h.r⟩
def fCh (f f' : Int → Int → Bool) (fa fb fc : DS → Option (RV × DS)) (ds : DS) : Option (RV × DS) :=
 (fa ds).bind fun p => (fb p.2).bind fun q => match see p.1 q.2, see q.1 q.2 with
  | some (.int i), some (.int j) => if f i j = true then (fc q.2).bind fun r => match see r.1 r.2 with
    | some (.int k) => some (.ov (.sh (.bool (f' j k))), r.2)
    | _ => none
   else some (.ov (.sh (.bool false)), q.2)
  | _, _ => none
theorem re_chain {f f' : Int → Int → Bool} (ha : RE K ta fa) (hb : RE K tb fb) (hc : RE K tc fc) : RE K (tChain (rI0 fun i j => .bl (f i j)) (rI0 fun i j => .bl (f' i j)) ta tb tc) (fCh f f' fa fb fc) := by
 intro G H F σ ds rv ds' Q S e q
 simp only [fCh, Option.bind_eq_some_iff] at e
 obtain ⟨⟨ra, d1⟩, e1, ⟨rb, d2⟩, e2, e3⟩ := e
 split at e3
 ·rename_i i j hi hj
  refine ha G H F σ ds ra d1 _ S e1 fun v1 G1 H1 F1 fp1 S1 t1 r1 f1 => ?_
  refine hb G1 H1 F1 σ d1 rb d2 _ S1 e2 fun v2 G2 H2 F2 fp2 S2 t2 r2 f2 => ?_
  have z1 := see_ok S2 (r1.step f1 t2) hi
  have z2 := see_ok S2 r2 hj
  cases z1
  cases z2
  refine ⟨i, j, rfl, rfl, f i j, rfl, ?_⟩
  split at e3
  ·rename_i hf
   rw [if_pos hf]
   simp only [Option.bind_eq_some_iff] at e3
   obtain ⟨⟨rc, d3⟩, e4, e5⟩ := e3
   split at e5
   ·rename_i k hk
    cases e5
    refine hc G2 H2 F2 σ d2 rc d3 _ S2 e4 fun v3 G3 H3 F3 fp3 S3 t3 r3 f3 => ?_
    have z3 := see_ok S3 r3 hk
    cases z3
    exact ⟨j, k, rfl, rfl, q _ G3 H3 F3 [] S3 ((t1.trans t2).trans t3) ⟨.bl _, rfl⟩ .nil⟩
   ·cases e5
  ·rename_i hf
   cases e3
   rw [if_neg hf]
   exact q _ G2 H2 F2 [] S2 (t1.trans t2) ⟨.bl _, rfl⟩ .nil
 ·cases e3
inductive CmpN (X : Cx) : CmpOp → (Int → Int → Bool) → Prop
 | lt : CmpN X .Lt fun i j => decide (i < j)
 | le : CmpN X .LtE fun i j => decide (i ≤ j)
 | gt : CmpN X .Gt fun i j => decide (j < i)
 | ge : CmpN X .GtE fun i j => decide (j ≤ i)
theorem CmpN.ok {op : CmpOp} {f : Int → Int → Bool} : CmpN X op f → OpR X (compareOp op) (rI0 fun i j => .bl (f i j))
 | .lt => op_lt
 | .le => op_le
 | .gt => op_gt
 | .ge => op_ge
theorem k_chain {op op' : CmpOp} {f f' : Int → Int → Bool} (o : CmpN X op f) (o' : CmpN X op' f') (ha : JE K X a ta fa) (hb : JE K X b tb fb) (hc : JE K X c tc fc) (hm : lastMarks [op, op'] [b, c] = false := by with_unfolding_all rfl) :
  JT K X (.Compare a [op, op'] [b, c] pos) (tTest (tChain (rI0 fun i j => .bl (f i j)) (rI0 fun i j => .bl (f' i j)) ta tb tc)) (fBool (fCh f f' fa fb fc)) := ⟨pt_chain o.ok o'.ok ha.p hb.p hc.p hm, rt_bool (re_chain ha.r hb.r hc.r)⟩
end
end Fx
set_option Elab.async false
set_option linter.all false
set_option maxRecDepth 100000
set_option maxHeartbeats 4000000
namespace Fx
open PySem PySem.Spec L2
structure FnG (P : Program) (w : World) (fr : PySem.W.Frag) (mg : Str → Option Value) (base : Heap) (T : CXT) (k : Nat) (f : Addr) (fd : FuncData) (ps : List Str) (sp : Sp) : Prop where
 count : ∀ xs Hx W Ex, sp xs Hx W Ex → xs.length = ps.length
 runs : ∀ (A : Around) (outer : List Env) (z : Shared) (Hx : Hp) (ag : Args) (vals : List Value) (xs : List V) (W : VK) (Ex : XK), A.guards = some [] → Room k A → Env0 P w fr mg base A outer z Hx →
  BindsTo z fd ag (ps.zip vals) → Vals xs vals → sp xs Hx W Ex → codeAny (model P w) A (.call (.ref f) ag) (CR T outer P w Hx z W Ex) z
theorem FnG.le {P : Program} {w : World} {fr : PySem.W.Frag} {mg : Str → Option Value} {base : Heap} {T : CXT} {j k : Nat} {f : Addr} {fd : FuncData} {ps : List Str} {sp : Sp} (G : FnG P w fr mg base T j f fd ps sp) (h : j ≤ k) : FnG P w fr mg base T k f fd ps sp :=
 ⟨G.count, fun A outer z Hx ag vals xs W Ex hg rm => G.runs A outer z Hx ag vals xs W Ex hg (rm.mono h)⟩
def DkG (P : Program) (w : World) (fr : PySem.W.Frag) (tb : List (Addr × Str)) (mg : Str → Option Value) (base : Heap) (k : Nat) (x : Str) (n : Nat) (g : DS → Option DR) : Prop :=
 ∃ (f : Addr) (fd : FuncData) (ps : List Str), FnG P w fr mg base (L2.CX P w) k f fd ps (spO ⟨fr, tb, none, n, none⟩ mg g) ∧ mg x = some (.ref f) ∧ PySem.W.keepIn fr (.ref f) = true ∧ Binds fr fd ps []
end Fx
namespace Fx
open PySem PySem.Spec L2
theorem DkG.le {P : Program} {w : World} {fr : PySem.W.Frag} {tb : List (Addr × Str)} {mg : Str → Option Value} {base : Heap} {k k' : Nat} {x : Str} {n : Nat} {g : DS → Option DR} (h : DkG P w fr tb mg base k x n g) (hk : k ≤ k') : DkG P w fr tb mg base k' x n g :=
 let ⟨f, fd, ps, h1, h2⟩ := h; ⟨f, fd, ps, h1.le hk, h2⟩
end Fx
set_option Elab.async false
set_option linter.all false
set_option maxRecDepth 100000
namespace Fx
open PySem PySem.Spec L2
variable {K : Kc}
def nrm (d : D) : OV := if isSc d = true then .sh d else match d with
 | .list l => if l.all isSc = true then .flat l else .tree (.list l)
 | d => .tree d
theorem nrm_list {l : List D} : nrm (.list l) = if l.all isSc = true then .flat l else .tree (.list l) := rfl
theorem nrm_own (d : D) : (nrm d).own? = some d := by
 cases d with
 | list l =>
  rw [nrm_list]
  split
  ·rename_i h
   show (if l.all isSc then some (PyData.list l) else none) = _
   rw [if_pos h]
  ·rfl
 | _ => rfl
theorem own_view {o : OV} {d : D} (h : o.own? = some d) : o.view = d := by
 cases o with
 | sh e =>
  have h : (if isSc e then some e else none) = some d := h
  split at h
  ·cases h; rfl
  ·cases h
 | flat l =>
  have h : (if l.all isSc then some (PyData.list l) else none) = some d := h
  split at h
  ·cases h; rfl
  ·cases h
 | tree e => cases h; rfl
theorem nrm_view (d : D) : (nrm d).view = d := own_view (nrm_own d)
theorem tr_sc {H : Hp} {v : V} {d : D} {fp : List Addr} (t : Tr H v d fp) (h : isSc d = true) : fp = [] ∧ Sc v d := by
 cases t with
 | sc s => exact ⟨rfl, s⟩
 | lst _ _ => cases h
 | tup _ _ => cases h
theorem trs_sc {H G : Hp} : ∀ {vs : List V} {ds : List D} {fp : List Addr}, TrAll H vs ds fp → ds.all isSc = true → fp = [] ∧ DpAll K G vs ds
 | _, _, _, .nil, _ => ⟨rfl, .nil⟩
 | _, _, _, .cons a t, h => by
  rw [List.all_cons, Bool.and_eq_true] at h
  obtain ⟨h1, h2⟩ := tr_sc a h.1
  obtain ⟨h3, h4⟩ := trs_sc t h.2
  subst h1 h3
  exact ⟨rfl, .cons h2.dp h4⟩
theorem Rep.nrm {G H : Hp} {v : V} {d : D} {fp : List Addr} (t : Tr H v d fp) : Rep K G H v (nrm d) fp := by
 have sc : isSc d = true → Rep K G H v (.sh d) fp := fun h => by
  obtain ⟨h1, h2⟩ := tr_sc t h
  exact ⟨h2.dp, h1⟩
 cases d with
 | list l =>
  rw [nrm_list]
  split
  ·rename_i h
   cases t with
   | sc s => cases s
   | lst h1 h2 =>
    obtain ⟨h3, h4⟩ := trs_sc (K := K) (G := G) h2 h
    subst h3
    exact ⟨_, _, rfl, h1, h4, rfl⟩
  ·exact t
 | tuple l => exact t
 | dict l => exact t
 | none => exact sc rfl
 | bool b => exact sc rfl
 | int b => exact sc rfl
 | str b => exact sc rfl
theorem fp_slot {G H G0 H0 : Hp} {σ : St} {ds : DS} {F : Nat → List Addr} {W0 : Addr → Prop} (S : SI K G H σ ds F) (t : Step W0 G0 H0 G H (Wf F)) (i : Nat) : Fp G H (Wf (offF F i [])) W0 H0 (F i) :=
 ⟨S.nod i, fun b hb => ⟨(S.off i b hb).1, (S.off i b hb).2, fun ⟨j, hj⟩ => by
  unfold offF at hj
  split at hj
  ·cases hj
  ·rename_i hji; exact hji (S.dis j i b hj hb)⟩, fun b hb => t.own b ⟨i, hb⟩⟩
theorem Fp.less {G H H0 : Hp} {W W' W0 : Addr → Prop} {fp : List Addr} (f : Fp G H W W0 H0 fp) (h : ∀ b, W' b → W b) : Fp G H W' W0 H0 fp := ⟨f.nod, fun b hb => ⟨(f.off b hb).1, (f.off b hb).2.1, fun z => (f.off b hb).2.2 (h b z)⟩, f.new⟩
theorem wf_sh {F : Nat → List Addr} {i : Nat} {b : Addr} (h : Wf (offF F i []) b) : Wf F b := (wf_off h).elim id fun z => nomatch z
theorem Fp.poke {G H H0 : Hp} {W W0 : Addr → Prop} {fp : List Addr} (f : Fp G H W W0 H0 fp) {A : Addr} {o : HO} (ho : NT o) : Fp G (upd H A o) W W0 H0 fp := ⟨f.nod, fun b hb => ⟨(f.off b hb).1, by
  by_cases h : b = A
  ·subst h; exact ⟨o, upd_same, ho⟩
  ·rw [upd_ne h]; exact (f.off b hb).2.1, (f.off b hb).2.2⟩, f.new⟩
def ownR : RV → DS → Option (D × DS)
 | .ov o, ds => o.own?.map fun d => (d, ds)
 | .loc i, ds => match ds[i]? with
  | some (some o) => o.own?.map fun d => (d, ds.set i none)
  | _ => none
theorem ownR_ok {G H G0 H0 : Hp} {σ : St} {ds ds' : DS} {F : Nat → List Addr} {W0 : Addr → Prop} {v : V} {r : RV} {fp fq : List Addr} {d : D} (S : SI K G H σ ds F) (t : Step W0 G0 H0 G H (Wf F)) (h : VRep K G H σ v r fp) (f : Fp G H (Wf F) W0 H0 (fp ++ fq)) (e : ownR r ds = some (d, ds')) :
  ∃ F' fp', SI K G H σ ds' F' ∧ Step W0 G0 H0 G H (Wf F') ∧ Tr H v d fp' ∧ Fp G H (Wf F') W0 H0 (fp' ++ fq) ∧ ∀ b, Wf F' b → Wf F b := by
 cases r with
 | ov o =>
  simp only [ownR, Option.map_eq_some_iff] at e
  obtain ⟨d', e1, e2⟩ := e
  cases e2
  exact ⟨F, fp, S, t, Rep.own h e1, f, fun _ h => h⟩
 | loc i =>
  simp only [ownR] at e
  split at e
  ·rename_i o ho
   simp only [Option.map_eq_some_iff] at e
   obtain ⟨d', e1, e2⟩ := e
   cases e2
   obtain ⟨u, h1, h2⟩ := S.rep i o ho
   have h' : σ[i]? = some (some v) := h.1
   obtain rfl := look_eq h1 h'
   have hi : i < K.n := by
    have := (List.getElem?_eq_some_iff.mp h').1
    rw [S.sl] at this; exact this
   have e0 : fp = [] := h.2
   subst e0
   have fi := fp_slot S t i
   refine ⟨_, F i, S.shut i hi, t.reown fun b hb => t.own b (wf_sh hb), Rep.own h2 e1, fi.app (f.less fun b hb => wf_sh hb) fun b hb hq => ?_, fun b hb => wf_sh hb⟩
   exact (f.off b (by simpa using hq)).2.2 ⟨i, hb⟩
  ·cases e
theorem slot_own {G H : Hp} {σ : St} {ds : DS} {F : Nat → List Addr} (S : SI K G H σ ds F) {i : Nat} {o : OV} {l : List D} (hn : i < K.n) (hi : ds[i]? = some (some o)) (ho : o.own? = some (.list l)) : ∃ a xs fq, σ[i]? = some (some (.ref a)) ∧ H a = some (.lst xs) ∧ TrAll H xs l fq ∧ F i = a :: fq := by
 obtain ⟨v, h1, h2⟩ := S.rep i _ hi
 have t := Rep.own h2 ho
 have h1 := look_at h1 (by rw [S.sl]; exact hn)
 generalize hF : F i = fi at t
 cases t with
 | sc s => cases s
 | lst h3 h4 => exact ⟨_, _, _, h1, h3, h4, rfl⟩
def fAppT (i : Nat) (f : DS → Option (RV × DS)) (ds : DS) : Option Out := match ds[i]? with
 | some (some o) => match o.own? with
  | some (.list _) => (f ds).bind fun p => (ownR p.1 p.2).bind fun q => match q.2[i]? with
   | some (some o2) => match o2.own? with
    | some (.list l) => if l.length ≤ 1000000 then some (.nx (q.2.set i (some (nrm (.list (l ++ [q.1])))))) else none
    | _ => none
   | _ => none
  | _ => none
 | _ => none
theorem SI.changeT {G H G0 H0 : Hp} {σ : St} {ds : DS} {F : Nat → List Addr} {W0 : Addr → Prop} (S : SI K G H σ ds F) (t : Step W0 G0 H0 G H (Wf F)) {i : Nat} {a : Addr} {xs ys : List V} {m : List D} {fq fp gq : List Addr} (hn : i < K.n) (hf : K.free i) (hσ : σ[i]? = some (some (.ref a))) (hx : H a = some (.lst xs)) (hF : F i = a :: fq) (f : Fp G H (Wf F) W0 H0 fp)
  (hm : ∀ H', (∀ b, b ≠ a → ∀ x, H b = some x → H' b = some x) → TrAll H' ys m gq) (hg : ∀ b ∈ gq, b ∈ fq ∨ b ∈ fp) (hnd : gq.Nodup) :
  SI K G (upd H a (.lst ys)) σ (ds.set i (some (nrm (.list m)))) (offF F i (a :: gq)) ∧ Step W0 G0 H0 G (upd H a (.lst ys)) (Wf (offF F i (a :: gq))) := by
 have fi := fp_slot S t i
 rw [hF] at fi
 have S1 := S.shut i hn
 have ga : G a = none := (fi.off a (by simp)).1
 have S2 := S1.poke (o := .lst ys) hx nt_lst ga (fi.off a (by simp)).2.2 nt_lst
 have na : a ∉ gq := fun z => by
  rcases hg a z with z | z
  ·exact (List.nodup_cons.mp fi.nod).1 z
  ·exact (f.off a z).2.2 ⟨i, by simp [hF]⟩
 have f2 : Fp G (upd H a (.lst ys)) (Wf (offF F i [])) W0 H0 (a :: gq) := by
  refine Fp.poke ⟨List.nodup_cons.mpr ⟨na, hnd⟩, fun b hb => ?_, fun b hb => ?_⟩ nt_lst
  ·rcases List.mem_cons.mp hb with rfl | hb
   ·exact fi.off b (by simp)
   ·rcases hg b hb with z | z
    ·exact fi.off b (by simp [z])
    ·exact ⟨(f.off b z).1, (f.off b z).2.1, fun w => (f.off b z).2.2 (wf_sh w)⟩
  ·rcases List.mem_cons.mp hb with rfl | hb
   ·exact fi.new b (by simp)
   ·rcases hg b hb with z | z
    ·exact fi.new b (by simp [z])
    ·exact f.new b z
 have tr : Tr (upd H a (.lst ys)) (.ref a) (.list m) (a :: gq) := .lst upd_same (hm _ fun b h x e => by rw [upd_ne h]; exact e)
 have S3 := S2.open' i hn hf hσ (Rep.nrm (K := K) (G := G) tr) f2
 have e1 : offF (offF F i []) i (a :: gq) = offF F i (a :: gq) := by
  funext j; unfold offF; split <;> rfl
 rw [List.set_set, e1] at S3
 refine ⟨S3, ?_⟩
 have t1 := (t.reown (W' := Wf (offF F i [])) fun b hb => t.own b (wf_sh hb)).poke (A := a) (o := .lst ys) (t.own a ⟨i, by simp [hF]⟩)
 have t2 := t1.put (i := i) f2.new
 rw [e1] at t2
 exact t2
variable {Z : Zc}
theorem rs_appT {i : Nat} (hn : i < K.n) (hf : K.free i) {t : TE} {f : DS → Option (RV × DS)} (h : RE K t f) : RS K Z [] (tDrop (tBM K "list" rAppend (tVar i) (tCons t tNil))) (fAppT i f) := by
 intro G H F σ ds o E S e q
 simp only [fAppT] at e
 split at e
 ·rename_i o0 ho0
  split at e
  ·rename_i l0 hl0
   simp only [Option.bind_eq_some_iff] at e
   obtain ⟨⟨r, d1⟩, e1, ⟨d, d2⟩, e2, e3⟩ := e
   split at e3
   ·rename_i o2 ho2
    split at e3
    ·rename_i l hl
     split at e3
     ·rename_i hlen
      cases e3
      obtain ⟨a0, xs0, fq0, k1, k2, k3, k4⟩ := slot_own S hn ho0 hl0
      refine ⟨.ref a0, k1, .inl ⟨rfl, xs0, SqL.of k2⟩, ?_⟩
      refine h G H F σ ds r d1 _ S e1 fun v G1 H1 F1 fp1 S1 t1 r1 f1 => ?_
      obtain ⟨F2, fp', S2, t2, tv, f2, _⟩ := ownR_ok (fq := []) S1 t1 r1 (by rw [List.append_nil]; exact f1) e2
      obtain ⟨a, xs, fq, m1, m2, m3, m4⟩ := slot_own S2 hn ho2 hl
      rw [k1] at m1
      cases m1
      rw [List.append_nil] at f2
      refine ⟨a0, xs, v, rfl, rfl, m2, by rw [trsLen m3]; exact szOf hlen, ?_⟩
      have fi := fp_slot S2 t2 i
      rw [m4] at fi
      have nfp : ∀ b ∈ fp', b ≠ a0 := fun b hb z => (f2.off b hb).2.2 ⟨i, by rw [m4, z]; simp⟩
      have nfq : ∀ b ∈ fq, b ≠ a0 := fun b hb z => (List.nodup_cons.mp fi.nod).1 (z ▸ hb)
      obtain ⟨S3, t3⟩ := S2.changeT (ys := xs ++ [v]) (m := l ++ [d]) (gq := fq ++ (fp' ++ [])) t2 hn hf k1 m2 m4 f2 (fun H' k => trsApp (trsMono _ _ _ m3 fun b hb x e => k b (nfq b hb) x e) (.cons (trMono _ _ _ tv fun b hb x e => k b (nfp b hb) x e) .nil)) (fun b hb => by
        rw [List.append_nil] at hb
        exact List.mem_append.mp hb) (by
        rw [List.append_nil]
        refine List.nodup_append.mpr ⟨(List.nodup_cons.mp fi.nod).2, f2.nod, fun x h1 y h2 e => ?_⟩
        subst e
        exact (f2.off x h2).2.2 ⟨i, by rw [m4]; simp [h1]⟩)
      exact q σ G1 _ _ S3 t3 (Off.refl _ _)
     ·cases e3
    ·cases e3
   ·cases e3
  ·cases e
 ·cases e
end Fx
set_option Elab.async false
set_option linter.all false
set_option maxRecDepth 100000
namespace Fx
open PySem PySem.Spec L2
variable {K : Kc}
theorem Fp.perm {G H H0 : Hp} {W W0 : Addr → Prop} {fp fq : List Addr} (f : Fp G H W W0 H0 fp) (h : fp.Perm fq) : Fp G H W W0 H0 fq := ⟨h.nodup_iff.mp f.nod, fun a ha => f.off a (h.mem_iff.mpr ha), fun a ha => f.new a (h.mem_iff.mpr ha)⟩
end Fx
set_option Elab.async false
set_option linter.all false
set_option maxRecDepth 100000
namespace Fx
open PySem PySem.Spec L2
variable {K : Kc} {Z : Zc}
def frzL (ds : DS) : List Nat → DS
 | [] => ds
 | j :: r => match (frzL ds r)[j]? with
  | some (some o) => (frzL ds r).set j (some (.sh o.view))
  | _ => frzL ds r
theorem SI.frzL {G H : Hp} {σ : St} {ds : DS} {F : Nat → List Addr} (S : SI K G H σ ds F) : ∀ (l : List Nat), ∃ G' F', SI K G' H σ (Fx.frzL ds l) F' ∧ Step (Wf F) G H G' H (Wf F') ∧ ∀ b, Wf F' b → Wf F b
 | [] => ⟨G, F, S, Step.refl _ _ _, fun _ h => h⟩
 | j :: r => by
  obtain ⟨G1, F1, S1, t1, w1⟩ := S.frzL r
  unfold Fx.frzL
  split
  ·rename_i o ho
   have n : ∀ b ∈ F1 j, G1 b = none := fun b hb => (S1.off j b hb).1
   exact ⟨_, _, S1.drop j o ho, (t1.lay n fun b hb => t1.own b ⟨j, hb⟩).reown fun b hb => t1.own b (wf_sh hb), fun b hb => w1 b (wf_sh hb)⟩
  ·exact ⟨G1, F1, S1, t1, w1⟩
theorem SI.shutL {G H : Hp} {σ : St} {ds : DS} {F : Nat → List Addr} (S : SI K G H σ ds F) : ∀ (l : List Nat), (∀ i ∈ l, i < K.n) → ∃ F', SI K G H σ (wipeD ds l) F' ∧ ∀ j, (∀ b ∈ F' j, b ∈ F j)
 | [], _ => ⟨F, S, fun _ _ h => h⟩
 | j :: r, h => by
  obtain ⟨F1, S1, w1⟩ := S.shutL r fun i hi => h i (by simp [hi])
  refine ⟨_, S1.shut j (h j (by simp)), fun k b hb => ?_⟩
  unfold offF at hb
  split at hb
  ·cases hb
  ·exact w1 k b hb
def cl (T : List Nat) (d0 d1 : DS) (j : Nat) : Prop := match d1[j]? with
 | some (some o) => o.own?.isSome = true ∨ (j ∉ T ∧ d0[j]? = some (some o) ∧ ∃ d, o = .sh d)
 | _ => True
noncomputable def borEnd (i : Nat) (d : D) (T fo : List Nat) (d0 : DS) : Out → Option Out
 | .nx d' => if yes (∀ j, j ≠ i → cl T d0 (wipeD d' fo) j) = true then some (.nx ((wipeD d' fo).set i (some (nrm d)))) else none
 | .bk d' => if yes (∀ j, j ≠ i → cl T d0 (wipeD d' fo) j) = true then some (.bk ((wipeD d' fo).set i (some (nrm d)))) else none
 | .ct d' => if yes (∀ j, j ≠ i → cl T d0 (wipeD d' fo) j) = true then some (.ct ((wipeD d' fo).set i (some (nrm d)))) else none
 | .ret o d' => if o.own?.isSome = true then some (.ret o ((wipeD d' (List.range d'.length)).set i (some (nrm d)))) else none
 | .ex x d' => if yes (∀ j, j ≠ i → cl T d0 (wipeD d' fo) j) = true then some (.ex x ((wipeD d' fo).set i (some (nrm d)))) else none
noncomputable def fBorS (i : Nat) (fz fg fo T : List Nat) (f : DS → Option Out) (ds : DS) : Option Out := match (wipeD (frzL ds fz) fg)[i]? with
 | some (some o) => match o.own? with
  | some d => (f ((wipeD (frzL ds fz) fg).set i (some (.sh d)))).bind fun r => borEnd i d T fo (wipeD (frzL ds fz) fg) r
  | none => none
 | _ => none
theorem rs_bor {i : Nat} {fz fg fo T : List Nat} (hi : i < K.n) (hf : K.free i) (hT : i ∉ T) (hob : K.ob = none) (h1 : ∀ j ∈ fg, j < K.n) (h2 : ∀ j ∈ fo, j < K.n ∧ j ≠ i) {t : TS} {f : DS → Option Out} (h : RS K Z T t f) : RS K Z T t (fBorS i fz fg fo T f) := by
 intro G H F σ ds o E S e q
 unfold fBorS at e
 split at e
 ·rename_i o0 ho0
  split at e
  ·rename_i d hd
   simp only [Option.bind_eq_some_iff] at e
   obtain ⟨r, e1, e2⟩ := e
   obtain ⟨G1, F1, S1, t1, w1⟩ := S.frzL fz
   obtain ⟨FN, SN, wN⟩ := S1.shutL fg h1
   generalize hdN : wipeD (frzL ds fz) fg = dN at *
   have wN' : ∀ b, Wf FN b → Wf F1 b := fun b ⟨j, hb⟩ => ⟨j, wN j b hb⟩
   have tN : Step (Wf F) G H G1 H (Wf FN) := t1.reown fun b hb => t1.own b (wN' b hb)
   have ov := own_view hd
   have S3 := SN.drop i o0 ho0
   rw [ov] at S3
   obtain ⟨v0, k1, k2⟩ := SN.rep i _ ho0
   have k1 := look_at k1 (by rw [SN.sl]; exact hi)
   have tr := Rep.own k2 hd
   have mend : ∀ (σ' : St) (G' H' : Hp) (F' : Nat → List Addr) (d' : DS), SI K G' H' σ' d' F' → Step (Wf (offF FN i [])) (Fx.lay G1 H (FN i)) H G' H' (Wf F') → Off T σ σ' → ∀ fo : List Nat, (∀ j ∈ fo, j < K.n) → (∀ j, j ≠ i → cl T dN (wipeD d' fo) j) →
     ∃ F'', SI K G1 H' σ' ((wipeD d' fo).set i (some (nrm d))) F'' ∧ Step (Wf F) G H G1 H' (Wf F'') ∧ ∀ b, Wf F'' b → Wf F' b ∨ b ∈ FN i := by
    intro σ' G' H' F' d' S' t' off fo hfo hc
    obtain ⟨Fw, Sw, ww⟩ := S'.shutL fo hfo
    have sG : Same G1 G' := (same_lay fun b hb => (SN.off i b hb).1).trans t'.sg
    have inG : ∀ b ∈ FN i, ∃ x, G' b = some x ∧ H b = some x ∧ H' b = some x := fun b hb => by
     obtain ⟨_, x, hx, _⟩ := SN.off i b hb
     have : (Fx.lay G1 H (FN i)) b = some x := by rw [lay_in hb]; exact hx
     have := t'.sg b x this
     exact ⟨x, this, hx, S'.sub b x this⟩
    have dj : ∀ j b, b ∈ Fw j → b ∉ FN i := fun j b hb z => by
     obtain ⟨x, g1, _⟩ := inG b z
     rw [(Sw.off j b hb).1] at g1; cases g1
    have lD : d'.length = K.n + K.nf := S'.len
    have il : i < (wipeD d' fo).length := by rw [wipeD_length, lD]; omega
    refine ⟨offF Fw i (FN i), ⟨fun b x e => S'.sub b x (sG b x e), SN.gnt, S'.tab, S'.sl, by rw [List.length_set, wipeD_length]; exact lD, fun j u e => ?_, fun j => ?_, fun j b hb => ?_, fun j k b h3 h4 => ?_, fun u e => ?_, fun p e => ?_⟩, ?_, fun b hb => ?_⟩
    ·by_cases hj : j = i
     ·subst hj
      rw [List.getElem?_set_self il] at e
      cases e
      refine ⟨v0, .inl ((off.2 j hT).trans k1), ?_⟩
      unfold offF; rw [if_pos rfl]
      exact Rep.nrm (trMono _ _ _ tr fun b hb x e => by
       obtain ⟨y, _, g2, g3⟩ := inG b hb
       rw [e] at g2; cases g2; exact g3)
     ·rw [List.getElem?_set_ne (Ne.symm hj)] at e
      have cj := hc j hj
      unfold cl at cj
      rw [e] at cj
      obtain ⟨w, l1, l2⟩ := Sw.rep j u e
      unfold offF; rw [if_neg hj]
      rcases cj with cj | ⟨c1, c2, dd, c3⟩
      ·obtain ⟨dd, c⟩ := Option.isSome_iff_exists.mp cj
       exact ⟨w, l1, Rep.closed l2 c⟩
      ·subst c3
       obtain ⟨w', l3, l4⟩ := SN.rep j _ c2
       have z1 : Fw j = [] := l2.2
       refine ⟨w', ?_, l4.1, z1⟩
       rcases l3 with l3 | ⟨_, o', _, _, _, _, _, q1, _⟩
       ·exact .inl ((off.2 j c1).trans l3)
       ·rw [hob] at q1; cases q1
    ·unfold offF; split
     ·exact SN.nod i
     ·exact Sw.nod j
    ·unfold offF at hb
     split at hb
     ·obtain ⟨g0, x, gx, nt⟩ := SN.off i b hb
      obtain ⟨y, g1, g2, g3⟩ := inG b hb
      rw [gx] at g2; cases g2
      exact ⟨g0, x, g3, nt⟩
     ·obtain ⟨g0, x, gx, nt⟩ := Sw.off j b hb
      refine ⟨?_, x, gx, nt⟩
      rcases some_or (G1 b) with ⟨y, e⟩ | e
      ·rw [sG b y e] at g0; cases g0
      ·exact e
    ·unfold offF at h3 h4
     split at h3
     ·split at h4
      ·omega
      ·exact absurd h3 (dj k b h4)
     ·split at h4
      ·exact absurd h4 (dj j b h3)
      ·exact Sw.dis j k b h3 h4
    ·rw [hob] at e; cases e
    ·obtain ⟨g1, g2⟩ := Sw.exs p e
     have hs : i ≠ p.1 := fun z => by
      have := Kc.free_ex hf e
      exact this z.symm
     exact ⟨by rw [List.getElem?_set_ne hs]; exact g1, g2⟩
    ·refine tN.trans ⟨Same.refl _, fun b x e n nb => t'.keep b x e (fun z => n (wf_sh z)) nb, t'.dom, fun b x e => .inl ⟨x, e⟩, fun b hb => ?_⟩
     rcases wf_off hb with ⟨j, hb⟩ | hb
     ·exact (t'.own b ⟨j, ww j b hb⟩).imp wf_sh id
     ·exact .inl ⟨i, hb⟩
    ·rcases wf_off hb with ⟨j, hb⟩ | hb
     ·exact .inl ⟨j, ww j b hb⟩
     ·exact .inr hb
   refine h _ H _ σ _ r E S3 e1 ?_
   cases r with
   | nx d' =>
    simp only [borEnd] at e2
    split at e2
    ·rename_i hy
     cases e2
     intro σ' G' H' F' S' t' off
     obtain ⟨F'', S4, t4, _⟩ := mend σ' G' H' F' d' S' t' off fo (fun j hj => (h2 j hj).1) (of_yes hy)
     exact q σ' G1 H' F'' S4 t4 off
    ·cases e2
   | bk d' =>
    simp only [borEnd] at e2
    split at e2
    ·rename_i hy
     cases e2
     intro σ' G' H' F' S' t' off
     obtain ⟨F'', S4, t4, _⟩ := mend σ' G' H' F' d' S' t' off fo (fun j hj => (h2 j hj).1) (of_yes hy)
     exact q σ' G1 H' F'' S4 t4 off
    ·cases e2
   | ct d' =>
    simp only [borEnd] at e2
    split at e2
    ·rename_i hy
     cases e2
     intro σ' G' H' F' S' t' off
     obtain ⟨F'', S4, t4, _⟩ := mend σ' G' H' F' d' S' t' off fo (fun j hj => (h2 j hj).1) (of_yes hy)
     exact q σ' G1 H' F'' S4 t4 off
    ·cases e2
   | ret ro d' =>
    simp only [borEnd] at e2
    split at e2
    ·rename_i hy
     cases e2
     intro v σ' G' H' F' fp S' t' off rr ff
     have nf0 : K.nf = 0 := by unfold Kc.nf; rw [hob]
     obtain ⟨F'', S4, t4, w4⟩ := mend σ' G' H' F' d' S' t' off (List.range d'.length) (fun j hj => by
      have := S'.len
      have := List.mem_range.mp hj
      omega) (fun j _ => by
      unfold cl
      split
      ·rename_i o ho
       obtain ⟨h5, h6⟩ := wipeD_some ho
       exact absurd (List.mem_range.mpr (List.getElem?_eq_some_iff.mp h5).1) h6
      ·trivial)
     obtain ⟨dd, c⟩ := Option.isSome_iff_exists.mp hy
     have sG : Same G1 G' := (same_lay fun b hb => (SN.off i b hb).1).trans t'.sg
     refine q v σ' G1 H' F'' fp S4 t4 off (Rep.closed rr c) ⟨ff.nod, fun b hb => ⟨?_, (ff.off b hb).2.1, fun z => ?_⟩, fun b hb => ?_⟩
     ·rcases some_or (G1 b) with ⟨y, e⟩ | e
      ·have := (ff.off b hb).1
       rw [sG b y e] at this; cases this
      ·exact e
     ·rcases w4 b z with z | z
      ·exact (ff.off b hb).2.2 z
      ·obtain ⟨_, x, hx, _⟩ := SN.off i b z
       have : (Fx.lay G1 H (FN i)) b = some x := by rw [lay_in z]; exact hx
       have := t'.sg b x this
       rw [(ff.off b hb).1] at this; cases this
     ·rcases ff.new b hb with z | z
      ·exact tN.own b (wf_sh z)
      ·exact .inr z
    ·cases e2
   | ex x d' =>
    simp only [borEnd] at e2
    split at e2
    ·rename_i hy
     cases e2
     intro C σ' G' H' F' m S' t' off
     obtain ⟨F'', S4, t4, _⟩ := mend σ' G' H' F' d' S' t' off fo (fun j hj => (h2 j hj).1) (of_yes hy)
     exact q C σ' G1 H' F'' m S4 t4 off
    ·cases e2
  ·cases e
 ·cases e
section
variable {X : Cx} {st : Stmt} {ts : TS} {fs : DS → Option Out} {T : List Nat}
theorem s_bor (i : Nat) (fz fg fo : List Nat) (h : JS K X Z T st ts fs) (hT : i ∉ T := by decide) (hob : K.ob = none := by rfl) (h1 : (fg.all fun j => decide (j < K.n)) = true := by rfl) (h2 : (fo.all fun j => decide (j < K.n) && decide (j ≠ i)) = true := by rfl) (kin : decide (i < K.n) = true := by rfl) (kif : K.freeB i = true := by rfl) : JS K X Z T st ts (fBorS i fz fg fo T fs) :=
 ⟨h.p, rs_bor (of_decide_eq_true kin) (Kc.freeB_ok kif) hT hob (fun j hj => by
  have := (List.all_eq_true.mp h1) j hj
  exact of_decide_eq_true this) (fun j hj => by
  have := (List.all_eq_true.mp h2) j hj
  rw [Bool.and_eq_true] at this
  exact ⟨of_decide_eq_true this.1, of_decide_eq_true this.2⟩) h.r⟩
end
end Fx
set_option Elab.async false
set_option linter.all false
set_option maxRecDepth 100000
set_option maxHeartbeats 1000000
namespace Fx
open PySem PySem.Spec L2
variable {K : Kc} {Z : Zc}
def Sim (K : Kc) (t : TE) (f : DS → Option D) : Prop := ∀ (G H : Hp) (F : Nat → List Addr) (σ : St) (ds : DS) (d : D) (Q : VK), SI K G H σ ds F → f ds = some d → isSc d = true ∧ ((∀ v, Sc v d → Q v H) → t σ H Q)
end Fx
set_option Elab.async false
set_option linter.all false
set_option maxRecDepth 100000
set_option maxHeartbeats 1000000
namespace Fx
open PySem PySem.Spec L2 PyProof.Rows
section
variable {K : Kc} {Z : Zc} {X : Cx} {e k : Expr} {te tk : TE} {fe fk : DS → Option (RV × DS)} {pos : Pos}
structure JM (K : Kc) (X : Cx) (e : Expr) (t : TE) (f : DS → Option D) : Prop where
 p : PE X e t
 r : Sim K t f
theorem sim_c {v : V} {d : D} (h : Sc v d) : Sim K (tC v) (fun _ => some d) := by
 intro G H F σ ds d' Q S e
 cases e
 refine ⟨?_, fun q => q v h⟩
 cases h <;> rfl
theorem m_int {i j} : JM K X (.Constant (.int i) j pos) (tC (.int i)) (fun _ => some (.int i)) := ⟨pe_int, sim_c (.int i)⟩
end
end Fx
set_option Elab.async false
set_option linter.all false
set_option maxRecDepth 100000
namespace Fx
open PySem PySem.Spec L2
variable {K : Kc} {Z : Zc}
structure ClsO (fr : PySem.W.Frag) (o : Ob) : Prop where
 cls : L2.Cls fr o.cls
 na : ∀ f ∈ o.names, L2.NoAttr fr o.cls f
 sz : o.names.length < 900
 nd : o.names.Nodup
theorem nodup_len {α : Type} [BEq α] [LawfulBEq α] : ∀ {l m : List α}, l.Nodup → (∀ x ∈ l, x ∈ m) → l.length ≤ m.length
 | [], _, _, _ => Nat.zero_le _
 | x :: l, m, h, k => by
  have hx := k x (by simp)
  have hn := List.nodup_cons.mp h
  have := nodup_len (l := l) (m := m.erase x) hn.2 fun y hy => (List.mem_erase_of_ne (fun e => hn.1 (by rw [← e]; exact hy))).mpr (k y (by simp [hy]))
  rw [List.length_erase_of_mem hx] at this
  have : 0 < m.length := List.length_pos_of_mem hx
  simp only [List.length_cons]
  omega
theorem putF_keys (f : Str) (v : V) : ∀ fs : List (Str × V), (putF f v fs).map (·.1) = if f ∈ fs.map (·.1) then fs.map (·.1) else fs.map (·.1) ++ [f]
 | [] => by simp [putF]
 | (g, w) :: fs => by
  unfold putF
  by_cases h : g = f
  ·subst h
   simp
  ·have ih := putF_keys f v fs
   have h' : f ≠ g := fun e => h e.symm
   rw [if_neg h]
   simp only [List.map_cons, ih, List.mem_cons, h', false_or]
   split <;> simp
theorem obj_len {G H : Hp} {σ : St} {ds : DS} {F : Nat → List Addr} {o : Ob} (S : SI K G H σ ds F) (ho : K.ob = some o) : ds.length = K.n + o.names.length := by
 have := S.len
 unfold Kc.nf at this
 rw [ho] at this
 exact this
def fFld (i : Nat) (ds : DS) : Option (RV × DS) := match ds[i]? with
 | some (some u) => some (.ov (.sh u.view), ds.set i (some (.sh u.view)))
 | _ => none
theorem fld_look {H : Hp} {σ : St} {j : Nat} {f : Str} {v : V} {o : Ob} {a dx : Addr} {fs : List (Str × V)} (h : look K H σ (K.n + j) v) (hl : σ.length = K.n) (ho : K.ob = some o) (hj : o.names[j]? = some f) (hσ : σ[o.slot]? = some (some (.ref a))) (ha : H a = some (.ins o.cls dx fs)) : fs.lookup f = some v := by
 rcases h with h | ⟨h, o', b, C, dx', fs', n, q1, q2, q3, q4, q5⟩
 ·rw [List.getElem?_eq_none (by omega)] at h; cases h
 ·rw [ho] at q1; cases q1
  rw [hσ] at q2; cases q2
  rw [ha] at q3; cases q3
  have : K.n + j - σ.length = j := by omega
  rw [this, hj] at q4; cases q4
  exact q5
theorem re_fld {o : Ob} {j : Nat} {f : Str} (ho : K.ob = some o) (hc : ClsO K.fr o) (hj : o.names[j]? = some f) : RE K (tFld K.fr (tVar o.slot) f) (fFld (K.n + j)) := by
 intro G H F σ ds r ds' Q S e q
 unfold fFld at e
 split at e
 ·rename_i u hu
  cases e
  obtain ⟨g1, g2, a, dx, fs, k1, k2, k3, k4, k5, k6⟩ := S.obj o ho
  obtain ⟨v, h1, h2⟩ := S.rep _ u hu
  have n : ∀ b ∈ F (K.n + j), G b = none := fun b hb => (S.off _ b hb).1
  refine ⟨.ref a, k1, a, o.cls, dx, fs, v, rfl, k3, hc.cls, hc.na f (List.mem_of_getElem? hj), fld_look h1 S.sl ho hj k1 k3, ?_⟩
  exact q v _ H _ [] (S.drop _ u hu) (((Step.refl _ _ _).lay n fun b hb => .inl ⟨_, hb⟩).reown fun b hb => .inl (wf_sh hb)) ⟨h2.freeze n, rfl⟩ .nil
 ·cases e
theorem SI.putFld {G H H0 : Hp} {σ : St} {ds : DS} {F : Nat → List Addr} {W0 : Addr → Prop} {v : V} {u : OV} {fp : List Addr} {o : Ob} {j : Nat} {f : Str} {a dx : Addr} {fs : List (Str × V)} (S : SI K G H σ ds F) (ho : K.ob = some o) (hc : ClsO K.fr o) (hj : o.names[j]? = some f) (r : Rep K G H v u fp) (fP : Fp G H (Wf F) W0 H0 fp) (hσ : σ[o.slot]? = some (some (.ref a))) (ha : H a = some (.ins o.cls dx fs)) :
  SI K G (upd H a (.ins o.cls dx (putF f v fs))) σ (ds.set (K.n + j) (some u)) (offF F (K.n + j) fp) := by
 obtain ⟨g1, g2, a', dx', fs', k1, k2, k3, k4, k5, k6⟩ := S.obj o ho
 rw [hσ] at k1; cases k1
 rw [ha] at k3; cases k3
 have hlen := obj_len S ho
 have jl : j < o.names.length := (List.getElem?_eq_some_iff.mp hj).1
 have il : K.n + j < ds.length := by omega
 have aF : a ∈ F ds.length := by rw [k2]; simp
 have ne : ∀ k b, k ≠ ds.length → b ∈ F k → b ≠ a := fun k b hk hb z => hk (S.dis k _ b hb (z ▸ aF))
 have nep : ∀ b ∈ fp, b ≠ a := fun b hb z => (fP.off b hb).2.2 ⟨_, z ▸ aF⟩
 have nda : dx ≠ a := fun z => by
  have := S.nod ds.length
  rw [k2, z] at this
  simp at this
 have sN : ∀ b x, b ≠ a → H b = some x → upd H a (.ins o.cls dx (putF f v fs)) b = some x := fun b x h e => by rw [upd_ne h]; exact e
 have ga : G a = none := (S.off _ a aF).1
 refine ⟨fun b x e => ?_, S.gnt, ?_, S.sl, by rw [List.length_set]; exact S.len, fun k w e => ?_, fun k => ?_, fun k b hb => ?_, fun k m b h1 h2 => ?_, fun w e => ?_, fun p e => ?_⟩
 ·have : b ≠ a := fun z => by subst z; rw [ga] at e; cases e
  exact sN b x this (S.sub b x e)
 ·refine ⟨fun p hp => ?_, fun b ps e => (nt_upd nt_ins b _ e).elim (S.tab.2 b ps) fun z => absurd rfl (z.1 ps)⟩
  obtain ⟨ps, h1, h2, h3⟩ := S.tab.1 p hp
  have n1 : p.1 ≠ a := fun z => by rw [z, ha] at h1; cases h1
  refine ⟨ps, sN _ _ n1 h1, h2, fun pos cv hcv => ?_⟩
  obtain ⟨c, e1, e2⟩ := h3 pos cv hcv
  have n2 : c ≠ a := fun z => by rw [z, ha] at e2; cases e2
  exact ⟨c, e1, sN _ _ n2 e2⟩
 ·by_cases hk : k = K.n + j
  ·subst hk
   rw [List.getElem?_set_self il] at e
   cases e
   refine ⟨v, .inr ⟨by rw [S.sl]; omega, o, a, o.cls, dx, _, f, ho, hσ, upd_same, by rw [S.sl]; simpa using hj, by rw [lookup_putF, if_pos rfl]⟩, ?_⟩
   unfold offF; rw [if_pos rfl]
   exact r.mono (Same.refl G) fun b hb x hx => sN b x (nep b hb) hx
  ·rw [List.getElem?_set_ne (Ne.symm hk)] at e
   have kl : k < ds.length := (List.getElem?_eq_some_iff.mp e).1
   obtain ⟨z, h1, h2⟩ := S.rep k w e
   refine ⟨z, ?_, ?_⟩
   ·rcases h1 with h1 | ⟨h1, o', b, C, dx2, fs2, n, q1, q2, q3, q4, q5⟩
    ·exact .inl h1
    ·rw [ho] at q1; cases q1
     rw [hσ] at q2; cases q2
     rw [ha] at q3; cases q3
     refine .inr ⟨h1, o, a, o.cls, dx, _, n, ho, hσ, upd_same, q4, ?_⟩
     rw [lookup_putF, if_neg fun z => ?_]
     ·exact q5
     ·subst z
      have x1 := List.getElem?_eq_some_iff.mp q4
      have x2 := List.getElem?_eq_some_iff.mp hj
      obtain ⟨y1, y2⟩ := x1
      obtain ⟨y3, y4⟩ := x2
      have := (List.getElem_inj hc.nd (h₀ := y1) (h₁ := y3)).mp (by rw [y2, y4])
      rw [S.sl] at h1 this
      omega
   ·unfold offF; rw [if_neg hk]
    exact h2.mono (Same.refl G) fun b hb x hx => sN b x (ne k b (by omega) hb) hx
 ·unfold offF; split
  ·exact fP.nod
  ·exact S.nod k
 ·unfold offF at hb
  split at hb
  ·obtain ⟨p1, ⟨x, p2, p3⟩, _⟩ := fP.off b hb
   exact ⟨p1, x, sN b x (nep b hb) p2, p3⟩
  ·obtain ⟨p1, x, p2, p3⟩ := S.off k b hb
   refine ⟨p1, ?_⟩
   by_cases z : b = a
   ·subst z; exact ⟨_, upd_same, nt_ins⟩
   ·exact ⟨x, sN b x z p2, p3⟩
 ·unfold offF at h1 h2
  split at h1
  ·split at h2
   ·omega
   ·exact absurd ⟨m, h2⟩ (fP.off b h1).2.2
  ·split at h2
   ·exact absurd ⟨k, h1⟩ (fP.off b h2).2.2
   ·exact S.dis k m b h1 h2
 ·rw [ho] at e; cases e
  have hs : K.n + j ≠ o.slot := by rw [S.sl] at g2; omega
  refine ⟨by rw [List.getElem?_set_ne hs]; exact g1, g2, a, dx, _, hσ, ?_, upd_same, (sN _ _ nda k4), ?_, fun p hp => ?_⟩
  ·rw [List.length_set]
   unfold offF; rw [if_neg (by omega)]; exact k2
  ·rw [putF_keys]
   split
   ·exact k5
   ·rename_i hn
    exact List.nodup_append.mpr ⟨k5, by simp, fun x h1 y h2 e => by
     have : y = f := by simpa using h2
     subst this; subst e
     exact hn h1⟩
  ·have : p.1 ∈ (putF f v fs).map (·.1) := List.mem_map.mpr ⟨p, hp, rfl⟩
   rw [putF_keys] at this
   have key : p.1 ∈ fs.map (·.1) ∨ p.1 = f := by
    split at this
    ·exact .inl this
    ·rcases List.mem_append.mp this with h | h
     ·exact .inl h
     ·exact .inr (by simpa using h)
   rcases key with h | h
   ·obtain ⟨q, hq, e⟩ := List.mem_map.mp h
    rw [← e]; exact k6 q hq
   ·rw [h]; exact List.mem_of_getElem? hj
 ·obtain ⟨h1, h2⟩ := S.exs p e
  have hp : p.1 < K.n := by
   have := (List.getElem?_eq_some_iff.mp h2).1
   rw [S.sl] at this; exact this
  exact ⟨by rw [List.getElem?_set_ne (by omega)]; exact h1, h2⟩
theorem Step.putFld {W0 : Addr → Prop} {G0 H0 G H : Hp} {F : Nat → List Addr} {i : Nat} {fp : List Addr} {a : Addr} {x : HO} (t : Step W0 G0 H0 G H (Wf F)) (ha : Wf F a) (n : ∀ b ∈ fp, W0 b ∨ H0 b = none) : Step W0 G0 H0 G (upd H a x) (Wf (offF F i fp)) :=
 (t.poke (t.own a ha)).put n
theorem fs_small {o : Ob} {fr : PySem.W.Frag} (hc : ClsO fr o) {fs : List (Str × V)} (h1 : (fs.map (·.1)).Nodup) (h2 : ∀ p ∈ fs, p.1 ∈ o.names) : fs.length < 1000 := by
 have := nodup_len h1 (m := o.names) fun x hx => by
  obtain ⟨p, hp, rfl⟩ := List.mem_map.mp hx
  exact h2 p hp
 rw [List.length_map] at this
 have := hc.sz
 omega
def fPutF (i : Nat) (fe : DS → Option (RV × DS)) (ds : DS) : Option Out := (fe ds).bind fun p => match p.1 with
 | .ov u => some (.nx (p.2.set i (some u)))
 | .loc k => (frz (.loc k) p.2).map fun q => .nx (q.2.set i (some (.sh q.1)))
theorem rs_putF {o : Ob} {j : Nat} {f : Str} (ho : K.ob = some o) (hc : ClsO K.fr o) (hj : o.names[j]? = some f) {te : TE} {fe : DS → Option (RV × DS)} (h : RE K te fe) : RS K Z [] (sFld K.fr (tVar o.slot) te f) (fPutF (K.n + j) fe) := by
 intro G H F σ ds out E S e q
 simp only [fPutF, Option.bind_eq_some_iff] at e
 obtain ⟨⟨r, d1⟩, e1, e2⟩ := e
 refine h G H F σ ds r d1 _ S e1 fun v G1 H1 F1 fp S1 t1 r1 f1 => ?_
 have go : ∀ {G2 : Hp} {F2 : Nat → List Addr} {d2 : DS} {u : OV} {fp : List Addr}, SI K G2 H1 σ d2 F2 → Step (Wf F) G H G2 H1 (Wf F2) → Rep K G2 H1 v u fp → Fp G2 H1 (Wf F2) (Wf F) H fp → out = .nx (d2.set (K.n + j) (some u)) → tVar o.slot σ H1 fun x H2 => ∃ a C dx fs, x = .ref a ∧ H2 a = some (.ins C dx fs) ∧ L2.Cls K.fr C ∧ L2.NoAttr K.fr C f ∧ fs.length < 1000 ∧ E.nx σ (upd H2 a (.ins C dx (putF f v fs))) := by
  intro G2 F2 d2 u fp S2 t2 r2 f2 eo
  subst eo
  obtain ⟨g1, g2, a, dx, fs, k1, k2, k3, k4, k5, k6⟩ := S2.obj o ho
  refine ⟨.ref a, k1, a, o.cls, dx, fs, rfl, k3, hc.cls, hc.na f (List.mem_of_getElem? hj), fs_small hc k5 k6, ?_⟩
  exact q σ G2 _ _ (S2.putFld ho hc hj r2 f2 k1 k3) (t2.putFld ⟨_, by rw [k2]; simp⟩ f2.new) (Off.refl _ _)
 cases r with
 | ov u =>
  cases e2
  exact go S1 t1 r1 f1 rfl
 | loc k =>
  simp only [Option.map_eq_some_iff] at e2
  obtain ⟨⟨d, d2⟩, e3, e4⟩ := e2
  cases e4
  obtain ⟨G2, F2, S2, t2, s2, dd, f2⟩ := frz_ok (fq := []) S1 t1 r1 (by rw [List.append_nil]; exact f1) e3
  exact go S2 t2 (u := .sh d) (fp := []) ⟨dd, rfl⟩ .nil rfl
def fAugF (i : Nat) (fe : DS → Option (RV × DS)) (ds : DS) : Option Out := match ds[i]? with
 | some (some (.sh (.int x))) => (fe ds).bind fun p => match see p.1 p.2 with
  | some (.int y) => some (.nx (p.2.set i (some (.sh (.int (x + y))))))
  | _ => none
 | _ => none
theorem rs_augF {o : Ob} {j : Nat} {f : Str} (ho : K.ob = some o) (hc : ClsO K.fr o) (hj : o.names[j]? = some f) {te : TE} {fe : DS → Option (RV × DS)} (h : RE K te fe) : RS K Z [] (sFldAug K.fr (tVar o.slot) te rAdd f) (fAugF (K.n + j) fe) := by
 intro G H F σ ds out E S e q
 unfold fAugF at e
 split at e
 ·rename_i x hx
  simp only [Option.bind_eq_some_iff] at e
  obtain ⟨⟨r, d1⟩, e1, e2⟩ := e
  split at e2
  ·rename_i y hy
   cases e2
   obtain ⟨g1, g2, a, dx, fs, k1, k2, k3, k4, k5, k6⟩ := S.obj o ho
   obtain ⟨v, h1, h2⟩ := S.rep _ _ hx
   have h2 : Dp K G v (.int x) := h2.1
   cases h2
   refine ⟨.ref a, k1, a, o.cls, dx, fs, _, rfl, k3, hc.cls, hc.na f (List.mem_of_getElem? hj), fld_look h1 S.sl ho hj k1 k3, ?_⟩
   refine h G H F σ ds r d1 _ S e1 fun w G1 H1 F1 fp S1 t1 r1 f1 => ?_
   have xb := see_ok S1 r1 hy
   cases xb
   obtain ⟨g1', g2', a', dx', fs', k1', k2', k3', k4', k5', k6'⟩ := S1.obj o ho
   rw [k1] at k1'; cases k1'
   refine ⟨x, y, rfl, rfl, dx', fs', k3', fs_small hc k5' k6', ?_⟩
   exact q σ G1 _ _ (S1.putFld (W0 := Wf F) (H0 := H) (u := .sh (.int (x + y))) (fp := []) ho hc hj ⟨.int _, rfl⟩ .nil k1 k3') (t1.putFld ⟨_, by rw [k2']; simp⟩ fun _ h => nomatch h) (Off.refl _ _)
  ·cases e2
 ·cases e
end Fx
set_option Elab.async false
set_option linter.all false
set_option maxRecDepth 100000
set_option maxHeartbeats 1000000
namespace Fx
open PySem PySem.Spec L2
variable {K : Kc} {Z : Zc}
theorem SI.into {o : Ob} {G H : Hp} {σ : St} {ds : DS} {F : Nat → List Addr} {a : Addr} {vs : List V} {l : List D} (S : SI K G H σ ds F) (ho : K.ob = some o) (hl : DpAll K G vs l) (hσ : σ[o.slot]? = some (some (.ref a))) :
  SI ⟨K.fr, K.tb, some ⟨0, o.cls, o.names⟩, vs.length + 1, none⟩ G H ((.ref a :: vs).map some) (none :: (shs l ++ ds.drop K.n)) (fun j => if j ≤ vs.length then [] else F (j - (vs.length + 1) + K.n)) := by
 have ll := dpsLen hl
 have hlen := obj_len S ho
 obtain ⟨g1, g2, a', dx, fs, k1, k2, k3, k4, k5, k6⟩ := S.obj o ho
 rw [hσ] at k1; cases k1
 have e1 : ∀ j, vs.length + 1 ≤ j → (none :: (shs l ++ ds.drop K.n) : DS)[j]? = ds[j - (vs.length + 1) + K.n]? := fun j hj => by
  obtain ⟨m, rfl⟩ : ∃ m, j = m + 1 := ⟨j - 1, by omega⟩
  rw [List.getElem?_cons_succ, List.getElem?_append_right (by simp; omega), List.getElem?_drop]
  congr 1
  simp
  omega
 have e2 : (none :: (shs l ++ ds.drop K.n) : DS).length = vs.length + 1 + o.names.length := by simp; omega
 refine ⟨S.sub, S.gnt, S.tab, by simp, ?_, fun j u e => ?_, fun j => ?_, fun j b hb => ?_, fun j k b h1 h2 => ?_, fun w e => ?_, fun p e => nomatch e⟩
 ·rw [e2]; rfl
 ·by_cases hj : vs.length + 1 ≤ j
  ·rw [e1 j hj] at e
   have jl := (List.getElem?_eq_some_iff.mp e).1
   obtain ⟨v, h1, h2⟩ := S.rep _ u e
   refine ⟨v, ?_, ?_⟩
   ·rcases h1 with h1 | ⟨h1, o', b, C, dx', fs', n, q1, q2, q3, q4, q5⟩
    ·have := (List.getElem?_eq_some_iff.mp h1).1
     rw [S.sl] at this; omega
    ·rw [ho] at q1; cases q1
     rw [hσ] at q2; cases q2
     refine .inr ⟨by simp; omega, ⟨0, o.cls, o.names⟩, a, C, dx', fs', n, rfl, rfl, q3, ?_, q5⟩
     have : j - ((V.ref a :: vs).map some).length = j - (vs.length + 1) + K.n - σ.length := by rw [S.sl]; simp
     rw [this]; exact q4
   ·rw [if_neg (by omega)]; exact h2
  ·cases j with
   | zero =>
    have e : some (none : Option OV) = some (some u) := e
    cases e
   | succ m =>
    have hm : m < l.length := by omega
    rw [List.getElem?_cons_succ, List.getElem?_append_left (by simpa using hm), List.getElem?_map] at e
    obtain ⟨d, h1, h2⟩ := Option.map_eq_some_iff.mp e
    cases h2
    obtain ⟨w, h3, h4⟩ := dpsGet hl h1
    exact ⟨w, .inl (by show ((V.ref a :: vs).map some)[m + 1]? = _; rw [List.map_cons, List.getElem?_cons_succ, List.getElem?_map, h3]; rfl), h4, by rw [if_pos (by omega)]⟩
 ·show (if j ≤ vs.length then [] else F (j - (vs.length + 1) + K.n)).Nodup
  split
  ·exact .nil
  ·exact S.nod _
 ·have hb : b ∈ (if j ≤ vs.length then [] else F (j - (vs.length + 1) + K.n)) := hb
  split at hb
  ·cases hb
  ·exact S.off _ b hb
 ·have h1 : b ∈ (if j ≤ vs.length then [] else F (j - (vs.length + 1) + K.n)) := h1
  have h2 : b ∈ (if k ≤ vs.length then [] else F (k - (vs.length + 1) + K.n)) := h2
  split at h1
  ·cases h1
  ·split at h2
   ·cases h2
   ·have := S.dis _ _ b h1 h2
    omega
 ·cases e
  refine ⟨rfl, by simp, a, dx, fs, rfl, ?_, k3, k4, k5, k6⟩
  rw [e2]
  show (if vs.length + 1 + o.names.length ≤ vs.length then [] else F (vs.length + 1 + o.names.length - (vs.length + 1) + K.n)) = _
  rw [if_neg (by omega), ← k2]
  congr 1
  omega
def fMethX (p n : Nat) (g : DS → Option DR) (fa : DS → Option (List RV × DS)) (ds : DS) : Option ((RV × DS) ⊕ (Str × DS)) :=
 (fa ds).bind fun q => (frzs q.1 q.2).bind fun w => if w.1.length + 1 = n then (g (none :: (shs w.1 ++ w.2.drop p))).map fun r => match r with
  | .ret o d => .inl (.ov o, w.2.take p ++ d.drop n)
  | .ex x d => .inr (x, w.2.take p ++ d.drop n) else none
theorem SI.outof {o : Ob} {G H G' H' : Hp} {σ : St} {ds d' : DS} {F F' : Nat → List Addr} {a : Addr} {vs : List V} (S : SI K G H σ ds F) (ho : K.ob = some o) (hσ : σ[o.slot]? = some (some (.ref a)))
  (S' : SI ⟨K.fr, K.tb, some ⟨0, o.cls, o.names⟩, vs.length + 1, none⟩ G' H' ((.ref a :: vs).map some) d' F') (t : Step (Wf (fun j => if j ≤ vs.length then [] else F (j - (vs.length + 1) + K.n))) G H G' H' (Wf F')) :
  SI K G' H' σ (ds.take K.n ++ d'.drop (vs.length + 1)) (fun j => if j < K.n then F j else F' (j - K.n + (vs.length + 1))) ∧ Step (Wf F) G H G' H' (Wf fun j => if j < K.n then F j else F' (j - K.n + (vs.length + 1))) := by
 have hlen := obj_len S ho
 have hlen' : d'.length = vs.length + 1 + o.names.length := S'.len
 obtain ⟨g1, g2, a0, dx, fs, k1, k2, k3, k4, k5, k6⟩ := S.obj o ho
 rw [hσ] at k1; cases k1
 obtain ⟨g1', g2', a1, dx', fs', k1', k2', k3', k4', k5', k6'⟩ := S'.obj _ rfl
 have k1' : some (some (V.ref a)) = some (some (V.ref a1)) := k1'
 cases k1'
 have inn : ∀ {b}, Wf (fun j => if j ≤ vs.length then [] else F (j - (vs.length + 1) + K.n)) b → ∃ k, K.n ≤ k ∧ b ∈ F k := fun {b} ⟨j, hj⟩ => by
  have hj : b ∈ (if j ≤ vs.length then [] else F (j - (vs.length + 1) + K.n)) := hj
  split at hj
  ·cases hj
  ·exact ⟨_, by omega, hj⟩
 have out : ∀ {j b}, j < K.n → b ∈ F j → ¬ Wf (fun j => if j ≤ vs.length then [] else F (j - (vs.length + 1) + K.n)) b := fun {j b} hj hb z => by
  obtain ⟨k, h1, h2⟩ := inn z
  have := S.dis j k b hb h2
  omega
 have kp : ∀ j b, j < K.n → b ∈ F j → ∀ x, H b = some x → H' b = some x := fun j b hj hb x e => by
  obtain ⟨_, y, h1, h2⟩ := S.off j b hb
  rw [e] at h1; cases h1
  exact t.keep b x e (out hj hb) h2.1
 have gn : ∀ j b, j < K.n → b ∈ F j → G' b = none := fun j b hj hb => by
  obtain ⟨h1, x, h2, h3⟩ := S.off j b hb
  rcases some_or (G' b) with ⟨y, e⟩ | e
  ·rcases t.new b y e with ⟨z, e'⟩ | w | e'
   ·rw [h1] at e'; cases e'
   ·exact absurd w (out hj hb)
   ·rw [h2] at e'; cases e'
  ·exact e
 have el : (ds.take K.n ++ d'.drop (vs.length + 1)).length = K.n + o.names.length := by simp; omega
 have g1e : ∀ j, j < K.n → (ds.take K.n ++ d'.drop (vs.length + 1))[j]? = ds[j]? := fun j hj => by
  rw [List.getElem?_append_left (by simp; omega), List.getElem?_take_of_lt hj]
 have g2e : ∀ j, K.n ≤ j → (ds.take K.n ++ d'.drop (vs.length + 1))[j]? = d'[j - K.n + (vs.length + 1)]? := fun j hj => by
  have e : (ds.take K.n).length = K.n := by simp; omega
  rw [List.getElem?_append_right (by omega), e, List.getElem?_drop]
  congr 1
  omega
 refine ⟨⟨S'.sub, S'.gnt, S'.tab, S.sl, ?_, fun j u e => ?_, fun j => ?_, fun j b hb => ?_, fun j k b h1 h2 => ?_, fun w e => ?_, fun p e => ?_⟩, ⟨t.sg, fun b x e n nb => t.keep b x e (fun z => n (by
  obtain ⟨k, _, h⟩ := inn z
  exact ⟨k, h⟩)) nb, t.dom, fun b x e => (t.new b x e).imp id fun z => z.imp (fun z => by
  obtain ⟨k, _, h⟩ := inn z
  exact ⟨k, h⟩) id, fun b ⟨j, hj⟩ => ?_⟩⟩
 ·rw [el]
  show K.n + o.names.length = K.n + Kc.nf K
  unfold Kc.nf
  rw [ho]
 ·by_cases hj : j < K.n
  ·rw [g1e j hj] at e
   obtain ⟨v, h1, h2⟩ := S.rep j u e
   refine ⟨v, ?_, ?_⟩
   ·rcases h1 with h1 | ⟨h1, _⟩
    ·exact .inl h1
    ·rw [S.sl] at h1; omega
   ·show Rep K G' H' v u (if j < K.n then F j else _)
    rw [if_pos hj]
    exact h2.mono t.sg fun b hb x hx => kp j b hj hb x hx
  ·rw [g2e j (by omega)] at e
   obtain ⟨v, h1, h2⟩ := S'.rep _ u e
   refine ⟨v, ?_, ?_⟩
   ·rcases h1 with h1 | ⟨h1, o', b, C, dx2, fs2, n, q1, q2, q3, q4, q5⟩
    ·have := (List.getElem?_eq_some_iff.mp h1).1
     simp at this
     omega
    ·cases q1
     have q2 : some (some (V.ref a)) = some (some (V.ref b)) := q2
     cases q2
     refine .inr ⟨by rw [S.sl]; omega, o, a, C, dx2, fs2, n, ho, hσ, q3, ?_, q5⟩
     have : j - K.n + (vs.length + 1) - ((V.ref a :: vs).map some).length = j - σ.length := by rw [S.sl]; simp
     rw [this] at q4; exact q4
   ·show Rep K G' H' v u (if j < K.n then F j else _)
    rw [if_neg hj]
    cases u <;> exact h2
 ·show (if j < K.n then F j else F' (j - K.n + (vs.length + 1))).Nodup
  split
  ·exact S.nod j
  ·exact S'.nod _
 ·have hb : b ∈ (if j < K.n then F j else F' (j - K.n + (vs.length + 1))) := hb
  split at hb
  ·rename_i hj
   obtain ⟨_, x, h2, h3⟩ := S.off j b hb
   exact ⟨gn j b hj hb, x, kp j b hj hb x h2, h3⟩
  ·exact S'.off _ b hb
 ·have h1 : b ∈ (if j < K.n then F j else F' (j - K.n + (vs.length + 1))) := h1
  have h2 : b ∈ (if k < K.n then F k else F' (k - K.n + (vs.length + 1))) := h2
  have cross : ∀ {i m}, i < K.n → b ∈ F i → b ∈ F' m → False := fun {i m} hi x y => by
   rcases t.own b ⟨m, y⟩ with z | z
   ·exact out hi x z
   ·obtain ⟨_, w, h, _⟩ := S.off i b x
    rw [z] at h; cases h
  split at h1
  ·split at h2
   ·exact S.dis j k b h1 h2
   ·exact (cross (by assumption) h1 h2).elim
  ·split at h2
   ·exact (cross (by assumption) h2 h1).elim
   ·have := S'.dis _ _ b h1 h2
    omega
 ·rw [ho] at e; cases e
  have hs : o.slot < K.n := by rw [S.sl] at g2; exact g2
  refine ⟨by rw [g1e _ hs]; exact g1, g2, a, dx', fs', hσ, ?_, k3', k4', k5', k6'⟩
  rw [el]
  show (if K.n + o.names.length < K.n then _ else F' (K.n + o.names.length - K.n + (vs.length + 1))) = _
  rw [if_neg (by omega), ← k2', hlen']
  congr 1
  omega
 ·obtain ⟨h1, h2⟩ := S.exs p e
  have hp : p.1 < K.n := by
   have := (List.getElem?_eq_some_iff.mp h2).1
   rw [S.sl] at this; exact this
  exact ⟨by rw [g1e _ hp]; exact h1, h2⟩
 ·have hj : b ∈ (if j < K.n then F j else F' (j - K.n + (vs.length + 1))) := hj
  split at hj
  ·exact .inl ⟨j, hj⟩
  ·exact (t.own b ⟨_, hj⟩).imp (fun z => by
    obtain ⟨k, _, h⟩ := inn z
    exact ⟨k, h⟩) id
theorem rx_meth {o : Ob} {E : XK} {mg : Str → Option Value} {m : Str} {n : Nat} {g : DS → Option DR} {t : TA} {fa : DS → Option (List RV × DS)} (ho : K.ob = some o) (hm : m ∉ o.names) (ha : RA K t fa) :
  RX K ⟨fun c d _ H => E c d H, mg⟩ (tMeth o.cls m (spO ⟨K.fr, K.tb, some ⟨0, o.cls, o.names⟩, n, none⟩ mg g) [] E (tVar o.slot) t) (fMethX K.n n g fa) := by
 intro G H F σ ds r Q S e q
 simp only [fMethX, Option.bind_eq_some_iff] at e
 obtain ⟨⟨ra, d1⟩, e1, ⟨l, d2⟩, e3, e4⟩ := e
 split at e4
 ·rename_i hn
  simp only [Option.map_eq_some_iff] at e4
  obtain ⟨dr, e5, e6⟩ := e4
  obtain ⟨g1, g2, a, dx, fs, k1, k2, k3, k4, k5, k6⟩ := S.obj o ho
  refine ⟨.ref a, k1, a, dx, fs, rfl, k3, ?_, ?_⟩
  ·cases hq : fs.lookup m with
   | none => rfl
   | some w =>
    exfalso
    clear q e3 e5 e6 k2 k3
    induction fs with
    | nil => cases hq
    | cons p fs ih =>
     rw [List.lookup_cons] at hq
     split at hq
     ·rename_i hb
      have : m = p.1 := eq_of_beq hb
      exact hm (this ▸ k6 p (by simp))
     ·exact ih (List.nodup_cons.mp k5).2 (fun r hr => k6 r (by simp [hr])) hq
  refine ha G H F σ ds ra d1 _ S e1 fun v1 G1 H1 F1 fp1 S1 t1 r1 f1 => ?_
  obtain ⟨G2, F2, S2, t2, s2, dd, _⟩ := frzs_ok (fq := []) S1 t1 r1 (by rw [List.append_nil]; exact f1) e3
  have hl : v1.length + 1 = n := by rw [dpsLen dd]; exact hn
  subst hl
  have Si := S2.into ho dd k1
  refine ⟨by simp, G2, _, _, dr, by simpa using Si, e5, ?_⟩
  cases dr with
  | ret u d' =>
   subst e6
   intro v G' H' F' fp S' t' r' f'
   have S' : SI ⟨K.fr, K.tb, some ⟨0, o.cls, o.names⟩, v1.length + 1, none⟩ G' H' ((V.ref a :: v1).map some) d' F' := by simpa using S'
   obtain ⟨SS, tt⟩ := S2.outof ho k1 S' t'
   have inn : ∀ {b}, Wf (fun j => if j ≤ v1.length then [] else F2 (j - (v1.length + 1) + K.n)) b → ∃ k, K.n ≤ k ∧ b ∈ F2 k := fun {b} ⟨j, hj⟩ => by
    have hj : b ∈ (if j ≤ v1.length then [] else F2 (j - (v1.length + 1) + K.n)) := hj
    split at hj
    ·cases hj
    ·exact ⟨_, by omega, hj⟩
   refine q v G' H' _ fp SS (t2.trans tt) (by cases u <;> exact r') ⟨f'.nod, fun b hb => ⟨(f'.off b hb).1, (f'.off b hb).2.1, fun ⟨j, hj⟩ => ?_⟩, fun b hb => ?_⟩
   ·have hj : b ∈ (if j < K.n then F2 j else F' (j - K.n + (v1.length + 1))) := hj
    split at hj
    ·rename_i hjn
     rcases f'.new b hb with z | z
     ·obtain ⟨k, h1, h2⟩ := inn z
      have := S2.dis j k b hj h2
      omega
     ·obtain ⟨_, w, h, _⟩ := S2.off j b hj
      rw [z] at h; cases h
    ·exact (f'.off b hb).2.2 ⟨_, hj⟩
   ·rcases f'.new b hb with z | z
    ·obtain ⟨k, h1, h2⟩ := inn z
     exact t2.own b ⟨k, h2⟩
    ·exact .inr (t2.back z)
  | ex x d' =>
   subst e6
   intro C G' H' F' m S' t'
   have S' : SI ⟨K.fr, K.tb, some ⟨0, o.cls, o.names⟩, v1.length + 1, none⟩ G' H' ((V.ref a :: v1).map some) d' F' := by simpa using S'
   obtain ⟨SS, tt⟩ := S2.outof ho k1 S' t'
   exact q C G' H' _ m SS (t2.trans tt)
 ·cases e4
def Dm (P : Program) (w : World) (fr : PySem.W.Frag) (tb : List (Addr × Str)) (mg : Str → Option Value) (base : Heap) (k : Nat) (C : Addr) (names : List Str) (m : Str) (n : Nat) (g : DS → Option DR) : Prop :=
 ∃ (f : Addr) (fd : FuncData) (ps : List Str), L2.Meth fr C m f ∧ FnOk P w fr mg base (L2.CX P w) k f fd ps (spO ⟨fr, tb, some ⟨0, C, names⟩, n, none⟩ mg g) ∧ Binds fr fd ps []
theorem meth_ok {P : Program} {w : World} {fr : PySem.W.Frag} {tb : List (Addr × Str)} {mg : Str → Option Value} {base : Heap} {x qual : Str} {st : Stmt} {f C : Addr} {fd : FuncData} {N ps names : List Str} {k : Nat} {T : List Nat} {fb : DS → Option Out} {m : Str} (F : L2.Fun fr x qual st f fd) (hm : L2.Meth fr C m f) (hb : Binds fr fd ps []) (S : FnScope N ps (defScope st)) (hN : ps.length ≤ N.length)
  (body : ∀ (cdv : Value) (A : Around) (outer : List Env) (s : Shared) (H : Hp) (E : XK), Room k (A.deeper (PyProof.Rows.envOfC qual (defScope st) s.heap.objs.size f cdv)) → ∃ t, JB ⟨fr, tb, some ⟨0, C, names⟩, N.length, none⟩ (cxOf (L2.CX P w) P w fr mg base N qual (defScope st) f cdv A outer s H E) ⟨fun c d _ H => E c d H, mg⟩ T (defBody st) t fb) (hT : (0 : Nat) ∉ T := by decide) :
  Dm P w fr tb mg base (k + 1) C names m ps.length (funO [] ps.length N.length fb) := by
 refine ⟨f, fd, ps, hm, F.okX S (fun vs H Q E h => h.1) fun cdv A outer s H vs Q E hr h => ?_, hb⟩
 obtain ⟨t, J⟩ := body cdv A outer s H E hr
 exact ⟨t, J.p, body_ok (K := ⟨fr, tb, some ⟨0, C, names⟩, ps.length, none⟩) rfl hN (fun _ h => by cases h) (fun o e => by cases e; exact hT) J.r h⟩
theorem Dm.le {P : Program} {w : World} {fr : PySem.W.Frag} {tb : List (Addr × Str)} {mg : Str → Option Value} {base : Heap} {k k' : Nat} {C : Addr} {names : List Str} {m : Str} {n : Nat} {g : DS → Option DR} (h : Dm P w fr tb mg base k C names m n g) (hk : k ≤ k') : Dm P w fr tb mg base k' C names m n g :=
 let ⟨f, fd, ps, h1, h2, h3⟩ := h; ⟨f, fd, ps, h1, h2.mono hk, h3⟩
theorem SI.adopt {C : Addr} {names : List Str} {G H G' H' : Hp} {σ : St} {ds d' : DS} {F F' : Nat → List Addr} {a : Addr} {vs : List V} {i : Nat} (S : SI K G H σ ds F) (ho : K.ob = none) (hi : i < K.n) (hf : K.free i) {W0 : Addr → Prop}
  (S' : SI ⟨K.fr, K.tb, some ⟨0, C, names⟩, vs.length + 1, none⟩ G' H' ((.ref a :: vs).map some) d' F') (t : Step W0 G H G' H' (Wf F')) (hW : ∀ j b, b ∈ F j → ¬ W0 b) :
  SI ⟨K.fr, K.tb, some ⟨i, C, names⟩, K.n, K.ex⟩ G' H' (σ.set i (some (.ref a))) ((ds.set i none) ++ d'.drop (vs.length + 1)) (fun j => if j < K.n then (if j = i then [] else F j) else F' (j - K.n + (vs.length + 1))) := by
 have dl : ds.length = K.n := by
  have := S.len
  unfold Kc.nf at this
  rw [ho] at this
  simpa using this
 have hlen' : d'.length = vs.length + 1 + names.length := S'.len
 obtain ⟨g1', g2', a1, dx', fs', k1', k2', k3', k4', k5', k6'⟩ := S'.obj _ rfl
 have k1' : some (some (V.ref a)) = some (some (V.ref a1)) := k1'
 cases k1'
 have kp : ∀ j b, b ∈ F j → ∀ x, H b = some x → H' b = some x := fun j b hb x e => by
  obtain ⟨_, y, h1, h2⟩ := S.off j b hb
  rw [e] at h1; cases h1
  exact t.keep b x e (hW j b hb) h2.1
 have gn : ∀ j b, b ∈ F j → G' b = none := fun j b hb => by
  obtain ⟨h1, x, h2, h3⟩ := S.off j b hb
  rcases some_or (G' b) with ⟨y, e⟩ | e
  ·rcases t.new b y e with ⟨z, e'⟩ | w | e'
   ·rw [h1] at e'; cases e'
   ·exact absurd w (hW j b hb)
   ·rw [h2] at e'; cases e'
  ·exact e
 have el : ((ds.set i none) ++ d'.drop (vs.length + 1)).length = K.n + names.length := by simp; omega
 have g1e : ∀ j, j < K.n → ((ds.set i none) ++ d'.drop (vs.length + 1))[j]? = (ds.set i none)[j]? := fun j hj => by
  rw [List.getElem?_append_left (by simp; omega)]
 have g2e : ∀ j, K.n ≤ j → ((ds.set i none) ++ d'.drop (vs.length + 1))[j]? = d'[j - K.n + (vs.length + 1)]? := fun j hj => by
  have e : (ds.set i none).length = K.n := by simp; omega
  rw [List.getElem?_append_right (by omega), e, List.getElem?_drop]
  congr 1
  omega
 have si : (σ.set i (some (V.ref a)))[i]? = some (some (.ref a)) := List.getElem?_set_self (by rw [S.sl]; exact hi)
 refine ⟨S'.sub, S'.gnt, S'.tab, by rw [List.length_set]; exact S.sl, el, fun j u e => ?_, fun j => ?_, fun j b hb => ?_, fun j k b h1 h2 => ?_, fun w e => ?_, fun p e => ?_⟩
 ·by_cases hj : j < K.n
  ·rw [g1e j hj] at e
   by_cases hji : j = i
   ·subst hji
    rw [List.getElem?_set_self (by omega)] at e
    cases e
   ·rw [List.getElem?_set_ne (Ne.symm hji)] at e
    obtain ⟨v, h1, h2⟩ := S.rep j u e
    refine ⟨v, .inl ?_, ?_⟩
    ·rcases h1 with h1 | ⟨h1, o', _, _, _, _, _, q1, _⟩
     ·rw [List.getElem?_set_ne (Ne.symm hji)]; exact h1
     ·rw [ho] at q1; cases q1
    ·show Rep _ G' H' v u (if j < K.n then (if j = i then [] else F j) else _)
     rw [if_pos hj, if_neg hji]
     have := h2.mono t.sg fun b hb x hx => kp j b hb x hx
     cases u <;> exact this
  ·rw [g2e j (by omega)] at e
   obtain ⟨v, h1, h2⟩ := S'.rep _ u e
   refine ⟨v, ?_, ?_⟩
   ·rcases h1 with h1 | ⟨h1, o', b, C2, dx2, fs2, n, q1, q2, q3, q4, q5⟩
    ·have := (List.getElem?_eq_some_iff.mp h1).1
     simp at this
     omega
    ·cases q1
     have q2 : some (some (V.ref a)) = some (some (V.ref b)) := q2
     cases q2
     refine .inr ⟨by rw [List.length_set, S.sl]; omega, ⟨i, C, names⟩, a, C2, dx2, fs2, n, rfl, si, q3, ?_, q5⟩
     have : j - K.n + (vs.length + 1) - ((V.ref a :: vs).map some).length = j - (σ.set i (some (V.ref a))).length := by rw [List.length_set, S.sl]; simp
     rw [this] at q4; exact q4
   ·show Rep _ G' H' v u (if j < K.n then (if j = i then [] else F j) else _)
    rw [if_neg hj]
    cases u <;> exact h2
 ·show (if j < K.n then (if j = i then [] else F j) else F' (j - K.n + (vs.length + 1))).Nodup
  split
  ·split
   ·exact .nil
   ·exact S.nod j
  ·exact S'.nod _
 ·have hb : b ∈ (if j < K.n then (if j = i then [] else F j) else F' (j - K.n + (vs.length + 1))) := hb
  split at hb
  ·split at hb
   ·cases hb
   ·obtain ⟨_, x, h2, h3⟩ := S.off j b hb
    exact ⟨gn j b hb, x, kp j b hb x h2, h3⟩
  ·exact S'.off _ b hb
 ·have h1 : b ∈ (if j < K.n then (if j = i then [] else F j) else F' (j - K.n + (vs.length + 1))) := h1
  have h2 : b ∈ (if k < K.n then (if k = i then [] else F k) else F' (k - K.n + (vs.length + 1))) := h2
  have cross : ∀ {i m}, b ∈ F i → b ∈ F' m → False := fun {i m} x y => by
   rcases t.own b ⟨m, y⟩ with z | z
   ·exact hW i b x z
   ·obtain ⟨_, w, h, _⟩ := S.off i b x
    rw [z] at h; cases h
  split at h1
  ·split at h1
   ·cases h1
   ·split at h2
    ·split at h2
     ·cases h2
     ·exact S.dis j k b h1 h2
    ·exact (cross h1 h2).elim
  ·split at h2
   ·split at h2
    ·cases h2
    ·exact (cross h2 h1).elim
   ·have := S'.dis _ _ b h1 h2
    omega
 ·cases e
  refine ⟨by rw [g1e _ hi]; exact List.getElem?_set_self (by omega), by rw [List.length_set, S.sl]; exact hi, a, dx', fs', si, ?_, k3', k4', k5', k6'⟩
  rw [el]
  show (if K.n + names.length < K.n then _ else F' (K.n + names.length - K.n + (vs.length + 1))) = _
  rw [if_neg (by omega), ← k2', hlen']
  congr 1
  omega
 ·obtain ⟨h1, h2⟩ := S.exs p e
  have hn : p.1 ≠ i := Kc.free_ex hf e
  have hp : p.1 < K.n := by
   have := (List.getElem?_eq_some_iff.mp h2).1
   rw [S.sl] at this; exact this
  exact ⟨by rw [g1e _ hp, List.getElem?_set_ne (Ne.symm hn)]; exact h1, by rw [List.getElem?_set_ne (Ne.symm hn)]; exact h2⟩
theorem SI.lose {o : Ob} {G H : Hp} {σ : St} {ds : DS} {F : Nat → List Addr} (S : SI ⟨K.fr, K.tb, some o, K.n, K.ex⟩ G H σ ds F) (ho : K.ob = none) : SI K G H σ (ds.take K.n) (fun j => if j < K.n then F j else []) := by
 have hlen : ds.length = K.n + o.names.length := S.len
 refine ⟨S.sub, S.gnt, S.tab, S.sl, ?_, fun j u e => ?_, fun j => ?_, fun j b hb => ?_, fun j k b h1 h2 => ?_, fun w e => (by rw [ho] at e; cases e), fun p e => ?_⟩
 ·unfold Kc.nf
  rw [ho]
  simp
  omega
 ·have hj : j < K.n := by
   have := (List.getElem?_eq_some_iff.mp e).1
   simp at this; omega
  rw [List.getElem?_take_of_lt hj] at e
  obtain ⟨v, h1, h2⟩ := S.rep j u e
  refine ⟨v, .inl ?_, ?_⟩
  ·rcases h1 with h1 | ⟨h1, _⟩
   ·exact h1
   ·have := S.sl
    have : σ.length = K.n := this
    omega
  ·show Rep K G H v u (if j < K.n then F j else [])
   rw [if_pos hj]
   cases u <;> exact h2
 ·show (if j < K.n then F j else []).Nodup
  split
  ·exact S.nod j
  ·exact .nil
 ·have hb : b ∈ (if j < K.n then F j else []) := hb
  split at hb
  ·exact S.off j b hb
  ·cases hb
 ·have h1 : b ∈ (if j < K.n then F j else []) := h1
  have h2 : b ∈ (if k < K.n then F k else []) := h2
  split at h1
  ·split at h2
   ·exact S.dis j k b h1 h2
   ·cases h2
  ·cases h1
 ·obtain ⟨h1, h2⟩ := S.exs p e
  have hp : p.1 < K.n := by
   have := (List.getElem?_eq_some_iff.mp h2).1
   have s : σ.length = K.n := S.sl
   omega
  exact ⟨by rw [List.getElem?_take_of_lt hp]; exact h1, h2⟩
end Fx
set_option Elab.async false
set_option linter.all false
set_option maxRecDepth 100000
set_option maxHeartbeats 1000000
namespace Fx
open PySem PySem.Spec L2
variable {K : Kc} {Z : Zc}
def loseO (p : Nat) : Out → Out
 | .nx d => .nx (d.take p)
 | .bk d => .bk (d.take p)
 | .ct d => .ct (d.take p)
 | .ret o d => .ret o (d.take p)
 | .ex x d => .ex x (d.take p)
def fNewO (p i n nf : Nat) (g : DS → Option DR) (fa : DS → Option (List RV × DS)) (fr : DS → Option Out) (ds : DS) : Option Out := (fa ds).bind fun q => (frzs q.1 q.2).bind fun w => if w.1.length + 1 = n then (g (none :: (shs w.1 ++ List.replicate nf none))).bind fun r => match r with
  | .ret (.sh .none) d => (fr (w.2.set i none ++ d.drop n)).map (loseO p)
  | _ => none else none
theorem SI.fresh {fr : PySem.W.Frag} {tb : List (Addr × Str)} {C x dx : Addr} {names : List Str} {G H : Hp} {vs : List V} {l : List D} (sub : Same G H) (gnt : ∀ b x, G b = some x → NT x) (tab : TabX tb H) (hl : L2.DpAll fr G vs l) (nx : H x = none) (ndx : H dx = none) (ne : dx ≠ x) :
  SI ⟨fr, tb, some ⟨0, C, names⟩, vs.length + 1, none⟩ G (upd (upd H dx (.own x)) x (.ins C dx [])) ((.ref x :: vs).map some) (none :: (shs l ++ List.replicate names.length none)) (fun j => if j = vs.length + 1 + names.length then [x, dx] else []) := by
 have ll := dpsLen (K := ⟨fr, tb, none, 0, none⟩) hl
 have hs : Same H (upd (upd H dx (.own x)) x (.ins C dx [])) := fun b y e => by
  rw [upd_ne (ne_of_none e nx), upd_ne (ne_of_none e ndx)]; exact e
 have e2 : (none :: (shs l ++ List.replicate names.length none) : DS).length = vs.length + 1 + names.length := by simp; omega
 have hd : (upd (upd H dx (.own x)) x (.ins C dx [])) dx = some (.own x) := by rw [upd_ne ne, upd_same]
 refine ⟨fun b y e => hs b y (sub b y e), gnt, tab.ext hs fun b y e => ?_, by simp, by rw [e2]; rfl, fun j u e => ?_, fun j => ?_, fun j b hb => ?_, fun j k b h1 h2 => ?_, fun w e => ?_, fun p e => nomatch e⟩
 ·rcases nt_upd nt_ins b y e with h | h
  ·exact nt_upd nt_own b y h
  ·exact .inr h
 ·cases j with
  | zero =>
   have e : some (none : Option OV) = some (some u) := e
   cases e
  | succ m =>
   rw [List.getElem?_cons_succ] at e
   by_cases hm : m < l.length
   ·rw [List.getElem?_append_left (by simpa using hm), List.getElem?_map] at e
    obtain ⟨d, h1, h2⟩ := Option.map_eq_some_iff.mp e
    cases h2
    obtain ⟨w, h3, h4⟩ := dpsGet (K := ⟨fr, tb, none, 0, none⟩) hl h1
    exact ⟨w, .inl (by show ((V.ref x :: vs).map some)[m + 1]? = _; rw [List.map_cons, List.getElem?_cons_succ, List.getElem?_map, h3]; rfl), h4, by rw [if_neg (by omega)]⟩
   ·rw [List.getElem?_append_right (by simp; omega), List.getElem?_replicate] at e
    split at e <;> cases e
 ·show (if j = vs.length + 1 + names.length then [x, dx] else []).Nodup
  split
  ·simp
   exact fun z => ne z.symm
  ·exact .nil
 ·have hb : b ∈ (if j = vs.length + 1 + names.length then [x, dx] else []) := hb
  split at hb
  ·rcases List.mem_cons.mp hb with rfl | hb
   ·exact ⟨sub.free nx, _, upd_same, nt_ins⟩
   ·obtain rfl : b = dx := by simpa using hb
    exact ⟨sub.free ndx, _, hd, nt_own⟩
  ·cases hb
 ·have h1 : b ∈ (if j = vs.length + 1 + names.length then [x, dx] else []) := h1
  have h2 : b ∈ (if k = vs.length + 1 + names.length then [x, dx] else []) := h2
  split at h1
  ·split at h2
   ·omega
   ·cases h2
  ·cases h1
 ·cases e
  refine ⟨rfl, by simp, x, dx, [], rfl, ?_, upd_same, hd, .nil, fun p hp => by cases hp⟩
  rw [e2]
  show (if vs.length + 1 + names.length = vs.length + 1 + names.length then [x, dx] else []) = _
  rw [if_pos rfl]
theorem rs_new {C : Addr} {names : List Str} {mg : Str → Option Value} {i n : Nat} {T' : List Nat} {g : DS → Option DR} {t : TA} {fa : DS → Option (List RV × DS)} {us : TS} {fr : DS → Option Out} (ho : K.ob = none) (hi : i < K.n) (hf : K.free i) (ha : RA K t fa) (hr : RS ⟨K.fr, K.tb, some ⟨i, C, names⟩, K.n, K.ex⟩ Z T' us fr) :
  RS K Z ([i] ++ T') (tSeq (tAsg (tMake C (spO ⟨K.fr, K.tb, some ⟨0, C, names⟩, n, none⟩ mg g) [] (fun _ _ _ => False) t) (gName i)) us) (fNewO K.n i n names.length g fa fr) := by
 intro G H F σ ds out E S e q
 simp only [fNewO, Option.bind_eq_some_iff] at e
 obtain ⟨⟨ra, d1⟩, e1, ⟨l, d2⟩, e3, e4⟩ := e
 split at e4
 ·rename_i hn
  simp only [Option.bind_eq_some_iff] at e4
  obtain ⟨dr, e5, e6⟩ := e4
  split at e6
  ·rename_i d'
   simp only [Option.map_eq_some_iff] at e6
   obtain ⟨o2, e7, rfl⟩ := e6
   refine ha G H F σ ds ra d1 _ S e1 fun v1 G1 H1 F1 fp1 S1 t1 r1 f1 => ?_
   obtain ⟨G2, F2, S2, t2, s2, dd, _⟩ := frzs_ok (fq := []) S1 t1 r1 (by rw [List.append_nil]; exact f1) e3
   have hl : v1.length + 1 = n := by rw [dpsLen dd]; exact hn
   subst hl
   intro x dx nx ndx nex
   have Sf := SI.fresh (C := C) (names := names) S2.sub S2.gnt S2.tab dd nx ndx nex
   refine ⟨by simp, G2, _, _, _, by simpa using Sf, e5, ?_⟩
   intro v G' H' F' fp S' t' r' f'
   have S' : SI ⟨K.fr, K.tb, some ⟨0, C, names⟩, v1.length + 1, none⟩ G' H' ((V.ref x :: v1).map some) d' F' := by simpa using S'
   have hv : v = .non := by
    have : Dp K G' v .none := r'.1
    cases this
    rfl
   refine ⟨hv, ?_⟩
   have inn : ∀ {b}, Wf (fun j => if j = v1.length + 1 + names.length then [x, dx] else []) b → H1 b = none := fun {b} ⟨j, hj⟩ => by
    have hj : b ∈ (if j = v1.length + 1 + names.length then [x, dx] else []) := hj
    split at hj
    ·rcases List.mem_cons.mp hj with rfl | hj
     ·exact nx
     ·obtain rfl : b = dx := by simpa using hj
      exact ndx
    ·cases hj
   have up : ∀ b, (upd (upd H1 dx (.own x)) x (.ins C dx [])) b = none → H1 b = none := fun b z => by
    by_cases h1 : b = x
    ·subst h1; exact nx
    ·rw [upd_ne h1] at z
     by_cases h2 : b = dx
     ·subst h2; exact ndx
     ·rw [upd_ne h2] at z; exact z
   have same1 : Same H1 (upd (upd H1 dx (.own x)) x (.ins C dx [])) := fun b y e => by
    rw [upd_ne (ne_of_none e nx), upd_ne (ne_of_none e ndx)]; exact e
   have tt : Step (Wf (fun j => if j = v1.length + 1 + names.length then [x, dx] else [])) G2 H1 G' H' (Wf F') := ⟨t'.sg, fun b y e n nb => t'.keep b y (same1 b y e) n nb, fun b y e => t'.dom b y (same1 b y e), fun b y e => (t'.new b y e).imp id fun z => z.imp id (up b), fun b z => (t'.own b z).imp id (up b)⟩
   have hW : ∀ j b, b ∈ F2 j → ¬ Wf (fun j => if j = v1.length + 1 + names.length then [x, dx] else []) b := fun j b hb z => by
    obtain ⟨_, y, h, _⟩ := S2.off j b hb
    rw [inn z] at h; cases h
   have SA := S2.adopt ho hi hf S' tt hW
   have tA : Step (Wf F2) G2 H1 G' H' (Wf fun j => if j < K.n then (if j = i then [] else F2 j) else F' (j - K.n + (v1.length + 1))) := ⟨tt.sg, fun b y e n nb => tt.keep b y e (fun z => by rw [inn z] at e; cases e) nb, tt.dom, fun b y e => (tt.new b y e).imp id fun z => z.elim (fun z => .inr (inn z)) .inr, fun b ⟨j, hj⟩ => by
    have hj : b ∈ (if j < K.n then (if j = i then [] else F2 j) else F' (j - K.n + (v1.length + 1))) := hj
    split at hj
    ·split at hj
     ·cases hj
     ·exact .inl ⟨j, hj⟩
    ·rcases tt.own b ⟨_, hj⟩ with z | z
     ·exact .inr (inn z)
     ·exact .inr z⟩
   have tall := t2.trans tA
   have wl : ∀ {F3 : Nat → List Addr} {b : Addr}, Wf (fun j => if j < K.n then F3 j else []) b → Wf F3 b := fun {F3 b} ⟨j, hj⟩ => by
    have hj : b ∈ (if j < K.n then F3 j else []) := hj
    split at hj
    ·exact ⟨j, hj⟩
    ·cases hj
   have offs : ∀ {σ'}, Off T' (σ.set i (some (.ref x))) σ' → Off ([i] ++ T') σ σ' := fun o => ((Off.set i (some (V.ref x)) σ).left (T' := T')).trans o.right
   show us E (σ.set i (some (.ref x))) H'
   refine hr G' H' _ _ _ o2 E SA e7 ?_
   cases o2 with
   | nx d3 => exact fun σ3 G3 H3 F3 S3 t3 f3 => q σ3 G3 H3 _ (S3.lose ho) ((tall.trans t3).reown fun b hb => (tall.trans t3).own b (wl hb)) (offs f3)
   | bk d3 => exact fun σ3 G3 H3 F3 S3 t3 f3 => q σ3 G3 H3 _ (S3.lose ho) ((tall.trans t3).reown fun b hb => (tall.trans t3).own b (wl hb)) (offs f3)
   | ct d3 => exact fun σ3 G3 H3 F3 S3 t3 f3 => q σ3 G3 H3 _ (S3.lose ho) ((tall.trans t3).reown fun b hb => (tall.trans t3).own b (wl hb)) (offs f3)
   | ret u d3 => exact fun w σ3 G3 H3 F3 fp3 S3 t3 f3 r3 p3 => q w σ3 G3 H3 _ fp3 (S3.lose ho) ((tall.trans t3).reown fun b hb => (tall.trans t3).own b (wl hb)) (offs f3) (by cases u <;> exact r3) ((p3.since tall).less fun b hb => wl hb)
   | ex y d3 => exact fun C3 σ3 G3 H3 F3 m S3 t3 f3 => q C3 σ3 G3 H3 _ m (S3.lose ho) ((tall.trans t3).reown fun b hb => (tall.trans t3).own b (wl hb)) (offs f3)
  ·cases e6
 ·cases e4
section
variable {X : Cx} {o : Ob} {e : Expr} {es : List Expr} {te : TE} {fe : DS → Option (RV × DS)} {tl : TA} {fl : DS → Option (List RV × DS)} {pos p p1 p2 apos cpos : Pos} {x f m : Str} {k n : Nat} {g : DS → Option DR} {mg : Str → Option Value}
theorem j_fld (j : Nat) (hc : ClsO K.fr o) (ho : K.ob = some o := by rfl) (hj : o.names[j]? = some f := by rfl) (hN : X.N[o.slot]? = some x := by rfl) (hv : Vis X.env.scope x := by first | exact Or.inl rfl | exact Or.inr (Or.inl rfl) | exact Or.inr (Or.inr rfl)) (hd : (x == ("__debug__" : Str)) = false := by decide) (hcd : (x == ("__classdict__" : Str)) = false := by decide)
  (hb : attributeBase (.Name x p) f X.env (eval (.Name x p) X.env) = eval (.Name x p) X.env := by rfl) (hk : X.K = K.fr := by rfl) : JE K X (.Attribute (.Name x p) f pos) (tFld K.fr (tVar o.slot) f) (fFld (K.n + j)) :=
 ⟨hk ▸ pe_fld (pe_var hN hv hd hcd) hb, re_fld ho hc hj⟩
theorem s_putF (j : Nat) (hc : ClsO K.fr o) (he : JE K X e te fe) (ho : K.ob = some o := by rfl) (hj : o.names[j]? = some f := by rfl) (hN : X.N[o.slot]? = some x := by rfl) (hv : Vis X.env.scope x := by first | exact Or.inl rfl | exact Or.inr (Or.inl rfl) | exact Or.inr (Or.inr rfl)) (hd : (x == ("__debug__" : Str)) = false := by decide) (hcd : (x == ("__classdict__" : Str)) = false := by decide)
  (hs : swapsWith e (some (.Attribute (.Name x p) f p1)) pos.line X.env = pure false := by rfl) (hk : X.K = K.fr := by rfl) : JS K X Z [] (.Assign [.Attribute (.Name x p) f p1] e pos) (sFld K.fr (tVar o.slot) te f) (fPutF (K.n + j) fe) :=
 ⟨hk ▸ ps_fld (pe_var hN hv hd hcd) he.p hs, rs_putF ho hc hj he.r⟩
theorem s_augF (j : Nat) (hc : ClsO K.fr o) (he : JE K X e te fe) (ho : K.ob = some o := by rfl) (hj : o.names[j]? = some f := by rfl) (hN : X.N[o.slot]? = some x := by rfl) (hv : Vis X.env.scope x := by first | exact Or.inl rfl | exact Or.inr (Or.inl rfl) | exact Or.inr (Or.inr rfl)) (hd : (x == ("__debug__" : Str)) = false := by decide) (hcd : (x == ("__classdict__" : Str)) = false := by decide)
  (hk : X.K = K.fr := by rfl) : JS K X Z [] (.AugAssign (.Attribute (.Name x p) f p1) .Add e pos) (sFldAug K.fr (tVar o.slot) te rAdd f) (fAugF (K.n + j) fe) :=
 ⟨hk ▸ ps_fldaug (pe_var hN hv hd hcd) he.p in_add, rs_augF ho hc hj he.r⟩
theorem passF (hx : Takes X (Z0 mg).W) : Passes (L2.CX X.prog X.w) X (fun _ _ _ => False) := fun pins σ H s e s' I c => (passAt (W := (Z0 mg).W) hx σ) pins H s e s' I c
theorem b_new (i : Nat) {nf : Nat} {C : Addr} {names : List Str} {f0 : Addr} {c : Str} {T' : List Nat} {rest : List Stmt} {us : TS} {fr : DS → Option Out} (M : Mk K.fr C f0) (hC : X.mg c = some (.ref C)) (d : Dm X.prog X.w K.fr K.tb mg X.base k C names "__init__" n g) (hr : Room (k + 1) X.A) (h : JA K X (e :: es) tl fl) (kr : JB ⟨K.fr, K.tb, some ⟨i, C, names⟩, K.n, K.ex⟩ X Z T' rest us fr) (hNd : X.N.Nodup)
  (ho : K.ob = none := by rfl) (hN : X.N[i]? = some x := by rfl) (hx : Loc X.env.scope x := by first | exact Or.inl rfl | exact Or.inr rfl) (hf : X.fn x = true ∨ X.env.scope.names.lookup x = some .local := by first | exact .inl rfl | exact .inr rfl | assumption)
  (hs : swapsWith (.Call (.Name c p) (e :: es) [] cpos) (some (.Name x p1)) pos.line X.env = pure false := by rfl) (hg : Gl X c := by rfl) (hdb : (c == ("__debug__" : Str)) = false := by decide) (he : starEach (e :: es) X.env = (false, eval e X.env) :: starEach es X.env := by rfl) (hpl : (backTo cpos (starEach es X.env)).any (·.1) = false := by rfl) (kin : decide (i < K.n) = true := by rfl) (kif : K.freeB i = true := by rfl) (hk : X.K = K.fr := by rfl) (hmg : X.mg = mg := by rfl) (hnf : names.length = nf := by rfl) :
  JB K X Z ([i] ++ T') (.Assign [.Name x p1] (.Call (.Name c p) (e :: es) [] cpos) pos :: rest) (tSeq (tAsg (tMake C (spO ⟨K.fr, K.tb, some ⟨0, C, names⟩, n, none⟩ mg g) [] (fun _ _ _ => False) tl) (gName i)) us) (fNewO K.n i n nf g fl fr) := by
 subst hmg
 subst hnf
 obtain ⟨f, fd, ps, M1, F, hb⟩ := d
 refine ⟨?_, rs_new ho (of_decide_eq_true kin) (Kc.freeB_ok kif) h.r kr.r⟩
 have e0 : f0 = f := by
  have a := M.init
  have b := M1.at_
  rw [a] at b
  cases b
  rfl
 subst e0
 rw [← hk] at M hb F
 exact pss_cons (ps_set hNd hN hx (pe_make M (by rw [hk] at F ⊢; exact F) hr hg hC hb .nil (passF (mg := X.mg) takes0) h.p hdb he hpl) hs hf) kr.p
end
end Fx
set_option Elab.async false
set_option linter.all false
set_option maxRecDepth 100000
set_option maxHeartbeats 1000000
namespace Fx
open PySem PySem.Spec L2
variable {K : Kc} {Z : Zc}
def fFrz (f : DS → Option (RV × DS)) (ds : DS) : Option (RV × DS) := (f ds).bind fun p => (frz p.1 p.2).map fun q => (.ov (.sh q.1), q.2)
theorem re_frz {t : TE} {f : DS → Option (RV × DS)} (h : RE K t f) : RE K t (fFrz f) := by
 intro G H F σ ds r ds' Q S e q
 simp only [fFrz, Option.bind_eq_some_iff, Option.map_eq_some_iff] at e
 obtain ⟨⟨r0, d1⟩, e1, ⟨d, d2⟩, e2, e3⟩ := e
 cases e3
 refine h G H F σ ds r0 d1 _ S e1 fun v G1 H1 F1 fp S1 t1 r1 f1 => ?_
 obtain ⟨G2, F2, S2, t2, s2, dd, f2⟩ := frz_ok (fq := []) S1 t1 r1 (by rw [List.append_nil]; exact f1) e2
 exact q v G2 H1 F2 [] S2 t2 ⟨dd, rfl⟩ .nil
theorem ClsO.at {fr : PySem.W.Frag} {o : Ob} (h : ClsO fr o) (i : Nat) : ClsO fr ⟨i, o.cls, o.names⟩ := ⟨h.cls, h.na, h.sz, h.nd⟩
section
variable {X : Cx} {a b e : Expr} {ta tb te : TE} {fa fb fe : DS → Option (RV × DS)} {ga gb : DS → Option D} {pos : Pos}
theorem j_frz (h : JE K X e te fe) : JE K X e te (fFrz fe) := ⟨h.p, re_frz h.r⟩
end
end Fx
set_option Elab.async false
set_option linter.all false
set_option maxRecDepth 100000
set_option maxHeartbeats 2000000
set_option Elab.async false
set_option linter.all false
set_option maxRecDepth 100000
set_option maxHeartbeats 1000000
namespace Fx
open PySem PySem.Spec L2
end Fx
set_option Elab.async false
set_option linter.all false
set_option maxRecDepth 100000
namespace Fx
open PySem PySem.Spec L2
section
variable {K : Kc} {Z : Zc}
def ownRs : List RV → DS → Option (List D × DS)
 | [], ds => some ([], ds)
 | r :: rs, ds => (ownR r ds).bind fun p => (ownRs rs p.2).map fun q => (p.1 :: q.1, q.2)
theorem perm_mid {α : Type} {a b c : List α} : (a ++ (b ++ c)).Perm (b ++ (a ++ c)) := by
 rw [← List.append_assoc, ← List.append_assoc]
 exact List.Perm.append_right c List.perm_append_comm
theorem ownRs_ok {G H G0 H0 : Hp} {σ : St} {W0 : Addr → Prop} : ∀ {rs : List RV} {vs : List V} {fp fq : List Addr} {l : List D} {ds ds' : DS} {F : Nat → List Addr}, SI K G H σ ds F → Step W0 G0 H0 G H (Wf F) → VReps K G H σ vs rs fp → Fp G H (Wf F) W0 H0 (fp ++ fq) → ownRs rs ds = some (l, ds') →
  ∃ F' fp', SI K G H σ ds' F' ∧ Step W0 G0 H0 G H (Wf F') ∧ TrAll H vs l fp' ∧ Fp G H (Wf F') W0 H0 (fp' ++ fq)
 | [], _, _, _, _, _, _, F, S, t, h, f, e => by
  cases h
  cases e
  exact ⟨F, [], S, t, .nil, f⟩
 | r :: rs, _, _, fq, _, _, _, F, S, t, h, f, e => by
  cases h with
  | cons a b =>
   simp only [ownRs, Option.bind_eq_some_iff, Option.map_eq_some_iff] at e
   obtain ⟨p, h1, q, h2, h3⟩ := e
   cases h3
   rw [List.append_assoc] at f
   obtain ⟨F1, fp1, S1, t1, tr1, f1, _⟩ := ownR_ok S t a f h1
   obtain ⟨F2, fp2, S2, t2, tr2, f2⟩ := ownRs_ok S1 t1 b (f1.perm perm_mid) h2
   refine ⟨F2, fp1 ++ fp2, S2, t2, .cons tr1 tr2, f2.perm ?_⟩
   rw [List.append_assoc]
   exact perm_mid
end
section
variable {K : Kc} {Z : Zc}
theorem Off.seq {T T' : List Nat} {σ σ1 σ2 : St} (a : Off T σ σ1) (b : Off T' σ1 σ2) : Off (T ++ T') σ σ2 := by
 refine ⟨b.1.trans a.1, fun j hj => ?_⟩
 rw [b.2 j fun z => hj (List.mem_append_right _ z), a.2 j fun z => hj (List.mem_append_left _ z)]
end
end Fx
set_option Elab.async false
set_option linter.all false
set_option maxRecDepth 100000
set_option maxHeartbeats 1000000
namespace Fx
open PySem PySem.Spec L2
section
variable {K : Kc} {Z : Zc}
theorem new_tupT {G0 H0 G H : Hp} {σ : St} {ds : DS} {F : Nat → List Addr} {W0 : Addr → Prop} {p : Addr} {ys : List V} {z : List D} {fp : List Addr} (S : SI K G H σ ds F) (t : Step W0 G0 H0 G H (Wf F)) (hp : H p = none) (hd : TrAll H ys z fp) (f : Fp G H (Wf F) W0 H0 fp) :
  SI K G (upd H p (.tup ys)) σ ds F ∧ Step W0 G0 H0 G (upd H p (.tup ys)) (Wf F) ∧ Tr (upd H p (.tup ys)) (.ref p) (.tuple z) (p :: fp) ∧ Fp G (upd H p (.tup ys)) (Wf F) W0 H0 (p :: fp) := by
 have s2 : Same H (upd H p (.tup ys)) := fun b x e => by rw [upd_ne (ne_of_none e hp)]; exact e
 have gp : G p = none := S.sub.free hp
 refine ⟨S.grow (Same.refl G) s2 (S.sub.trans s2) (fun b x e => .inl ⟨x, e⟩) S.gnt (nt_upd nt_tup), t.trans (Step.grow (Same.refl G) s2 fun b x e => .inl ⟨x, e⟩), .tup upd_same (trsMono _ _ _ hd fun b _ x e => s2 b x e), ?_⟩
 have np : p ∉ fp := fun z => by
  obtain ⟨_, ⟨x, h, _⟩, _⟩ := f.off p z
  rw [hp] at h; cases h
 refine ⟨List.nodup_cons.mpr ⟨np, f.nod⟩, fun a ha => ?_, fun a ha => ?_⟩
 ·rcases List.mem_cons.mp ha with rfl | ha
  ·refine ⟨gp, ⟨_, upd_same, nt_tup⟩, fun ⟨i, hi⟩ => ?_⟩
   obtain ⟨_, x, h⟩ := S.off i a hi
   rw [hp] at h; cases h.1
  ·obtain ⟨g1, ⟨x, g2, g3⟩, g4⟩ := f.off a ha
   exact ⟨g1, ⟨x, s2 a x g2, g3⟩, g4⟩
 ·rcases List.mem_cons.mp ha with rfl | ha
  ·exact .inr (t.back hp)
  ·exact f.new a ha
def fTupO (fa : DS → Option (List RV × DS)) (ds : DS) : Option (RV × DS) := (fa ds).bind fun p => (ownRs p.1 p.2).bind fun q => if q.1.length ≤ 1000 then some (.ov (nrm (.tuple q.1)), q.2) else none
theorem re_tupO {t : TA} {fa : DS → Option (List RV × DS)} (ha : RA K t fa) : RE K (tTup t) (fTupO fa) := by
 intro G H F σ ds rv ds' Q S e q
 simp only [fTupO, Option.bind_eq_some_iff] at e
 obtain ⟨⟨ra, d1⟩, e1, ⟨l, d2⟩, e3, e6⟩ := e
 split at e6
 ·rename_i hz
  cases e6
  refine ha G H F σ ds ra d1 _ S e1 fun v1 G1 H1 F1 fp1 S1 t1 r1 f1 => ?_
  obtain ⟨F2, fp2, S2, t2, dd, f2⟩ := ownRs_ok (fq := []) S1 t1 r1 (by rw [List.append_nil]; exact f1) e3
  rw [List.append_nil] at f2
  refine ⟨by rw [trsLen dd]; exact Nat.le_of_lt (small1000 hz), fun p hp => ?_⟩
  obtain ⟨S4, t4, r4, f4⟩ := new_tupT S2 t2 hp dd f2
  exact q _ _ _ _ _ S4 t4 (Rep.nrm (K := K) (G := G1) r4) f4
 ·cases e6
end
section
variable {K : Kc} {X : Cx} {es : List Expr} {tl : TA} {fl : DS → Option (List RV × DS)} {pos : Pos}
theorem j_tupO {x1} (h : JA K X es tl fl) : JE K X (.Tuple es x1 pos) (tTup tl) (fTupO fl) := ⟨pe_tup h.p, re_tupO h.r⟩
end
end Fx
set_option Elab.async false
set_option linter.all false
set_option maxRecDepth 100000
set_option maxHeartbeats 1000000
namespace Fx
open PySem PySem.Spec L2
end Fx
set_option Elab.async false
set_option linter.all false
set_option maxRecDepth 100000
set_option maxHeartbeats 1000000
namespace Fx
open PySem PySem.Spec L2
end Fx
set_option Elab.async false
set_option linter.all false
set_option maxRecDepth 100000
set_option maxHeartbeats 1000000
namespace Fx
open PySem PySem.Spec L2
end Fx
set_option Elab.async false
set_option linter.all false
set_option maxRecDepth 100000
namespace Fx
open PySem PySem.Spec L2
end Fx
set_option Elab.async false
set_option linter.all false
set_option maxRecDepth 100000
set_option maxHeartbeats 1000000
namespace Fx
open PySem PySem.Spec L2
end Fx
set_option Elab.async false
set_option linter.all false
set_option maxRecDepth 100000
set_option maxHeartbeats 1000000
namespace Fx
open PySem PySem.Spec L2
end Fx
set_option Elab.async false
set_option linter.all false
set_option maxRecDepth 100000
set_option maxHeartbeats 1000000
namespace Fx
open PySem PySem.Spec L2
end Fx
set_option Elab.async false
set_option linter.all false
set_option maxRecDepth 100000
set_option maxHeartbeats 1000000
namespace Fx
open PySem PySem.Spec L2
end Fx
set_option Elab.async false
set_option linter.all false
set_option maxRecDepth 100000
set_option maxHeartbeats 1000000
namespace Fx
open PySem PySem.Spec L2
section
variable {K : Kc}
def fCallIO (n : Nat) (g : DS → Option DR) (i : Nat) (fa : DS → Option (List RV × DS)) (ds : DS) : Option (RV × DS) := match ds[i]? with
 | some (some _) => (fa ds).bind fun p => (frzs p.1 p.2).bind fun q => match q.2[i]? with
  | some (some o) => if q.1.length + 1 = n then (g (some o :: shs q.1)).bind fun r => match r with
   | .ret o' d' => match d'[0]? with
    | some (some u) => some (.ov o', q.2.set i (some u))
    | _ => none
   | .ex _ _ => none else none
  | _ => none
 | _ => none
theorem re_callIO {mg : Str → Option Value} {n : Nat} {g : DS → Option DR} {i : Nat} {t : TA} {fa : DS → Option (List RV × DS)} (hi : i < K.n) (hf : K.free i) (ha : RA K t fa) : RE K (tCallS (spO ⟨K.fr, K.tb, none, n, none⟩ mg g) (WE (Z0 mg).W) (tCons (tVar i) t)) (fCallIO n g i fa) := by
 intro G H F σ ds rv ds' Q S e q
 unfold fCallIO at e
 split at e
 ·rename_i o0 ho0
  simp only [Option.bind_eq_some_iff] at e
  obtain ⟨⟨ra, d1⟩, e1, ⟨l, d2⟩, e2, e3⟩ := e
  split at e3
  ·rename_i o ho
   split at e3
   ·rename_i hn
    simp only [Option.bind_eq_some_iff] at e3
    obtain ⟨dr, e4, e5⟩ := e3
    cases dr with
    | ex x d => cases e5
    | ret o' dd' =>
    simp only at e5
    split at e5
    ·rename_i u hu
     cases e5
     obtain ⟨v0, k1, k2⟩ := S.rep i _ ho0
     have k3 := look_at k1 (by rw [S.sl]; exact hi)
     refine ⟨v0, k3, ?_⟩
     refine ha G H F σ ds ra d1 _ S e1 fun vs G1 H1 F1 fp1 S1 t1 r1 f1 => ?_
     obtain ⟨G2, F2, S2, t2, s2, dd, _⟩ := frzs_ok (fq := []) S1 t1 r1 (by rw [List.append_nil]; exact f1) e2
     obtain ⟨v1, m1, m2⟩ := S2.rep i _ ho
     obtain rfl := look_eq m1 k3
     have hl : vs.length + 1 = n := by rw [dpsLen dd]; exact hn
     subst hl
     have Sc := SI.moved S2 m2 dd
     refine ⟨by simp, G2, _, _, _, Sc, e4, ?_⟩
     intro v G' H' F' fp S' t' r' f'
     have inn : ∀ b, Wf (fun j => if j = 0 then F2 i else []) b → b ∈ F2 i := fun b ⟨j, hj⟩ => by
      have hj : b ∈ (if j = 0 then F2 i else []) := hj
      split at hj
      ·exact hj
      ·cases hj
     have S3 := S2.shut i hi
     have out : ∀ b, Wf (offF F2 i []) b → b ∉ F2 i := fun b ⟨j, hj⟩ hb => by
      unfold offF at hj
      split at hj
      ·cases hj
      ·rename_i hji; exact hji (S2.dis j i b hj hb)
     have S4 := S3.frame t' S'.sub S'.gnt S'.tab fun a h1 h2 => out a h1 (inn a h2)
     have tt : Step (Wf F) G H G' H' (Wf (offF F2 i [])) := t2.trans ⟨t'.sg, fun b x e n nb => t'.keep b x e (fun z => n ⟨i, inn b z⟩) nb, t'.dom, fun b x e => (t'.new b x e).imp id fun z => z.imp (fun z => ⟨i, inn b z⟩) id, fun b z => .inl (wf_shut z)⟩
     obtain ⟨v2, n1, n2⟩ := S'.rep 0 u hu
     have n3 : v2 = v1 := look_eq n1 (show ((v1 :: vs).map some)[0]? = some (some v1) from rfl)
     subst n3
     have mine : ∀ b, Wf F' b → b ∈ F2 i ∨ H1 b = none := fun b hb => (t'.own b hb).imp (inn b) id
     have notout : ∀ b, Wf F' b → ¬ Wf (offF F2 i []) b := fun b hb z => by
      rcases mine b hb with h | h
      ·exact out b z h
      ·obtain ⟨j, hj⟩ := wf_shut z
       obtain ⟨_, x, y, _⟩ := S2.off j b hj
       rw [h] at y; cases y
     have fu : Fp G' H' (Wf (offF F2 i [])) (Wf F) H (F' 0) := ⟨S'.nod 0, fun b hb => ⟨(S'.off 0 b hb).1, (S'.off 0 b hb).2, notout b ⟨0, hb⟩⟩, fun b hb => (mine b ⟨0, hb⟩).elim (fun z => t2.own b ⟨i, z⟩) fun z => .inr (t2.back z)⟩
     have n2' : Rep K G' H' v2 u (F' 0) := by cases u <;> exact n2
     have S5 := S4.open' i hi hf k3 n2' fu
     rw [List.set_set] at S5
     have t5 := tt.put (i := i) fu.new
     have e6 : offF (offF F2 i []) i (F' 0) = offF F2 i (F' 0) := by
      funext j; unfold offF; split <;> rfl
     refine q v G' H' _ fp S5 t5 r' ⟨f'.nod, fun a h => ⟨(f'.off a h).1, (f'.off a h).2.1, fun z => ?_⟩, fun a h => ?_⟩
     ·rcases wf_off z with z | z
      ·rcases f'.new a h with z' | z'
       ·exact out a z (inn a z')
       ·obtain ⟨j, hj⟩ := wf_shut z
        obtain ⟨_, x, y, _⟩ := S2.off j a hj
        rw [z'] at y; cases y
      ·exact (f'.off a h).2.2 ⟨0, z⟩
     ·rcases f'.new a h with z' | z'
      ·exact t2.own a ⟨i, inn a z'⟩
      ·exact .inr (t2.back z')
    ·cases e5
   ·cases e3
  ·cases e3
 ·cases e
end
section
variable {K : Kc} {X : Cx} {es : List Expr} {tl : TA} {fl : DS → Option (List RV × DS)} {pos p py : Pos} {k : Nat} {x y : Str} {n : Nat} {g : DS → Option DR}
theorem j_callIO {mg : Str → Option Value} (i : Nat) (d : Dk X.prog X.w K.fr K.tb mg X.base k x n g) (hr : Room k X.A) (h : JA K X es tl fl) (hN : X.N[i]? = some y := by rfl) (hi : i < K.n := by exact of_decide_eq_true rfl) (hf : K.freeB i = true := by rfl) (hv : Vis X.env.scope y := by first | exact Or.inl rfl | exact Or.inr (Or.inl rfl) | exact Or.inr (Or.inr rfl)) (hd : (y == ("__debug__" : Str)) = false := by decide)
  (hcd : (y == ("__classdict__" : Str)) = false := by decide) (hg : Gl X x := by rfl) (hdb : (x == ("__debug__" : Str)) = false := by decide) (he : starEach (.Name y py :: es) X.env = (false, eval (.Name y py) X.env) :: starEach es X.env := by rfl) (hpl : (backTo pos (starEach es X.env)).any (·.1) = false := by rfl) (hk : X.K = K.fr := by rfl) (hmg : X.mg = mg := by rfl) :
  JE K X (.Call (.Name x p) (.Name y py :: es) [] pos) (tCallS (spO ⟨K.fr, K.tb, none, n, none⟩ mg g) (WE (Z0 mg).W) (tCons (tVar i) tl)) (fCallIO n g i fl) := by
 subst hmg
 obtain ⟨f, fd, ps, F, hm, hkp, hb⟩ := d
 rw [← hk] at F hkp hb
 refine ⟨?_, re_callIO hi (Kc.freeB_ok hf) h.r⟩
 rw [← hk]
 exact pe_callS F hr hg hm hkp hb (fun σ => passAt takes0 σ) (pa_cons (pe_var hN hv hd hcd) h.p he) hdb he hpl
end
def kw2 {α : Type} (us ws : List α) : List α := match us, ws with
 | [a], [b] => [a, b]
 | _, _ => []
theorem vals_kw2 {vs : List V} {us : List Value} {zs : List V} {ws : List Value} (r1 : Vals vs us) (r2 : Vals zs ws) : Vals (kw2 vs zs) (kw2 us ws) := by
 cases r1 with
 | nil => exact .nil
 | cons a r1 =>
  cases r1 with
  | cons _ _ => exact .nil
  | nil =>
   cases r2 with
   | nil => exact .nil
   | cons b r2 =>
    cases r2 with
    | cons _ _ => exact .nil
    | nil => exact .cons a (.cons b .nil)
def DkW (P : Program) (w : World) (fr : PySem.W.Frag) (tb : List (Addr × Str)) (mg : Str → Option Value) (base : Heap) (k : Nat) (x kn : Str) (g : DS → Option DR) : Prop :=
 ∃ (f : Addr) (fd : FuncData) (ps : List Str), FnOk P w fr mg base (L2.CX P w) k f fd ps (spO ⟨fr, tb, none, 2, none⟩ mg g) ∧ mg x = some (.ref f) ∧ PySem.W.keepIn fr (.ref f) = true ∧ KBinds fr fd ps [kn] kw2 kw2
theorem kbinds_of {K : PySem.W.Frag} {x qual a kn : Str} {st : Stmt} {f : Addr} {fd : FuncData} (F : L2.Fun K x qual st f fd)
  (h : ∀ (kV doc pm : Value) (an : Option Addr) (cdv ct u w : Value), bindArgs (PySem.W.fnOf x qual (defArgs st) (defBody st) (defScope st) .none kV doc pm an cdv ct) ⟨[u], [(kn, w)]⟩ = pure [(a, u), (kn, w)]) : KBinds K fd [a, kn] [kn] kw2 kw2 := by
 obtain ⟨oc, od, kV, doc, pm, an, cdv, ct, osl, rfl, lk, hcd⟩ := F.ex
 refine ⟨fun s us ws _ hl => ?_, fun r1 r2 => vals_kw2 r1 r2⟩
 match us, ws, hl with
 | [u], [w], _ => exact .of_eq (h kV doc pm an cdv ct u w)
 | [], _, e => cases e
 | [_], [], e => cases e
 | [_], _ :: _ :: _, e => cases e
 | _ :: _ :: _, _, e => cases e
theorem def_okW {P : Program} {w : World} {fr : PySem.W.Frag} {tb : List (Addr × Str)} {mg : Str → Option Value} {base : Heap} {x qual a kn : Str} {st : Stmt} {f : Addr} {fd : FuncData} {N : List Str} {k : Nat} {T : List Nat} {fb : DS → Option Out} (F : L2.Fun fr x qual st f fd) (hm : mg x = some (.ref f)) (hb : KBinds fr fd [a, kn] [kn] kw2 kw2) (S : FnScope N [a, kn] (defScope st)) (hN : 2 ≤ N.length)
  (body : ∀ (cdv : Value) (A : Around) (outer : List Env) (s : Shared) (H : Hp) (E : XK), Room k (A.deeper (PyProof.Rows.envOfC qual (defScope st) s.heap.objs.size f cdv)) → ∃ t, JB ⟨fr, tb, none, N.length, none⟩ (cxOf (L2.CX P w) P w fr mg base N qual (defScope st) f cdv A outer s H E) ⟨fun c d _ H => E c d H, mg⟩ T (defBody st) t fb) :
  DkW P w fr tb mg base (k + 1) x kn (funO [] 2 N.length fb) := by
 refine ⟨f, fd, [a, kn], F.okX S (fun vs H Q E h => h.1) fun cdv A outer s H vs Q E hr h => ?_, hm, F.kp, hb⟩
 obtain ⟨t, J⟩ := body cdv A outer s H E hr
 exact ⟨t, J.p, body_ok (K := ⟨fr, tb, none, 2, none⟩) rfl hN (fun _ h => by cases h) (fun o e => nomatch e) J.r h⟩
end Fx
set_option Elab.async false
set_option linter.all false
set_option maxRecDepth 100000
set_option maxHeartbeats 1000000
namespace Fx
open PySem PySem.Spec L2
def inlE (f : DS → Option (RV × DS)) (ds : DS) : Option ((RV × DS) ⊕ (Str × DS)) := (f ds).map .inl
def inlP {α : Type} (f : DS → Option ((α × DS) ⊕ (Str × DS))) (ds : DS) : Option (α × DS) := (f ds).bind fun r => match r with
 | .inl p => some p
 | .inr _ => none
def RAX (K : Fr) (Z : Zc) (t : TA) (f : DS → Option ((List RV × DS) ⊕ (Str × DS))) : Prop :=
 ∀ (G H : Hp) (F : Nat → List Addr) (σ : St) (ds : DS) (r : (List RV × DS) ⊕ (Str × DS)) (Q : List V → Hp → Prop), SI K G H σ ds F → f ds = some r → (match r with
  | .inl (rs, ds') => ∀ vs G' H' F' fp, SI K G' H' σ ds' F' → Step (Wf F) G H G' H' (Wf F') → VReps K G' H' σ vs rs fp → Fp G' H' (Wf F') (Wf F) H fp → Q vs H'
  | .inr (x, ds') => ∀ C G' H' F', Z.mg x = some (.ref C) → SI K G' H' σ ds' F' → Step (Wf F) G H G' H' (Wf F') → Z.W (.ref C) none σ H') → t σ H Q
def RIX (K : Fr) (Z : Zc) (wi : TI) (f : DS → Option ((List D × DS) ⊕ (Str × DS))) : Prop :=
 ∀ (G H : Hp) (F : Nat → List Addr) (σ : St) (ds : DS) (r : (List D × DS) ⊕ (Str × DS)) (R : It → Hp → Prop), SI K G H σ ds F → f ds = some r → (match r with
  | .inl (l, ds') => ∀ J G' H' F', SI K G' H' σ ds' F' → Step (Wf F) G H G' H' (Wf F') → Wk K G' J l → R J H'
  | .inr (x, ds') => ∀ C G' H' F', Z.mg x = some (.ref C) → SI K G' H' σ ds' F' → Step (Wf F) G H G' H' (Wf F') → Z.W (.ref C) none σ H') → wi σ H R
def fNilX (ds : DS) : Option ((List RV × DS) ⊕ (Str × DS)) := some (.inl ([], ds))
def fConsX (fa : DS → Option ((RV × DS) ⊕ (Str × DS))) (fr : DS → Option ((List RV × DS) ⊕ (Str × DS))) (ds : DS) : Option ((List RV × DS) ⊕ (Str × DS)) := (fa ds).bind fun r => match r with
 | .inl p => (fr p.2).map fun r2 => match r2 with
  | .inl q => .inl (p.1 :: q.1, q.2)
  | .inr x => .inr x
 | .inr x => some (.inr x)
def fiListX (f : DS → Option ((RV × DS) ⊕ (Str × DS))) (ds : DS) : Option ((List D × DS) ⊕ (Str × DS)) := (f ds).bind fun r => match r with
 | .inl _ => (fiList (inlP f) ds).map .inl
 | .inr x => some (.inr x)
section
variable {K : Kc} {Z : Zc} {t ta : TE} {tl tr : TA} {fe : DS → Option (RV × DS)} {f fa : DS → Option ((RV × DS) ⊕ (Str × DS))} {fr : DS → Option ((List RV × DS) ⊕ (Str × DS))}
theorem rx_of (h : RE K t fe) : RX K Z t (inlE fe) := by
 intro G H F σ ds r Q S e q
 simp only [inlE, Option.map_eq_some_iff] at e
 obtain ⟨⟨rv, d1⟩, e1, rfl⟩ := e
 exact h G H F σ ds rv d1 Q S e1 q
theorem RX.e (h : RX K Z t f) : RE K t (inlP f) := by
 intro G H F σ ds rv ds' Q S e q
 simp only [inlP, Option.bind_eq_some_iff] at e
 obtain ⟨r, e1, e2⟩ := e
 cases r with
 | inl p => cases e2; exact h G H F σ ds _ Q S e1 q
 | inr p => cases e2
theorem rax_nil : RAX K Z tNil fNilX := by
 intro G H F σ ds r Q S e q
 cases e
 exact q [] G H F [] S (Step.refl _ _ _) .nil .nil
theorem rax_cons (ha : RX K Z ta fa) (hr : RAX K Z tr fr) : RAX K Z (tCons ta tr) (fConsX fa fr) := by
 intro G H F σ ds r Q S e q
 simp only [fConsX, Option.bind_eq_some_iff] at e
 obtain ⟨ra, e1, e2⟩ := e
 cases ra with
 | inr p =>
  obtain ⟨x, d⟩ := p
  cases e2
  exact ha G H F σ ds (.inr (x, d)) _ S e1 q
 | inl p =>
  obtain ⟨rv, d1⟩ := p
  simp only [Option.map_eq_some_iff] at e2
  obtain ⟨r2, e3, e4⟩ := e2
  refine ha G H F σ ds (.inl (rv, d1)) _ S e1 fun v1 G1 H1 F1 fp1 S1 t1 r1 f1 => ?_
  cases r2 with
  | inl p2 =>
   obtain ⟨rb, d2⟩ := p2
   subst e4
   refine hr G1 H1 F1 σ d1 (.inl (rb, d2)) _ S1 e3 fun v2 G2 H2 F2 fp2 S2 t2 r2 f2 => ?_
   refine q (v1 :: v2) G2 H2 F2 (fp1 ++ fp2) S2 (t1.trans t2) (.cons (r1.step f1 t2) r2) ((f1.step t2).app (f2.since t1) fun x h1 h2 => ?_)
   obtain ⟨_, ⟨y, hy⟩, nw⟩ := f1.off x h1
   rcases f2.new x h2 with z | z
   ·exact nw z
   ·rw [hy.1] at z; cases z
  | inr p2 =>
   obtain ⟨x, d2⟩ := p2
   subst e4
   exact hr G1 H1 F1 σ d1 (.inr (x, d2)) _ S1 e3 fun C G2 H2 F2 m S2 t2 => q C G2 H2 F2 m S2 (t1.trans t2)
theorem RAX.a (h : RAX K Z tl fr) : RA K tl (inlP fr) := by
 intro G H F σ ds rs ds' Q S e q
 simp only [inlP, Option.bind_eq_some_iff] at e
 obtain ⟨r, e1, e2⟩ := e
 cases r with
 | inl p => cases e2; exact h G H F σ ds _ Q S e1 q
 | inr p => cases e2
theorem rix_list (h : RX K Z t f) : RIX K Z (iList K t) (fiListX f) := by
 intro G H F σ ds r R S e q
 simp only [fiListX, Option.bind_eq_some_iff] at e
 obtain ⟨ra, e1, e2⟩ := e
 cases ra with
 | inl p =>
  simp only [Option.map_eq_some_iff] at e2
  obtain ⟨⟨l, d⟩, e3, rfl⟩ := e2
  exact ri_list h.e G H F σ ds l d R S e3 q
 | inr p =>
  obtain ⟨x, d⟩ := p
  cases e2
  exact h G H F σ ds (.inr (x, d)) _ S e1 q
theorem RIX.i {wi : TI} {fi : DS → Option ((List D × DS) ⊕ (Str × DS))} (h : RIX K Z wi fi) : RI K wi (inlP fi) := by
 intro G H F σ ds l ds' R S e q
 simp only [inlP, Option.bind_eq_some_iff] at e
 obtain ⟨r, e1, e2⟩ := e
 cases r with
 | inl p => cases e2; exact h G H F σ ds _ R S e1 q
 | inr p => cases e2
end
structure JAX (K : Fr) (X : Cx) (Z : Zc) (es : List Expr) (t : TA) (f : DS → Option ((List RV × DS) ⊕ (Str × DS))) : Prop where
 p : PA X es t
 r : RAX K Z t f
structure JIX (K : Fr) (X : Cx) (Z : Zc) (tg e : Expr) (t : TI) (f : DS → Option ((List D × DS) ⊕ (Str × DS))) : Prop where
 p : PI X tg e t
 r : RIX K Z t f
section
variable {K : Kc} {X : Cx} {Z : Zc} {a e : Expr} {es : List Expr} {t ta : TE} {tl : TA} {fe : DS → Option (RV × DS)} {f fa : DS → Option ((RV × DS) ⊕ (Str × DS))} {fr : DS → Option ((List RV × DS) ⊕ (Str × DS))} {pos p : Pos} {k n : Nat} {x : Str} {g : DS → Option DR}
theorem jx_of (h : JE K X e t fe) : JX K X Z e t (inlE fe) := ⟨h.p, rx_of h.r⟩
theorem jax_nil : JAX K X Z [] tNil fNilX := ⟨pa_nil, rax_nil⟩
theorem jax_cons (ha : JX K X Z a ta fa) (hr : JAX K X Z es tl fr) (hs : starEach (a :: es) X.env = (false, eval a X.env) :: starEach es X.env := by rfl) : JAX K X Z (a :: es) (tCons ta tl) (fConsX fa fr) := ⟨pa_cons ha.p hr.p hs, rax_cons ha.r hr.r⟩
theorem ix_list {tg : Expr} (h : JX K X Z e t f) (hk : X.K = K.fr := by rfl) : JIX K X Z tg e (iList K t) (fiListX f) := by
 obtain ⟨kf, kt, ko, kn, kx⟩ := K
 subst hk
 exact ⟨pi_list h.p, rix_list h.r⟩
end
end Fx
set_option Elab.async false
set_option linter.all false
set_option maxRecDepth 100000
set_option maxHeartbeats 1000000
namespace Fx
open PySem PySem.Spec L2
theorem held_other {M : Model} {A : Around} {E : Value → Shared → Prop} {s : Shared} {Z : Obj → Prop} {B : Heap} {env : Env} {outer : List Env} {L L' a : Addr} {Q : Unit → Shared → Prop} (hZ : HandSPX.Steady Z) (hA : A.frames = some (env :: outer)) (hL : env.frame = some L) (ne : L' ≠ L)
  (x : HandSPX.HeldZ B (env :: outer) a Z L' s.heap) (q : ∀ h', HandSPX.HeldZ B (env :: outer) a Z L h' → s.heap.UpToSlots h' → Q () { s with heap := h' }) : wpAny M A (noteFrame (.ref a) env) Q E s := by
 obtain ⟨x1, x2, x3, oe, vs, T, oT, ts, g1, g2, g3, g4, g5, g6, g7, g8, g9⟩ := x
 unfold noteFrame
 simp only [hL]
 refine wpAny_bind (wpAny_field g1 g3 g4 ?_)
 have c1 : (Value.ref T != Value.none) = true := by simp
 rw [if_pos c1]
 refine wpAny_bind (wpAny_field g7 g8 g9 ?_)
 have c2 : ¬ ((rawInt L' == rawInt L) = true) := by
  intro z
  have z : (L' : Int) = (L : Int) := by simpa [rawInt] using z
  exact ne (Int.ofNat.inj z)
 rw [if_neg c2]
 refine wpAny_bind (wpAny_setField g7 g8 (Array.getElem?_eq_some_iff.mp g9).1 ?_)
 have same : ∀ c, c ≠ T → (s.heap.update T (Obj.mapFields (·.setIfInBounds 3 Value.none))).get? c = s.heap.get? c := fun c hc => Heap.get?_update_other _ _ fun z => hc z.symm
 have nT : ∀ c o, s.heap.get? c = some o → (∀ vs, o.data ≠ .fields vs) → c ≠ T := fun c o e hn z => by
  subst z
  rw [g7] at e; cases e
  exact hn ts g8
 refine HandSPX.wpAny_entryZ hZ hA (x3.of_keeps fun c o e hn => ⟨o, by rw [same c (nT c o e hn)]; exact e, rfl⟩) hL (by rw [same a fun z => g6 z.symm]; exact g1) (fun c o e => ?_) x2 g3 (Array.getElem?_eq_some_iff.mp g4).1 g2 fun h' N => ?_
 ·rw [same c fun z => by rw [z, g5] at e; cases e]
  exact x1 c o e
 ·exact q h' ⟨N.1, x2, N.2.1, N.2.2.1⟩ fun c o e hn => N.2.2.2 c o (by rw [same c (nT c o e hn)]; exact e) hn
theorem sky_less {B B' : Heap} {l : List Env} {a L : Addr} {Z : Obj → Prop} {h : Heap} (k : ∀ b o, B'.get? b = some o → B.get? b = some o) (x : Sky B l a Z L h) : Sky B' l a Z L h := by
 have no : ∀ b, B.get? b = none → B'.get? b = none := fun b e => by
  cases q : B'.get? b with
  | none => rfl
  | some o => rw [k b o q] at e; cases e
 have ff : h.FunFrames B l → h.FunFrames B' l := fun f => funFrames_none f fun b hb => no b (f.mem hb).1
 rcases x with ⟨x1, x2, x3, x4⟩ | ⟨x1, x2, x3, oe, vs, T, oT, ts, g1, g2, g3, g4, g5, g6⟩ | ⟨x1, x2, x3, oe, vs, T, oT, ts, g1, g2, g3, g4, g5, g6⟩
 ·exact .inl ⟨fun b o e => x1 b o (k b o e), no a x2, ff x3, x4⟩
 ·exact .inr (.inl ⟨fun b o e => x1 b o (k b o e), no a x2, ff x3, oe, vs, T, oT, ts, g1, g2, g3, g4, no T g5, g6⟩)
 ·exact .inr (.inr ⟨fun b o e => x1 b o (k b o e), no a x2, ff x3, oe, vs, T, oT, ts, g1, g2, g3, g4, no T g5, g6⟩)
abbrev blkX (X : Cx) (s : Shared) (H : Hp) (scope : Scope) (ce : Env) (fp : List Addr) (E : Value → Shared → Prop) : Cx := { X.blk s H scope ce fp with xe := E }
section
variable {X : Cx} {pins : List (Addr × Obj)} {σ : St} {H : Hp} {s : Shared} {W : WX}
theorem inv_xe {E : Value → Shared → Prop} (I : Inv X pins σ H s) : Inv { X with xe := E } pins σ H s :=
 let k := I.ok
 ⟨⟨k.mod, k.kind, k.glob, k.blt, k.above, k.inj, k.has, k.cab, k.hd, k.frames, k.stk, k.exf, k.bs, k.bsz, k.noex, k.exfs, k.funs, k.frf⟩, I.os, I.bare, I.base, I.loc, I.cell, I.free, I.freeC, I.pin, I.hok, I.len⟩
theorem blk_raise {M : Model} {scope : Scope} {ce : Env} {fp : List Addr} {E : Value → Shared → Prop} {u : Value} {s' : Shared} (I : Inv X pins σ H s) (hs : X.stack = X.env :: X.outer) (hf : X.env.frame = some X.env.locals) (cL : ce.locals = s.heap.objs.size) (cF : ce.frame = X.env.frame)
  (hfp : ∀ b ∈ fp, FpOk X pins H b) (tk : Takes X W) (x : XE (blkX X s H scope ce fp E) (fun c d _ H' => W c d σ H') u s') : notedBy M X.A ce (CompFails M X.A X.xe ce) u s' := by
 obtain ⟨a, B, sI, pb, σ', H', cls, d, rfl, J, nb, up, sky, na, os, ag, w⟩ := x
 have nb : ∀ b o, sI.heap.get? b = some o → b ∉ frs X.stack → B.get? b = some o := nb
 have sky : Sky B X.stack a (L2.Zc cls d) ce.locals s'.heap := sky
 have hfr : X.A.frames = some (X.env :: X.outer) := by rw [I.ok.frames, hs]
 have ne : ce.locals ≠ X.env.locals := by rw [cL]; exact Nat.ne_of_gt I.lt
 have cs : ce.locals ∉ frs X.stack := fun hm => (List.mem_cons.mp (I.stkSub _ hm)).elim ne (I.nofs (Nat.le_of_eq cL.symm))
 have Jf : H' ce.locals = none := J.free
 obtain ⟨mI, hnI, _⟩ := J.loc
 have hnI : sI.heap.Ns ce.locals mI := hnI
 have sky2 : Sky (PySem.W.hideAll B [ce.locals]) (X.env :: X.outer) a (L2.Zc cls d) ce.locals s'.heap := by
  rw [← hs]
  exact sky_less (fun b o e => PySem.W.of_hideAll _ e) sky
 have fin : ∀ h1, HandSPX.HeldZ (PySem.W.hideAll B [ce.locals]) (X.env :: X.outer) a (L2.Zc cls d) X.env.locals h1 → s'.heap.UpToSlots h1 → CompFails M X.A X.xe ce (.ref a) { s' with heap := h1 } := fun h1 held up1 => by
  have upI : sI.heap.UpToSlots h1 := up.trans up1
  have hn1 : h1.Ns ce.locals mI := hnI.upToSlots upI
  refine ⟨mI, hn1, fun h2 m2 hn2 sb => ?_⟩
  have sb : Heap.SameBut ce.locals h1 h2 := sb
  obtain ⟨k1, k2, k3, oe, vs, T, oT, ts, g1, g2, g3, g4, g5, g6, g7, g8, g9⟩ := held
  have nd : ∀ b o vs, h1.get? b = some o → o.data = .fields vs → b ≠ ce.locals := fun b o vs e hd z => by
   subst z
   obtain ⟨o', es, ep, e', hd', _⟩ := hn1
   rw [e] at e'; cases e'
   rw [hd] at hd'; cases hd'
  have hn0 : ∀ b o, (PySem.W.hideAll B [ce.locals]).get? b = some o → b ≠ ce.locals := fun b o e z => by
   rw [z, PySem.W.hideAll_none _ (by simp)] at e; cases e
  have held2 : HandSPX.HeldZ (PySem.W.hideAll B [ce.locals]) (X.env :: X.outer) a (L2.Zc cls d) X.env.locals h2 :=
   ⟨fun b o e => (sb.2 b (hn0 b o e)).trans (k1 b o e), k2, Heap.FunFrames.sameBut sb hn2 k3, oe, vs, T, oT, ts, (sb.2 a (nd a oe vs g1 g3)).trans g1, g2, g3, g4, g5, g6, (sb.2 T (nd T oT ts g7 g8)).trans g7, g8, g9⟩
  unfold passOn
  refine wpAny_bind (wpAny_field ((sb.2 a (nd a oe vs g1 g3)).trans g1) g3 g4 ?_)
  have c1 : ¬ ((Value.ref T == Value.none) = true) := by simp
  rw [if_neg c1, cF, hf]
  refine wpAny_bind (HandSPX.setFlight_onZ held2 fun h3 held3 up3 => wpAny_throw (tk _ _ ?_))
  have hide : ∀ b o, sI.heap.get? b = some o → b ≠ ce.locals → (PySem.W.hideAll sI.heap [ce.locals]).get? b = some o := fun b o e z => PySem.W.hideAll_get _ e (by simpa using z)
  have shown : ∀ b o, (PySem.W.hideAll sI.heap [ce.locals]).get? b = some o → sI.heap.get? b = some o ∧ b ≠ ce.locals := fun b o e => ⟨PySem.W.of_hideAll _ e, fun z => by rw [z, PySem.W.hideAll_none _ (by simp)] at e; cases e⟩
  have old : ∀ b o, s.heap.get? b = some o → b ≠ ce.locals := fun b o e => by rw [cL]; exact Nat.ne_of_lt (Heap.lt_size e)
  have U : Un (frs X.stack) fp H H' s.heap sI.heap := J.base
  have inv2 : Inv X pins σ H' { sI with heap := PySem.W.hideAll sI.heap [ce.locals] } := by
   refine I.call' (ch := fp) J.os ⟨fun b o e n hb hx => hide b o (U.keep b o e n hb hx) (old b o e), fun b o e n hb hx => ?_, U.free, fun b o e hx => ?_, U.tups, U.frzs, U.tbls⟩ (fun b o q => ?_) J.bare fun b hb => ⟨(hfp b hb).2.2.2.1, (hfp b hb).2.1, (hfp b hb).2.2.2.2.1, (hfp b hb).2.2.2.2.2⟩
   ·obtain ⟨sl, r⟩ := U.slot b o e n hb hx
    exact ⟨sl, hide b _ r (old b o e)⟩
   ·obtain ⟨o', r⟩ := U.there b o e hx
    exact ⟨o', hide b _ r (old b o e)⟩
   ·refine (J.hok b o q).stay (fun c v hc r => hide c v r fun z => ?_) (fun _ r => r) fun _ _ r => r
    rw [← z] at Jf
    rcases hc with hc | hc
    ·rw [hc, q] at Jf; cases Jf
    ·rw [hc] at Jf; cases Jf
  refine ⟨a, PySem.W.hideAll B [ce.locals], { sI with heap := PySem.W.hideAll sI.heap [ce.locals] }, pins, σ, H', cls, d, rfl, inv2, fun b o e hb => ?_, fun b o e hn => ?_, .inr (.inr (by rw [hs]; exact held3)), na, os, ag, w⟩
  ·obtain ⟨e1, e2⟩ := shown b o e
   exact PySem.W.hideAll_get _ (nb b o e1 hb) (by simpa using e2)
  ·obtain ⟨e1, e2⟩ := shown b o e
   obtain ⟨sl, e3⟩ := upI b o e1 hn
   obtain ⟨sl2, e4⟩ := up3 b { o with slots := sl } ((sb.2 b e2).trans e3) hn
   exact ⟨sl2, e4⟩
 show wpAny M X.A (noteFrame (.ref a) ce) _ _ s'
 rw [noteFrame_env _ cF]
 rcases sky2 with ⟨x1, x2, x3, oe, vs, x4, x5, x6, x7⟩ | fl | hh
 ·exact HandSPX.look_newZ L2.Zc.steady hfr x3 hf x4 x1 x2 x6 x7 x5 fin
 ·exact HandSPX.looks_onZ L2.Zc.steady hfr hf fl fin
 ·exact held_other L2.Zc.steady hfr hf ne hh fin
theorem lcx_core {Q : VK} {elt tg iter : Expr} {ifs : List Expr} {scope : Scope} {own : List (Str × Nat)} {pos pos' : Pos} {wi : TI} {g : TG} {tt : TT} {te : TE} {V : XK} {use : Option (Value → Sem Unit)} {Qf : Value → Shared → Prop}
  (hc : X.calm = true) (hN : X.N.Nodup) (hs : X.stack = X.env :: X.outer) (hf : X.env.frame = some X.env.locals) (tk : Takes X fun c d _ H' => V c d H') (I : Inv X pins σ H s) (hi : PI X tg iter wi) (ok : BlkOk X.N X.env.scope scope own)
  (hg : ∀ s H C cl fp E, PG (blkX X s H scope (compEnvC scope cl C X.env) fp E) tg g) (ht : ∀ s H C cl fp E, PTs (blkX X s H scope (compEnvC scope cl C X.env) fp E) ifs tt)
  (he : ∀ s H C cl fp E, Takes (blkX X s H scope (compEnvC scope cl C X.env) fp E) (fun c d _ H' => V c d H') → PE (blkX X s H scope (compEnvC scope cl C X.env) fp E) elt te) (hsf : ∀ x, foldedSetIterable iter X.env x = pure x)
  (h : tLc wi g tt te (own.map (·.2)) σ H Q)
  (hR : ∀ D (ce : Env) s' m H', Inv X pins σ H' s' → Q (.ref D) H' → s'.heap.Ns ce.locals m → FpOk X pins H' ce.locals → compEnds (model X.prog X.w) X.A X.xe use Qf (.ref D) ce (.ok .next) s') :
  wpAny (model X.prog X.w) X.A (comprehension (.ListComp elt [⟨tg, iter, ifs, 0⟩] scope pos) scope X.env pos' (newList []) false (eval iter X.env) use) Qf X.xe s := by
 have cells : ∀ y ∈ scope.names, y.2 = .free → ∃ c, X.env.cells.lookup y.1 = some c := fun y hy e => (ok.free y hy e).elim (fun z => I.ok.has _ (.inl z)) fun z => I.ok.has _ (.inr z)
 refine comprehension_at (use := use) rfl hsf (closure_ok cells) ok.kind (fun y hy z => by rw [ok.uniq y hy, z]) (thn (hi.run pins s σ H _ I h) fun _ s1 h1 => thn h1 fun itv s2 h2 => ?_)
 obtain ⟨it, fp, tn, J, H2, rfl, I2, T, st2, f2, q⟩ := h2
 refine wpAny_newObj_type (newEnv_comp ?_) (Nat.zero_le sizeLine)
 generalize eD : s2.heap.objs.size = D
 obtain ⟨Wm, ⟨m0, w0⟩, turn⟩ := q D (I2.hok.fresh (Nat.le_of_eq eD))
 generalize e3 : ({ s2 with heap := s2.heap.push { cls := .type "list", data := .seq ([] : List Value).toArray } } : Shared) = s3
 have p3 : s3.heap = s2.heap.push { cls := .type "list", data := .seq ([] : List Value).toArray } := by rw [← e3]
 have I3 : Inv X pins σ (upd H2 D (.lst [])) s3 := by
  subst e3; subst eD
  exact I2.laid (t' := s2.toks) (fun b o e => Heap.get?_push_of_some _ e) (Nat.le_refl _) ⟨Nat.zero_le _, [], 0, .nil, Heap.get?_push_size _ rfl⟩
 have f3 : ∀ b ∈ fp, FpOk X pins (upd H2 D (.lst [])) b ∧ b < s3.heap.objs.size := fun b hb => by
  obtain ⟨o, e, _⟩ := T.obj _ _ st2 b hb
  have lt := Heap.lt_size e
  refine ⟨⟨?_, (f2 b hb).2⟩, by rw [p3, Heap.size_push]; exact Nat.lt_succ_of_lt lt⟩
  rw [upd_ne (by rw [← eD]; exact Nat.ne_of_lt lt)]
  exact (f2 b hb).1
 have st3 : tn 0 s3.heap := T.keep _ _ _ st2 fun b _ o e => by rw [p3]; exact Heap.get?_push_of_some _ e
 have I4 := block_start I3 ok hN f3
 generalize eH : upd H2 D (.lst []) = H3 at I3 I4 w0 f3
 generalize ecl : cellsFrom (s3.heap.objs.size + 1) scope.names (cloFrom X.env.cells scope.names []) = cl at I4
 have kg := hg s3 H3 s3.heap.objs.size cl fp
 have kt := ht s3 H3 s3.heap.objs.size cl fp
 have ke := he s3 H3 s3.heap.objs.size cl fp
 show codeAny _ _ (.compStart (.ListComp elt [⟨tg, iter, ifs, 0⟩] scope pos) 0 (.ref it) (.ref D) (compEnvC scope cl s3.heap.objs.size X.env)) (compEnds (model X.prog X.w) X.A X.xe use Qf (.ref D) (compEnvC scope cl s3.heap.objs.size X.env)) _
 have cL : (compEnvC scope cl s3.heap.objs.size X.env).locals = s3.heap.objs.size := rfl
 have cF : (compEnvC scope cl s3.heap.objs.size X.env).frame = X.env.frame := rfl
 generalize ece : compEnvC scope cl s3.heap.objs.size X.env = ce at I4 kg kt ke cL cF ⊢
 generalize e4 : ({ s3 with heap := pushCells (s3.heap.push { cls := .type "dict", data := .dict #[] }) scope.names } : Shared) = s4 at I4 ⊢
 have st4 : tn 0 s4.heap := T.keep _ _ _ st3 fun b _ o e => by rw [← e4]; exact pushCells_keeps _ _ _ _ (Heap.get?_push_of_some _ e)
 generalize eE : (notedBy (model X.prog X.w) X.A ce fun e s' => compEnds (model X.prog X.w) X.A X.xe use Qf (.ref D) ce (.error e) s') = E
 have tkB : Takes (blkX X s3 H3 scope ce fp E) (fun c d _ H' => V c d H') := fun u s' x => by
  show E u s'
  rw [← eE]
  have z := blk_raise (M := model X.prog X.w) (W := fun c d _ H' => V c d H') I3 hs hf cL cF (fun b hb => (f3 b hb).1) tk x
  exact wpAny_mono z (fun _ _ y => by cases use <;> exact y) fun _ _ y => by cases use <;> exact y
 have I4 : Inv (blkX X s3 H3 scope ce fp E) [] (wipe σ (own.map (·.2))) H3 s4 := inv_xe I4
 have fpo : ∀ {σ' : St} {H' : Hp} {s' : Shared}, Inv (blkX X s3 H3 scope ce fp E) [] σ' H' s' → (∀ b ∈ fp, H' b = none) → ∀ b ∈ fp, FpOk (blkX X s3 H3 scope ce fp E) [] H' b := fun {σ' H' s'} I' n b hb =>
  ⟨n b hb, (I'.ok.exf b hb).1, I'.ok.exfs b hb, .inl hb, fun x c => (I'.ok.exf b hb).2 x c, fun p hp => nomatch (show p ∈ ([] : List (Addr × Obj)) from hp)⟩
 have loop : codeAny (model X.prog X.w) X.A (.compLoop (.ListComp elt [⟨tg, iter, ifs, 0⟩] scope pos) 0 (.ref it) (.ref D) ce) (compEnds (model X.prog X.w) X.A X.xe use Qf (.ref D) ce) s4 := by
  refine compLoop_any (fun n s' => ∃ i H', Inv (blkX X s3 H3 scope ce fp E) [] (wipe σ (own.map (·.2))) H' s' ∧ tn i s'.heap ∧ (∀ b ∈ fp, H' b = none) ∧ Wm i n H') (fun n s5 J5 => ?_) m0 ⟨0, H3, I4, st4, fun b hb => (f3 b hb).1.1, w0⟩
  rw [eE]
  obtain ⟨i, H5, I5, st5, n5, w5⟩ := J5
  rcases turn i n H5 w5 with ⟨stop, fine⟩ | ⟨go, Nx, nx, step⟩
  ·refine thn (T.done (blkX X s3 H3 scope ce fp E) rfl rfl rfl hc i [] s5 _ H5 E I5 (fpo I5 n5) st5 stop) fun r s6 ⟨er, I6⟩ => ?_
   subst er
   obtain ⟨m, hn, _⟩ := I6.loc
   have f6 : H5 ce.locals = none := I6.free
   have I7 : Inv X pins σ H5 s6 := I3.call' (ch := fp) I6.os I6.base I6.hok I6.bare fun b hb => let z := (f3 b hb).1.2; ⟨z.2.2.1, z.1, z.2.2.2.1, z.2.2.2.2⟩
   exact hR D ce s6 m H5 I7 fine hn (I3.fpOk (Nat.le_of_eq cL.symm) f6)
  ·refine thn (T.item (blkX X s3 H3 scope ce fp E) rfl rfl rfl hc i [] s5 _ H5 E I5 (fpo I5 n5) st5 go) fun r s6 ⟨u, er, k6⟩ => ?_
   subst er
   refine thn k6 fun _ s7 ⟨x, H7, I7, r7, y7, st7, n7⟩ => ?_
   have I7p := I7.pinned (fpo I7 n7) (T.obj _ _ st7)
   refine thn ((kg E).run _ s7 _ H7 x u _ I7p r7 (step x H7 y7)) fun _ s8 ⟨σ8, H8, I8, ew, q8⟩ => thn ((kt E).run _ s8 σ8 H8 _ I8 q8) fun b s9 ⟨H9, I9, q9⟩ => ?_
   have back : ∀ {s' : Shared} {H' : Hp}, Inv (blkX X s3 H3 scope ce fp E) ([] ++ pinsAt fp s7.heap) σ8 H' s' → Nx H' → ∃ m, m < n ∧ ∃ i H', Inv (blkX X s3 H3 scope ce fp E) [] (wipe σ (own.map (·.2))) H' s' ∧ tn i s'.heap ∧ (∀ b ∈ fp, H' b = none) ∧ Wm i m H' := fun {s' H'} I' z => by
    obtain ⟨m, hm, wm⟩ := nx H' z
    have pn : ∀ b ∈ fp, ∀ o, s7.heap.get? b = some o → s'.heap.get? b = some o ∧ H' b = none := fun b hb o e => (fun y => ⟨y.1, y.2.1⟩) (I'.pin (b, o) (List.mem_append_right _ (List.mem_append_right _ (mem_pinsAt hb e))))
    refine ⟨m, hm, i + 1, H', (I'.unpinned (pins := [])).weak (by rw [← ew, wipe_length]) (fun j v e => (wipe_some (by rw [ew]; exact e)).1), T.keep _ _ _ st7 fun b hb o e => (pn b hb o e).1, fun b hb => ?_, wm⟩
    obtain ⟨o, e, _⟩ := T.obj _ _ st7 b hb
    exact (pn b hb o e).2
   cases b with
   | false => exact back I9 q9
   | true =>
    refine thn ((ke E tkB).run _ s9 σ8 H9 _ I9 q9) fun z s10 ⟨yv, H10, I10, r10, acc, d10, z10, n10⟩ => ?_
    exact app_ok (X := blkX X s3 H3 scope ce fp E) I10 d10 z10 r10 fun s11 I11 => back I11 n10
 exact codeAny_compStart_list loop (T.self X.A 0 _ _ _ st4 loop)
theorem pe_lcX {elt tg iter : Expr} {ifs : List Expr} {scope : Scope} {own : List (Str × Nat)} {pos : Pos} {wi : TI} {g : TG} {tt : TT} {te : TE} {V : XK}
  (hc : X.calm = true) (hN : X.N.Nodup) (hs : X.stack = X.env :: X.outer) (hf : X.env.frame = some X.env.locals) (tk : Takes X fun c d _ H' => V c d H') (hi : PI X tg iter wi) (ok : BlkOk X.N X.env.scope scope own)
  (hg : ∀ s H C cl fp E, PG (blkX X s H scope (compEnvC scope cl C X.env) fp E) tg g) (ht : ∀ s H C cl fp E, PTs (blkX X s H scope (compEnvC scope cl C X.env) fp E) ifs tt)
  (he : ∀ s H C cl fp E, Takes (blkX X s H scope (compEnvC scope cl C X.env) fp E) (fun c d _ H' => V c d H') → PE (blkX X s H scope (compEnvC scope cl C X.env) fp E) elt te) (hsf : ∀ x, foldedSetIterable iter X.env x = pure x) :
  PE X (.ListComp elt [⟨tg, iter, ifs, 0⟩] scope pos) (tLc wi g tt te (own.map (·.2))) := by
 refine ⟨fun pins s σ H Q I h => ?_⟩
 rw [eval_ListComp]
 refine lcx_core hc hN hs hf tk I hi ok hg ht he hsf h fun D ce s' m H' I' q hn f => ⟨m, hn, fun h2 sb => ?_⟩
 have b := f.2.2
 exact ⟨.ref D, H', I'.turned (t' := s'.toks) (fun c o z e => (sb.2 c z).trans e) f.1 f.2.1 b.2.1 b.2.2.1 b.2.2.2, rfl, q⟩
end
def lcFX (τ : D → DS → Option ((Option D × DS) ⊕ (Str × DS))) : List D → DS → List D → Option ((List D × DS) ⊕ (Str × DS))
 | [], w, acc => some (.inl (acc, w))
 | d :: l, w, acc => (τ d w).bind fun r => match r with
  | .inl p => lcFX τ l p.2 (acc ++ p.1.toList)
  | .inr x => some (.inr x)
def turnMX (g : D → DS → Option DS) (fe : DS → Option ((RV × DS) ⊕ (Str × DS))) (vs : List Nat) (d : D) (w : DS) : Option ((Option D × DS) ⊕ (Str × DS)) :=
 (g d w).bind fun ds1 => (fe ds1).bind fun r => match r with
  | .inl q => (own q.1).map fun z => .inl (some z, wipeD q.2 vs)
  | .inr x => some (.inr (x.1, wipeD x.2 vs))
def fLcMX (fi : DS → Option ((List D × DS) ⊕ (Str × DS))) (g : D → DS → Option DS) (fe : DS → Option ((RV × DS) ⊕ (Str × DS))) (vs : List Nat) (ds : DS) : Option ((RV × DS) ⊕ (Str × DS)) := (fi ds).bind fun r => match r with
 | .inr x => some (.inr x)
 | .inl p => if (vs.all fun i => shB p.2[i]?) && decide (p.1.length ≤ 1000000) then (lcFX (turnMX g fe vs) p.1 (wipeD p.2 vs) []).map fun r2 => match r2 with
  | .inl q => .inl (.ov (nrm (.list q.1)), mend p.2 q.2 vs)
  | .inr x => .inr (x.1, mend p.2 x.2 vs) else none
section
variable {K : Kc} {Z : Zc}
theorem lc_loopX {P : Hp → Hp → Addr → List D → List Addr → Prop} (hP : Acc K P) {J : It} {g : TG} {tt : TT} {te : TE} {vs : List Nat} {τ : D → DS → Option ((Option D × DS) ⊕ (Str × DS))} {W0 : Addr → Prop} {G0 H0 Gb : Hp} {σ : St} {A : Addr} {l : List D} {Q : VK} {r : (List D × DS) ⊕ (Str × DS)}
  (wk : Wk K Gb J l)
  (turn : ∀ d w p es x H (Nx : Hp → Prop), τ d w = some (.inl p) → es.length ≤ 1000000 → (∃ G F fp, SI K G H (wipe σ vs) w F ∧ Step W0 G0 H0 G H (Wf F) ∧ Same Gb G ∧ P G H A es fp ∧ Fp G H (Wf F) W0 H0 (A :: fp) ∧ Dp K G x d) →
   (∀ H', LcI K P W0 G0 H0 Gb (wipe σ vs) A p.2 (es ++ p.1.toList) H' → Nx H') → g x (wipe σ vs) H fun σ2 H2 => wipe σ2 vs = wipe σ vs ∧ tt σ2 H2 fun b H3 =>
    if b = true then te σ2 H3 fun y H4 => ∃ acc, H4 A = some (.lst acc) ∧ acc.length < sizeLine ∧ Nx (upd H4 A (.lst (acc ++ [y]))) else Nx H3)
  (fail : ∀ d w p es x H (Nx : Hp → Prop), r = .inr p → τ d w = some (.inr p) → (∃ G F fp, SI K G H (wipe σ vs) w F ∧ Step W0 G0 H0 G H (Wf F) ∧ Same Gb G ∧ P G H A es fp ∧ Fp G H (Wf F) W0 H0 (A :: fp) ∧ Dp K G x d) →
   g x (wipe σ vs) H fun σ2 H2 => wipe σ2 vs = wipe σ vs ∧ tt σ2 H2 fun b H3 =>
    if b = true then te σ2 H3 fun y H4 => ∃ acc, H4 A = some (.lst acc) ∧ acc.length < sizeLine ∧ Nx (upd H4 A (.lst (acc ++ [y]))) else Nx H3)
  (hl : l.length ≤ 1000000) {w : DS} (he : lcFX τ l w [] = some r) {H1 : Hp} (h0 : LcI K P W0 G0 H0 Gb (wipe σ vs) A w [] H1) (hd : ∀ es w' H, r = .inl (es, w') → LcI K P W0 G0 H0 Gb (wipe σ vs) A w' es H → Q (.ref A) H) :
  ∃ W : Nat → Nat → Hp → Prop, (∃ m, W 0 m H1) ∧ ∀ i m H, W i m H →
   (J.stop i H ∧ Q (.ref A) H) ∨ (J.go i H ∧ ∃ Nx : Hp → Prop, (∀ H', Nx H' → ∃ m', m' < m ∧ W (i + 1) m' H') ∧ ∀ x H', J.yld i H x H' → g x (wipe σ vs) H' fun σ2 H2 => wipe σ2 vs = wipe σ vs ∧ tt σ2 H2 fun b H3 =>
    if b = true then te σ2 H3 fun y H4 => ∃ acc, H4 A = some (.lst acc) ∧ acc.length < sizeLine ∧ Nx (upd H4 A (.lst (acc ++ [y]))) else Nx H3) := by
 refine ⟨fun i m H => m = l.length - i ∧ i ≤ l.length ∧ ∃ wi ei, ei.length ≤ i ∧ lcFX τ (l.drop i) wi ei = some r ∧ LcI K P W0 G0 H0 Gb (wipe σ vs) A wi ei H,
  ⟨l.length, rfl, Nat.zero_le _, w, [], Nat.le_refl _, he, h0⟩, ?_⟩
 rintro i m H ⟨rfl, hi, wi, ei, hei, hrun, I0⟩
 have I1 := I0
 obtain ⟨G, F, fp, S, t, sb, hp, hf⟩ := I1
 by_cases hlt : i < l.length
 ·rw [List.drop_eq_getElem_cons hlt] at hrun
  simp only [lcFX, Option.bind_eq_some_iff] at hrun
  obtain ⟨p, h1, h2⟩ := hrun
  have there : ∀ x H', J.yld i H x H' → ∃ G F fp, SI K G H' (wipe σ vs) wi F ∧ Step W0 G0 H0 G H' (Wf F) ∧ Same Gb G ∧ P G H' A ei fp ∧ Fp G H' (Wf F) W0 H0 (A :: fp) ∧ Dp K G x l[i] := fun x H' y => by
   have hd' : l[i]? = some l[i] := by simp [hlt]
   obtain ⟨G', sG, sH, sGH, nw, nt, n2, dd⟩ := wk.yields i l[i] G H x H' hd' sb S.sub y
   have st := Step.grow (W := Wf F) sG sH nw
   exact ⟨G', F, fp, S.grow sG sH sGH nw (nt S.gnt) n2, t.trans st, sb.trans sG, hP.step hp sG fun b hb x e => sH b x e, hf.step st, dd⟩
  cases p with
  | inl p =>
   refine .inr ⟨wk.goes i H hlt (sb.trans S.sub), fun H' => LcI K P W0 G0 H0 Gb (wipe σ vs) A p.2 (ei ++ p.1.toList) H', fun H' q => ⟨l.length - (i + 1), by omega, rfl, hlt, p.2, _, ?_, h2, q⟩, fun x H' y => turn l[i] wi p ei x H' _ h1 (by omega) (there x H' y) fun _ q => q⟩
   rw [List.length_append]
   have : p.1.toList.length ≤ 1 := by cases p.1 <;> simp
   omega
  | inr p =>
   cases h2
   exact .inr ⟨wk.goes i H hlt (sb.trans S.sub), fun _ => False, fun _ q => q.elim, fun x H' y => fail l[i] wi p ei x H' _ rfl h1 (there x H' y)⟩
 ·have e : i = l.length := by omega
  subst e
  rw [List.drop_length] at hrun
  cases hrun
  exact .inl ⟨wk.stops H (sb.trans S.sub), hd _ _ H rfl I0⟩
theorem rx_lcM {T vs : List Nat} {wi : TI} {g : TG} {te : TE} {V : XK} {mg : Str → Option Value} {fi : DS → Option ((List D × DS) ⊕ (Str × DS))} {fg : D → DS → Option DS} {fe : DS → Option ((RV × DS) ⊕ (Str × DS))} (hT : ∀ i ∈ T, i ∈ vs) (hn : ∀ i ∈ vs, i < K.n) (hfr : ∀ i ∈ vs, K.free i) (hi : RIX K ⟨fun c d _ H => V c d H, mg⟩ wi fi) (hg : RG K T g fg) (he : RX K ⟨fun c d _ H => V c d H, mg⟩ te fe) :
  RX K ⟨fun c d _ H => V c d H, mg⟩ (tLc wi g tYes te vs) (fLcMX fi fg fe vs) := by
 intro G0 H0 F0 σ ds r Q S0 e q
 simp only [fLcMX, Option.bind_eq_some_iff] at e
 obtain ⟨ri, e1, e2⟩ := e
 cases ri with
 | inr x =>
  cases e2
  exact hi G0 H0 F0 σ ds (.inr x) _ S0 e1 q
 | inl pi =>
  obtain ⟨l, ds1⟩ := pi
  dsimp only at e2
  split at e2
  ·rename_i hc
   simp only [Bool.and_eq_true, List.all_eq_true, decide_eq_true_eq] at hc
   obtain ⟨hv, hl⟩ := hc
   simp only [Option.map_eq_some_iff] at e2
   obtain ⟨rr, e3, e4⟩ := e2
   refine hi G0 H0 F0 σ ds (.inl (l, ds1)) _ S0 e1 fun J Gb H1 F1 S1 t1 wk A hA => ?_
   obtain ⟨S2, t2, r2, f2⟩ := new_list (ys := []) (z := []) (S1.wiped vs hfr) t1 hA .nil
   refine lc_loopX (K := K) (σ := σ) (W0 := Wf F0) (G0 := G0) (H0 := H0) (Gb := Gb) accM wk ?_ ?_ hl e3 ⟨Gb, F1, [], S2, t2, Same.refl Gb, ⟨[], upd_same, .nil⟩, f2⟩ ?_
   ·rintro d w p es x H Nx hτ hes ⟨G, F, fp, S, t, sb, ⟨xs, hx1, hx2⟩, hf, dd⟩ nx
    simp only [turnMX, Option.bind_eq_some_iff] at hτ
    obtain ⟨d1, k1, rv, k4, k5⟩ := hτ
    cases rv with
    | inr x => cases k5
    | inl pv =>
    obtain ⟨rv, d3⟩ := pv
    simp only [Option.map_eq_some_iff] at k5
    obtain ⟨z, k5, k6⟩ := k5
    cases k6
    refine hg G H F _ w x d d1 _ S dd k1 fun σ2 F2 S2 w2 o2 => ⟨wipe_off hT o2, ?_⟩
    have tt2 : Step (Wf F0) G0 H0 G H (Wf F2) := t.reown fun b hb => t.own b (w2 b hb)
    have hf2 : Fp G H (Wf F2) (Wf F0) H0 (A :: fp) := ⟨hf.nod, fun a ha => ⟨(hf.off a ha).1, (hf.off a ha).2.1, fun z => (hf.off a ha).2.2 (w2 a z)⟩, hf.new⟩
    have ww : wipe σ2 vs = wipe σ vs := wipe_off hT o2
    refine he G H F2 σ2 d1 (.inl (rv, d3)) _ S2 k4 fun v G4 H4 F4 fp4 S4 t4 r4 f4 => ?_
    cases rv with
    | loc i => cases k5
    | ov o =>
    have tr4 : Tr H4 v z fp4 := Rep.own (K := K) (G := G4) r4 k5
    have hf4 := hf2.step t4
    have hx4 : H4 A = some (.lst xs) := hf2.keeps t4 A (by simp) _ hx1
    have hy4 : TrAll H4 xs es fp := trsMono _ _ _ hx2 fun b hb x e => hf2.keeps t4 b (by simp [hb]) x e
    have tall := tt2.trans t4
    have f5 : Fp G4 H4 (Wf F4) (Wf F0) H0 ((A :: fp) ++ fp4) := hf4.app (f4.since tt2) fun y h1 h2 => by
     rcases f4.new y h2 with z | z
     ·exact (hf2.off y h1).2.2 z
     ·obtain ⟨_, ⟨x, hx⟩, _⟩ := hf2.off y h1
      rw [hx.1] at z; cases z
    have fa := f5.off A (by simp)
    have nA : A ∉ fp ++ fp4 := (List.nodup_cons.mp f5.nod).1
    refine ⟨xs, hx4, by rw [trsLen hx2]; exact szOf hes, nx _ ⟨G4, F4, fp ++ fp4, ?_, tall.poke (f5.new A (by simp)), ?_, ⟨xs ++ [v], upd_same, ?_⟩, ⟨f5.nod, fun a ha => ?_, f5.new⟩⟩⟩
    ·have := (S4.poke (o := .lst (xs ++ [v])) hx4 nt_lst fa.1 fa.2.2 nt_lst).wiped vs hfr
     rw [ww] at this
     exact this
    ·exact sb.trans t4.sg
    ·have h1 : TrAll H4 (xs ++ [v]) (es ++ [z]) (fp ++ fp4) := by
      have y := trsApp hy4 (.cons tr4 .nil)
      rwa [List.append_nil] at y
     exact trsMono _ _ _ h1 fun b hb x e => by
      rw [upd_ne fun z => nA (by rw [← z]; exact hb)]; exact e
    ·by_cases h : a = A
     ·subst h
      exact ⟨fa.1, ⟨_, upd_same, nt_lst⟩, fa.2.2⟩
     ·obtain ⟨h1, h2, h3⟩ := f5.off a ha
      exact ⟨h1, by rw [upd_ne h]; exact h2, h3⟩
   ·rintro d w p es x H Nx rfl hτ ⟨G, F, fp, S, t, sb, hx, hf, dd⟩
    simp only [turnMX, Option.bind_eq_some_iff] at hτ
    obtain ⟨d1, k1, rv, k4, k5⟩ := hτ
    cases rv with
    | inl pv =>
     simp only [Option.map_eq_some_iff] at k5
     obtain ⟨z, _, k6⟩ := k5
     cases k6
    | inr pv =>
    obtain ⟨xn, d3⟩ := pv
    cases k5
    subst e4
    refine hg G H F _ w x d d1 _ S dd k1 fun σ2 F2 S2 w2 o2 => ⟨wipe_off hT o2, ?_⟩
    have tt2 : Step (Wf F0) G0 H0 G H (Wf F2) := t.reown fun b hb => t.own b (w2 b hb)
    have ww : wipe σ2 vs = wipe σ vs := wipe_off hT o2
    refine he G H F2 σ2 d1 (.inr (xn, d3)) _ S2 k4 fun C G4 H4 F4 m4 S4 t4 => ?_
    have S5 := S4.wiped vs hfr
    rw [ww] at S5
    obtain ⟨F', S', w'⟩ := SI.mended S1 (sb.trans t4.sg) S5 hv hn hfr
    have tall := tt2.trans t4
    exact q C G4 H4 F' m4 S' (tall.reown fun b hb => tall.own b (w' b hb))
   ·rintro es w' H rfl ⟨G, F, fp, S, t, sb, ⟨xs, hx1, hx2⟩, hf⟩
    subst e4
    obtain ⟨F', S', w'⟩ := SI.mended S1 sb S hv hn hfr
    exact q (.ref A) G H F' (A :: fp) S' (t.reown fun b hb => t.own b (w' b hb)) (Rep.nrm (K := K) (Tr.lst hx1 hx2)) ⟨hf.nod, fun a ha => ⟨(hf.off a ha).1, (hf.off a ha).2.1, fun z => (hf.off a ha).2.2 (w' a z)⟩, hf.new⟩
  ·cases e2
end
end Fx
set_option Elab.async false
set_option linter.all false
set_option maxRecDepth 100000
set_option maxHeartbeats 1000000
namespace Fx
open PySem PySem.Spec L2
noncomputable def fiR1X (fa : DS → Option ((List RV × DS) ⊕ (Str × DS))) (ds : DS) : Option ((List D × DS) ⊕ (Str × DS)) := (fa ds).bind fun r => match r with
 | .inl _ => (fiR1 (inlP fa) ds).map .inl
 | .inr x => some (.inr x)
def fForX (fi : DS → Option ((List D × DS) ⊕ (Str × DS))) (g : D → DS → Option DS) (fb : DS → Option Out) (ds : DS) : Option Out := (fi ds).bind fun r => match r with
 | .inl _ => fFor (inlP fi) g fb ds
 | .inr x => some (.ex x.1 x.2)
def fAppTX (i : Nat) (f : DS → Option ((RV × DS) ⊕ (Str × DS))) (ds : DS) : Option Out := match ds[i]? with
 | some (some o) => match o.own? with
  | some (.list _) => (f ds).bind fun r => match r with
   | .inl _ => fAppT i (inlP f) ds
   | .inr x => some (.ex x.1 x.2)
  | _ => none
 | _ => none
def fTupOX (fa : DS → Option ((List RV × DS) ⊕ (Str × DS))) (ds : DS) : Option ((RV × DS) ⊕ (Str × DS)) := (fa ds).bind fun r => match r with
 | .inl _ => (fTupO (inlP fa) ds).map .inl
 | .inr x => some (.inr x)
section
variable {K : Kc} {Z : Zc} {t ta : TE} {tl : TA} {f fa : DS → Option ((RV × DS) ⊕ (Str × DS))} {fr : DS → Option ((List RV × DS) ⊕ (Str × DS))}
theorem rix_r1 (h : RAX K Z tl fr) : RIX K Z (iRng1 tl) (fiR1X fr) := by
 intro G H F σ ds r R S e q
 simp only [fiR1X, Option.bind_eq_some_iff] at e
 obtain ⟨ra, e1, e2⟩ := e
 cases ra with
 | inl p =>
  simp only [Option.map_eq_some_iff] at e2
  obtain ⟨⟨l, d⟩, e3, rfl⟩ := e2
  exact ri_r1 h.a G H F σ ds l d R S e3 q
 | inr p =>
  obtain ⟨x, d⟩ := p
  cases e2
  exact h G H F σ ds (.inr (x, d)) _ S e1 q
theorem rs_forX {T T' : List Nat} {wi : TI} {g : TG} {tb : TS} {fi : DS → Option ((List D × DS) ⊕ (Str × DS))} {fg : D → DS → Option DS} {fb : DS → Option Out} (hi : RIX K Z wi fi) (hg : RG K T g fg) (hb : RS K Z T' tb fb) : RS K Z (T ++ T') (tFor wi g tb) (fForX fi fg fb) := by
 intro G H F σ ds o E S e q
 simp only [fForX, Option.bind_eq_some_iff] at e
 obtain ⟨ra, e1, e2⟩ := e
 cases ra with
 | inl p => exact rs_for hi.i hg hb G H F σ ds o E S e2 q
 | inr p =>
  cases e2
  exact hi G H F σ ds _ _ S e1 fun C G1 H1 F1 m S1 t1 => q C σ G1 H1 F1 m S1 t1 (Off.refl _ _)
theorem rs_appTX {i : Nat} (hn : i < K.n) (hf : K.free i) (h : RX K Z t f) : RS K Z [] (tDrop (tBM K "list" rAppend (tVar i) (tCons t tNil))) (fAppTX i f) := by
 intro G H F σ ds o E S e q
 simp only [fAppTX] at e
 split at e
 ·rename_i o0 ho0
  split at e
  ·rename_i l0 hl0
   simp only [Option.bind_eq_some_iff] at e
   obtain ⟨ra, e1, e2⟩ := e
   cases ra with
   | inl p => exact rs_appT hn hf h.e G H F σ ds o E S e2 q
   | inr p =>
    cases e2
    obtain ⟨a0, xs0, fq0, k1, k2, k3, k4⟩ := slot_own S hn ho0 hl0
    exact ⟨.ref a0, k1, .inl ⟨rfl, xs0, SqL.of k2⟩, h G H F σ ds _ _ S e1 fun C G1 H1 F1 m S1 t1 => q C σ G1 H1 F1 m S1 t1 (Off.refl _ _)⟩
  ·cases e
 ·cases e
theorem rx_tupO (h : RAX K Z tl fr) : RX K Z (tTup tl) (fTupOX fr) := by
 intro G H F σ ds r Q S e q
 simp only [fTupOX, Option.bind_eq_some_iff] at e
 obtain ⟨ra, e1, e2⟩ := e
 cases ra with
 | inl p =>
  simp only [Option.map_eq_some_iff] at e2
  obtain ⟨⟨rv, d⟩, e3, rfl⟩ := e2
  exact re_tupO h.a G H F σ ds rv d Q S e3 q
 | inr p =>
  obtain ⟨x, d⟩ := p
  cases e2
  exact h G H F σ ds (.inr (x, d)) _ S e1 q
end
section
variable {K : Kc} {X : Cx} {Z : Zc} {a e iter tg elt : Expr} {es : List Expr} {t ta te : TE} {tl : TA} {g : TG} {wi : TI} {f fa fe : DS → Option ((RV × DS) ⊕ (Str × DS))} {fr : DS → Option ((List RV × DS) ⊕ (Str × DS))} {fi : DS → Option ((List D × DS) ⊕ (Str × DS))} {fg : D → DS → Option DS} {fs : DS → Option Out} {T T' : List Nat} {pos p apos : Pos} {k n : Nat} {V : XK} {mg : Str → Option Value}
theorem ix_r1 (hm : X.mg "range" = none) (h : JAX K X Z [a] tl fr) (hg : Gl X "range" := by rfl) (hs : starEach [a] X.env = [(false, eval a X.env)] := by rfl) : JIX K X Z tg (.Call (.Name "range" p) [a] [] pos) (iRng1 tl) (fiR1X fr) := ⟨pi_range1 hg hm h.p hs, rix_r1 h.r⟩
theorem s_forX {sts : List Stmt} {ts : TS} (hc : X.calm = true) (hi : JIX K X Z tg iter wi fi) (hg : JG K X T tg g fg) (hb : JB K X Z T' sts ts fs) (hp : PassesOwn (model X.prog X.w) X.A X.env X.xe := by first | exact PassesOwn.never | exact passes_of rfl)
  (hs : ∀ x, foldedSetIterable iter X.env x = pure x := by intro _; rfl) : JS K X Z (T ++ T') (.For tg iter sts [] pos) (tFor wi g ts) (fForX fi fg fs) := ⟨ps_for hp hc hi.p hg.p hb.p hs, rs_forX hi.r hg.r hb.r⟩
theorem s_appTX (i : Nat) {x : Str} {p1 cpos : Pos} (he : JX K X Z e te fe) (hN : X.N[i]? = some x := by rfl) (hv : Vis X.env.scope x := by first | exact Or.inl rfl | exact Or.inr (Or.inl rfl) | exact Or.inr (Or.inr rfl)) (hd : (x == ("__debug__" : Str)) = false := by decide) (hcd : (x == ("__classdict__" : Str)) = false := by decide)
  (hse : starEach [e] X.env = (false, eval e X.env) :: starEach [] X.env := by rfl)
  (hbase : attributeBase (.Name x p1) "append" X.env (eval (.Name x p1) X.env) = eval (.Name x p1) X.env := by rfl)
  (hfew : ((backTo cpos (starEach [e] X.env)).all (fun x => !x.1) && (backToKw cpos (keywordEach [] X.env)).all (fun x => x.1.isSome)
   && decide ([e].length + ([] : List Keyword).length + (if ([] : List Keyword).isEmpty then 0 else 1) < 30)) = true := by rfl)
  (hline : (apos.endLine == cpos.line) = true := by rfl) (hplain : (backTo cpos (starEach [] X.env)).any (·.1) = false := by rfl)
  (hs : swapsWith (.Call (.Attribute (.Name x p1) "append" apos) [e] [] cpos) none pos.line X.env = pure false := by rfl) (hk : X.K = K.fr := by rfl) (kin : decide (i < K.n) = true := by rfl) (kif : K.freeB i = true := by rfl) :
  JS K X Z [] (.Expr (.Call (.Attribute (.Name x p1) "append" apos) [e] [] cpos) pos) (tDrop (tBM K "list" rAppend (tVar i) (tCons te tNil))) (fAppTX i fe) := by
 have kif := Kc.freeB_ok kif
 obtain ⟨kf, kt, ko, kn, kx⟩ := K
 subst hk
 exact ⟨ps_expr (pe_bm PySem.F.plainAttrs_list PySem.F.slot_list_append PySem.F.type_list_append mt_append (pe_var hN hv hd hcd) (pa_cons he.p pa_nil hse) hbase hfew hline hse hplain) hs, rs_appTX (of_decide_eq_true kin) kif he.r⟩
theorem x_tupO {x1} (h : JAX K X Z es tl fr) : JX K X Z (.Tuple es x1 pos) (tTup tl) (fTupOX fr) := ⟨pe_tup h.p, rx_tupO h.r⟩
theorem x_meth0 {o : Ob} {m x : Str} {gd : DS → Option DR} (tk : Takes X fun c d _ H => V c d H) (hc : ClsO K.fr o) (d : Dm X.prog X.w K.fr K.tb mg X.base k o.cls o.names m n gd) (hr : Room k X.A) (ho : K.ob = some o := by rfl) (hm : m ∉ o.names := by decide) (hN : X.N[o.slot]? = some x := by rfl) (hv : Vis X.env.scope x := by first | exact Or.inl rfl | exact Or.inr (Or.inl rfl) | exact Or.inr (Or.inr rfl)) (hd : (x == ("__debug__" : Str)) = false := by decide) (hcd : (x == ("__classdict__" : Str)) = false := by decide) {pl : Sem Bool}
  (ht : eval (.Call (.Attribute (.Name x p) m apos) [] [] pos) X.env = (do
   let ov ← eval (.Name x p) X.env
   standAt apos.atName
   let (f, first) ← holding [ov] (getMethod ov m pl)
   callWith pos f first (backTo pos (starEach [] X.env)) (backToKw pos (keywordEach [] X.env))) := by rfl) (hk : X.K = K.fr := by rfl) (hmg : X.mg = mg := by rfl) :
  JX K X ⟨fun c d _ H => V c d H, mg⟩ (.Call (.Attribute (.Name x p) m apos) [] [] pos) (tMeth o.cls m (spO ⟨K.fr, K.tb, some ⟨0, o.cls, o.names⟩, n, none⟩ mg gd) [] V (tVar o.slot) tNil) (fMethX K.n n gd fNil) := by
 subst hmg
 obtain ⟨f, fd, ps, M, F, hb⟩ := d
 refine ⟨?_, rx_meth ho hm ra_nil⟩
 have hc' := hc.cls
 rw [← hk] at hc' M hb F ⊢
 exact pe_meth0 (pl := pl) (pe_var hN hv hd hcd) hc' M (by rw [hk] at F ⊢; exact F) hr hb .nil (passes_call tk fun _ _ _ _ h => h) ht
theorem x_lcM {scope : Scope} {own : List (Str × Nat)} (tk : Takes X fun c d _ H => V c d H) (hc : X.calm = true) (hN : X.N.Nodup) (hi : JIX K X ⟨fun c d _ H => V c d H, mg⟩ tg iter wi fi) (ok : BlkOk X.N X.env.scope scope own) (hg : ∀ s H C cl fp E, JG K (blkX X s H scope (compEnvC scope cl C X.env) fp E) T tg g fg)
  (he : ∀ s H C cl fp E, Takes (blkX X s H scope (compEnvC scope cl C X.env) fp E) (fun c d _ H' => V c d H') → JX K (blkX X s H scope (compEnvC scope cl C X.env) fp E) ⟨fun c d _ H => V c d H, mg⟩ elt te fe)
  (hT : ∀ i ∈ T, i ∈ own.map (·.2)) (s0 : Shared) (H0 : Hp) (hn : ((own.map (·.2)).all fun i => decide (i < K.n)) = true := by rfl) (hf : ((own.map (·.2)).all fun i => K.freeB i) = true := by rfl) (hs : ∀ x, foldedSetIterable iter X.env x = pure x := by intro _; rfl) (hst : X.stack = X.env :: X.outer := by rfl) (hfr : X.env.frame = some X.env.locals := by rfl) :
  JX K X ⟨fun c d _ H => V c d H, mg⟩ (.ListComp elt [⟨tg, iter, [], 0⟩] scope pos) (tLc wi g tYes te (own.map (·.2))) (fLcMX fi fg fe (own.map (·.2))) :=
 ⟨pe_lcX hc hN hst hfr tk hi.p ok (fun s H C cl fp E => (hg s H C cl fp E).p) (fun _ _ _ _ _ _ => pts_nil) (fun s H C cl fp E z => (he s H C cl fp E z).p) hs,
  rx_lcM hT (allN hn) (allF hf) hi.r (hg s0 H0 0 [] [] fun _ _ => True).r (he s0 H0 0 [] [] (fun _ _ => True) fun _ _ _ => trivial).r⟩
end
section
variable {X : Cx} {k : Nat} {f : Addr} {fd : FuncData} {ps ks : List Str} {sp : Sp} {gl : List Value → List Value → List Value} {gV : List V → List V → List V} {W : WX} {x : Str} {p pos : Pos} {e : Expr} {es : List Expr} {kws : List Keyword} {t tk' : TA}
theorem run_kS {pins : List (Addr × Obj)} {σ : St} {H : Hp} {s : Shared} {Q : VK} {us ws : List Value} {vs zs : List V} (F : FnOk X.prog X.w X.K X.mg X.base (L2.CX X.prog X.w) k f fd ps sp) (hr : Room k X.A) (b : KBinds X.K fd ps ks gl gV) (tk : Takes X W)
  (I : Inv X pins σ H s) (r1 : Vals vs us) (r2 : Vals zs ws) (h : sp (gV vs zs) H Q (WE W σ)) : wpAny (model X.prog X.w) X.A (call (.ref f) us (ks.zip ws)) (EP X pins σ Q) X.xe s := by
 have rr := b.rel r1 r2
 have ln : (gl us ws).length = ps.length := (rr.length).symm.trans (F.len _ _ _ _ h)
 have run := F.run X.A X.stack s H ⟨us, ks.zip ws⟩ (gl us ws) (gV vs zs) Q (WE W σ) hr I.env0 (b.to s us ws I.kIn ln) rr h
 refine wpAny_call (codeAny_mono run fun r s' post => ?_)
 match r, post with
 | .error u, post => exact passAt tk σ pins H s u s' I post
 | .ok (.ret u), post => exact I.after post
 | .ok .next, post => exact post.elim
 | .ok .brk, post => exact post.elim
 | .ok .cont, post => exact post.elim
theorem pe_kS (F : FnOk X.prog X.w X.K X.mg X.base (L2.CX X.prog X.w) k f fd ps sp) (hr : Room k X.A) (hg : Gl X x) (hm : X.mg x = some (.ref f)) (kp : PySem.W.keepIn X.K (.ref f) = true) (b : KBinds X.K fd ps ks gl gV) (tk : Takes X W)
  (ha : PA X (e :: es) t) (hkw : PK X kws tk') (hall : (backToKw pos (keywordEach kws X.env)).all (·.1.isSome) = true) (hks : (backToKw pos (keywordEach kws X.env)).filterMap (·.1) = ks) (hdb : (x == ("__debug__" : Str)) = false) (he : starEach (e :: es) X.env = (false, eval e X.env) :: starEach es X.env)
  (hpl : ((backTo pos (starEach (e :: es) X.env)).any (·.1) || (backToKw pos (keywordEach kws X.env)).any (·.1.isNone)) = false) :
  PE X (.Call (.Name x p) (e :: es) kws pos) (fun σ H Q => t σ H fun vs H1 => tk' σ H1 fun zs H2 => sp (gV vs zs) H2 Q (WE W σ)) :=
 ⟨fun pins s σ H Q I h => wpAny_Call_Name_kw (ld_glob I hg hm (PySem.W.callWith_KW (h₀ := X.base) I.ok.mod.kin kp hall (thn (ha.run pos pins s σ H _ I h) fun us s1 ⟨vs, H1, I1, r1, q1⟩ =>
  thn (hkw.run pos pins s1 σ H1 _ I1 q1) fun ws s2 ⟨zs, H2, I2, r2, q2⟩ => ⟨I2.kIn, by rw [hks]; exact run_kS F hr b tk I2 r1 r2 q2⟩) hpl he) hdb)⟩
end
section
variable {K : Kc} {X : Cx} {Z : Zc} {a b : Expr} {ta tb : TE} {fa fb : DS → Option (RV × DS)} {pos p kp : Pos} {k : Nat} {x kn : Str} {g : DS → Option DR}
theorem x_callW (tk : Takes X Z.W) (hz : Z.mg = X.mg) (d : DkW X.prog X.w K.fr K.tb X.mg X.base k x kn g) (hr : Room k X.A) (ha : JE K X a ta fa) (hb : JE K X b tb fb) (hg : Gl X x := by rfl) (hall : (backToKw pos (keywordEach [⟨some kn, b, kp⟩] X.env)).all (·.1.isSome) = true := by rfl) (hks : (backToKw pos (keywordEach [⟨some kn, b, kp⟩] X.env)).filterMap (·.1) = [kn] := by rfl)
  (hdb : (x == ("__debug__" : Str)) = false := by decide) (he : starEach [a] X.env = (false, eval a X.env) :: starEach [] X.env := by rfl)
  (hpl : ((backTo pos (starEach [a] X.env)).any (·.1) || (backToKw pos (keywordEach [⟨some kn, b, kp⟩] X.env)).any (·.1.isNone)) = false := by rfl) (hk : X.K = K.fr := by rfl) :
  JX K X Z (.Call (.Name x p) [a] [⟨some kn, b, kp⟩] pos) (fun σ H Q => tCons ta tNil σ H fun vs H1 => tCons tb tNil σ H1 fun zs H2 => spO ⟨K.fr, K.tb, none, 2, none⟩ X.mg g (kw2 vs zs) H2 Q (WE Z.W σ)) (fCallX 2 g (fCons fa (fCons fb fNil))) := by
 obtain ⟨f, fd, ps, F, hm, hkp, hbd⟩ := d
 rw [← hk] at F hkp hbd
 refine ⟨?_, ?_⟩
 ·rw [← hk]
  exact pe_kS F hr hg hm hkp hbd tk (pa_cons ha.p pa_nil he) (pk_cons hb.p pk_nil) hall hks hdb he hpl
 ·rw [← hz]
  exact rx_call (ra_cons ha.r (ra_cons hb.r ra_nil))
theorem s_tryRW (i : Nat) {y n : Str} {C : Addr} {T' : List Nat} {b₀ : Stmt} {suite : List Stmt} {ts : Addr → TS} {fs : DS → Option Out} {cp sp np pos' : Pos} (tk : Takes X Z.W) (E : CaT K.fr Z.mg x C) (hN : X.N.Nodup) (d : DkW X.prog X.w K.fr K.tb X.mg X.base k y kn g) (hr : Room k X.A) (h1 : ∀ (pn : List (Addr × Obj)) (xe : Value → Shared → Prop), JE K (X.tr pn xe) a ta fa) (h2 : ∀ (pn : List (Addr × Obj)) (xe : Value → Shared → Prop), JE K (X.tr pn xe) b tb fb)
  (hs : ∀ (a : Addr) (oe : Obj) (pn : List (Addr × Obj)), L2.Zc (.ref C) none oe → (∃ vs, oe.data = .fields vs) → JB (K.caught i a) (X.suite a ((a, oe) :: pn)) (Zf Z.mg) T' (b₀ :: suite) (ts a) fs)
  (hi : X.N[i]? = some n := by rfl) (hln : X.env.kindOf n = some .local := by rfl) (hg : Gl X x := by rfl) (hdb : (x == ("__debug__" : Str)) = false := by decide) (hst : X.stack = X.env :: X.outer := by rfl) (hfr : X.env.frame = some X.env.locals := by rfl) (hz : X.mg = Z.mg := by rfl) (hk : X.K = K.fr := by rfl) (kin : decide (i < K.n) = true := by rfl) (kif : K.freeB i = true := by rfl) (kx : K.ex = none := by rfl)
  (hgy : Gl X y := by rfl) (hdy : (y == ("__debug__" : Str)) = false := by decide) (hall : (backToKw cp (keywordEach [⟨some kn, b, kp⟩] X.env)).all (·.1.isSome) = true := by rfl) (hks : (backToKw cp (keywordEach [⟨some kn, b, kp⟩] X.env)).filterMap (·.1) = [kn] := by rfl)
  (he : starEach [a] X.env = (false, eval a X.env) :: starEach [] X.env := by rfl) (hpl : ((backTo cp (starEach [a] X.env)).any (·.1) || (backToKw cp (keywordEach [⟨some kn, b, kp⟩] X.env)).any (·.1.isNone)) = false := by rfl) :
  JS K X Z ([] ++ (i :: T')) (.Try [.Return (some (.Call (.Name y p) [a] [⟨some kn, b, kp⟩] cp)) sp] [.ExceptHandler (some (.Name x np)) (some n) (b₀ :: suite) pos'] [] [] pos) (fun D σ H => tRet (fun σ H Q => tCons ta tNil σ H fun vs H1 => tCons tb tNil σ H1 fun zs H2 => spO ⟨K.fr, K.tb, none, 2, none⟩ X.mg g (kw2 vs zs) H2 Q (WE (wAs K.fr (.ref C) i (fun a cls d D σ H => (cls = .ref C ∧ d = none) ∧ ts a D σ H) Z.W D) σ)) D σ H) (fTry x i (fRetX (fCallX 2 g (fCons fa (fCons fb fNil)))) fs) :=
 s_tryAs (tb := fun W => tRet fun σ H Q => tCons ta tNil σ H fun vs H1 => tCons tb tNil σ H1 fun zs H2 => spO ⟨K.fr, K.tb, none, 2, none⟩ X.mg g (kw2 vs zs) H2 Q (WE W σ)) i tk E hN
  (fun W pn xe t => b_one (s_retX (x_callW (X := X.tr pn xe) (Z := ⟨W, Z.mg⟩) t hz.symm d hr (h1 pn xe) (h2 pn xe) hgy hall hks hdy he hpl hk))) hs hi hln hg hdb hst hfr hz hk kin kif kx
end
end Fx
set_option Elab.async false
set_option linter.all false
set_option maxRecDepth 100000
namespace Ty
open PySem PySem.Spec L2 Fx
theorem bindSome {α β : Type} (a : α) (f : α → Option β) : (some a).bind f = f a := rfl
class Enc (α : Type) where
 en : α → D
abbrev enc {α : Type} [Enc α] (a : α) : D := Enc.en a
instance : Enc Int := ⟨.int⟩
instance : Enc Bool := ⟨.bool⟩
instance : Enc Unit := ⟨fun _ => .none⟩
instance : Enc Str := ⟨.str⟩
instance {α : Type} [Enc α] : Enc (List α) := ⟨fun l => .list (l.map enc)⟩
instance {α : Type} [Enc α] : Enc (Option α) := ⟨fun o => match o with | none => .none | some a => enc a⟩
structure T1 (α : Type) where (a : α)
structure T2 (α β : Type) where (a : α) (b : β)
structure T3 (α β γ : Type) where (a : α) (b : β) (c : γ)
structure T4 (α β γ δ : Type) where (a : α) (b : β) (c : γ) (d : δ)
structure T5 (α β γ δ ε : Type) where (a : α) (b : β) (c : γ) (d : δ) (e : ε)
structure H2 (α β : Type) where (a : α) (b : β)
instance {α : Type} [Enc α] : Enc (T1 α) := ⟨fun t => .tuple [enc t.a]⟩
instance {α β : Type} [Enc α] [Enc β] : Enc (T2 α β) := ⟨fun t => .tuple [enc t.a, enc t.b]⟩
instance {α β γ : Type} [Enc α] [Enc β] [Enc γ] : Enc (T3 α β γ) := ⟨fun t => .tuple [enc t.a, enc t.b, enc t.c]⟩
instance {α β γ δ : Type} [Enc α] [Enc β] [Enc γ] [Enc δ] : Enc (T4 α β γ δ) := ⟨fun t => .tuple [enc t.a, enc t.b, enc t.c, enc t.d]⟩
instance {α β γ δ ε : Type} [Enc α] [Enc β] [Enc γ] [Enc δ] [Enc ε] : Enc (T5 α β γ δ ε) := ⟨fun t => .tuple [enc t.a, enc t.b, enc t.c, enc t.d, enc t.e]⟩
instance {α β : Type} [Enc α] [Enc β] : Enc (H2 α β) := ⟨fun t => .list [enc t.a, enc t.b]⟩
abbrev SP := Option OV → Prop
def vw (d : D) : SP := fun x => ∃ o, x = some o ∧ o.view = d
def sh (d : D) : SP := fun x => x = some (.sh d)
def fl (l : List D) : SP := fun x => x = some (.flat l)
def nf : SP := fun x => shB (some x) = true
def an : SP := fun _ => True
def Ss : List SP → DS → Prop
 | [], [] => True
 | p :: ps, x :: xs => p x ∧ Ss ps xs
 | _, _ => False
theorem Ss.get : ∀ {ps : List SP} {ds : DS} {i : Nat} {p : SP}, Ss ps ds → ps[i]? = some p → ∃ x, ds[i]? = some x ∧ p x
 | [], [], _, _, _, e => by simp at e
 | p :: ps, x :: xs, 0, _, h, e => by simp at e; subst e; exact ⟨x, by simp, h.1⟩
 | p :: ps, x :: xs, i + 1, _, h, e => by simpa using Ss.get (i := i) h.2 (by simpa using e)
 | [], _ :: _, _, _, h, _ => h.elim
 | _ :: _, [], _, _, h, _ => h.elim
theorem Ss.set : ∀ {ps : List SP} {ds : DS} (i : Nat) {p : SP} {x : Option OV}, Ss ps ds → p x → Ss (ps.set i p) (ds.set i x)
 | [], [], _, _, _, _, _ => True.intro
 | p :: ps, y :: xs, 0, _, _, h, e => ⟨e, h.2⟩
 | p :: ps, y :: xs, i + 1, _, _, h, e => ⟨h.1, Ss.set i h.2 e⟩
 | [], _ :: _, _, _, _, h, _ => h.elim
 | _ :: _, [], _, _, _, h, _ => h.elim
theorem Ss.put : ∀ {ps : List SP} {ds : DS} {i : Nat} {p : SP} {x : Option OV}, Ss ps ds → ps[i]? = some p → p x → Ss ps (ds.set i x)
 | [], [], _, _, _, _, _, _ => True.intro
 | p :: ps, y :: xs, 0, _, _, h, e, k => by simp at e; subst e; exact ⟨k, h.2⟩
 | p :: ps, y :: xs, i + 1, _, _, h, e, k => ⟨h.1, Ss.put h.2 (by simpa using e) k⟩
 | [], _ :: _, _, _, _, h, _, _ => h.elim
 | _ :: _, [], _, _, _, h, _, _ => h.elim
theorem Ss.len : ∀ {ps : List SP} {ds : DS}, Ss ps ds → ds.length = ps.length
 | [], [], _ => rfl
 | _ :: _, _ :: _, h => by simp [Ss.len h.2]
 | [], _ :: _, h => h.elim
 | _ :: _, [], h => h.elim
def Le : List SP → List SP → Prop
 | [], [] => True
 | p :: ps, q :: qs => (∀ x, p x → q x) ∧ Le ps qs
 | _, _ => False
theorem Le.ss : ∀ {ps qs : List SP} {ds : DS}, Le ps qs → Ss ps ds → Ss qs ds
 | [], [], [], _, _ => True.intro
 | _ :: _, _ :: _, _ :: _, l, h => ⟨l.1 _ h.1, Le.ss l.2 h.2⟩
 | [], _ :: _, _, l, _ => l.elim
 | _ :: _, [], _, l, _ => l.elim
 | [], [], _ :: _, _, h => h.elim
 | _ :: _, _ :: _, [], _, h => h.elim
theorem le_id {p : SP} : ∀ x, p x → p x := fun _ h => h
theorem le_an {p : SP} : ∀ x, p x → an x := fun _ _ => True.intro
theorem le_sv {d : D} : ∀ x, sh d x → vw d x := fun _ h => ⟨_, h, rfl⟩
theorem le_fv {l : List D} : ∀ x, fl l x → vw (.list l) x := fun _ h => ⟨_, h, rfl⟩
theorem le_sn {d : D} : ∀ x, sh d x → nf x := fun _ h => by subst h; rfl
theorem le_none : ∀ x : Option OV, x = none → nf x := fun _ h => by subst h; rfl
theorem le_n : Le [] [] := True.intro
theorem le_c {p q : SP} {ps qs : List SP} (h : ∀ x, p x → q x) (k : Le ps qs) : Le (p :: ps) (q :: qs) := ⟨h, k⟩
def Nfs (ps : List SP) : List Nat → Prop
 | [] => True
 | i :: vs => (∃ p, ps[i]? = some p ∧ ∀ x, p x → nf x) ∧ Nfs ps vs
theorem nfs_n {ps : List SP} : Nfs ps [] := True.intro
theorem nfs_c {p : SP} {ps : List SP} {i : Nat} {vs : List Nat} (h : ∀ x, p x → nf x) (k : Nfs ps vs) (e : ps[i]? = some p := by rfl) : Nfs ps (i :: vs) := ⟨⟨p, e, h⟩, k⟩
def kS (ps : List SP) (d : D) (r : RV) : Prop := (∃ o, r = .ov o ∧ o.view = d) ∨ ∃ i, r = .loc i ∧ (ps[i]? = some (vw d) ∨ ∃ l, ps[i]? = some (fl l) ∧ d = .list l)
def kV (ps : List SP) (d : D) (r : RV) : Prop := (∃ o, r = .ov o ∧ o.view = d) ∨ ∃ i, r = .loc i ∧ ps[i]? = some (vw d)
theorem kV.s {ps : List SP} {d : D} {r : RV} (h : kV ps d r) : kS ps d r := h.imp id fun ⟨i, a, b⟩ => ⟨i, a, .inl b⟩
theorem see_of {ps : List SP} {d : D} {r : RV} {ds : DS} (h : kS ps d r) (S : Ss ps ds) : see r ds = some d := by
 rcases h with ⟨o, rfl, rfl⟩ | ⟨i, rfl, h⟩
 ·rfl
 ·rcases h with h | ⟨l, h, rfl⟩
  ·obtain ⟨x, e, o, rfl, rfl⟩ := S.get h
   simp only [see, e]
  ·obtain ⟨x, e, k⟩ := S.get h
   have k : x = some (.flat l) := k
   subst k
   simp only [see, e, OV.view]
theorem frz_of {ps : List SP} {d : D} {r : RV} {ds : DS} (h : kV ps d r) (S : Ss ps ds) : ∃ ds', frz r ds = some (d, ds') ∧ Ss ps ds' := by
 rcases h with ⟨o, rfl, rfl⟩ | ⟨i, rfl, h⟩
 ·exact ⟨ds, rfl, S⟩
 ·obtain ⟨x, e, o, rfl, rfl⟩ := S.get h
  exact ⟨ds.set i (some (.sh o.view)), by simp only [frz, e], S.put h ⟨_, rfl, rfl⟩⟩
theorem items_of {ps : List SP} {l : List D} {r : RV} {ds : DS} (h : kS ps (.list l) r) (S : Ss ps ds) : ∃ ds', items r ds = some (l, ds') ∧ Ss ps ds' := by
 rcases h with ⟨o, rfl, ho⟩ | ⟨i, rfl, h⟩
 ·exact ⟨ds, by simp only [items, ho], S⟩
 ·rcases h with h | ⟨m, h, hm⟩
  ·obtain ⟨x, e, o, rfl, ho⟩ := S.get h
   cases o with
   | flat m => cases ho; exact ⟨ds, by simp only [items, e], S⟩
   | sh d => exact ⟨ds.set i (some (.sh (.list l))), by simp only [items, e, ho], S.put h ⟨_, rfl, rfl⟩⟩
   | tree d => exact ⟨ds.set i (some (.sh (.list l))), by simp only [items, e, ho], S.put h ⟨_, rfl, rfl⟩⟩
  ·cases hm
   obtain ⟨x, e, k⟩ := S.get h
   have k : x = some (.flat l) := k
   subst k
   exact ⟨ds, by simp only [items, e], S⟩
inductive Kvs (k : D → RV → Prop) : List D → List RV → Prop
 | nil : Kvs k [] []
 | cons {d : D} {r : RV} {l : List D} {rs : List RV} : k d r → Kvs k l rs → Kvs k (d :: l) (r :: rs)
theorem sees_of {ps : List SP} {ds : DS} (S : Ss ps ds) : ∀ {l : List D} {rs : List RV}, Kvs (kS ps) l rs → sees rs ds = some l
 | _, _, .nil => rfl
 | _, _, .cons h t => by simp only [sees, see_of h S, sees_of S t, bindSome, Option.map_some]
theorem Kvs.s {ps : List SP} : ∀ {l : List D} {rs : List RV}, Kvs (kV ps) l rs → Kvs (kS ps) l rs
 | _, _, .nil => .nil
 | _, _, .cons h t => .cons h.s t.s
theorem frzs_of {ps : List SP} : ∀ {l : List D} {rs : List RV} {ds : DS}, Ss ps ds → Kvs (kV ps) l rs → ∃ ds', frzs rs ds = some (l, ds') ∧ Ss ps ds'
 | _, _, ds, S, .nil => ⟨ds, rfl, S⟩
 | _, _, ds, S, .cons h t => by
  obtain ⟨d1, e1, S1⟩ := frz_of h S
  obtain ⟨d2, e2, S2⟩ := frzs_of S1 t
  exact ⟨d2, by simp only [frzs, e1, e2, bindSome, Option.map_some], S2⟩
section
variable {α β γ τ σ : Type} [Enc α] [Enc β] [Enc γ] [Enc τ] [Enc σ]
def ExV (ps : List SP) (f : DS → Option (RV × DS)) (m : Option τ) : Prop := ∀ v, m = some v → ∀ ds, Ss ps ds → ∃ r ds', f ds = some (r, ds') ∧ Ss ps ds' ∧ kV ps (enc v) r
def ExS (ps : List SP) (f : DS → Option (RV × DS)) (m : Option τ) : Prop := ∀ v, m = some v → ∀ ds, Ss ps ds → ∃ r ds', f ds = some (r, ds') ∧ Ss ps ds' ∧ kS ps (enc v) r
def ExF (ps : List SP) (f : DS → Option (RV × DS)) (m : Option (List τ)) : Prop := ∀ v, m = some v → ∀ ds, Ss ps ds → ∃ ds', f ds = some (.ov (.flat (v.map enc)), ds') ∧ Ss ps ds'
def ExC (ps : List SP) (f : DS → Option (RV × DS)) (m : Option τ) : Prop := ∀ v, m = some v → ∀ ds, Ss ps ds → ∃ ds', f ds = some (.ov (.sh (enc v)), ds') ∧ Ss ps ds'
def Te (ps : List SP) (f : DS → Option (Bool × DS)) (m : Option Bool) : Prop := ∀ v, m = some v → ∀ ds, Ss ps ds → ∃ ds', f ds = some (v, ds') ∧ Ss ps ds'
def ArV (ps : List SP) (f : DS → Option (List RV × DS)) (m : Option (List D)) : Prop := ∀ l, m = some l → ∀ ds, Ss ps ds → ∃ rs ds', f ds = some (rs, ds') ∧ Ss ps ds' ∧ Kvs (kV ps) l rs
def ArS (ps : List SP) (f : DS → Option (List RV × DS)) (m : Option (List D)) : Prop := ∀ l, m = some l → ∀ ds, Ss ps ds → ∃ rs ds', f ds = some (rs, ds') ∧ Ss ps ds' ∧ Kvs (kS ps) l rs
def It (ps : List SP) (f : DS → Option (List D × DS)) (m : Option (List τ)) : Prop := ∀ l, m = some l → ∀ ds, Ss ps ds → ∃ ds', f ds = some (l.map enc, ds') ∧ Ss ps ds'
variable {ps : List SP} {f fa fb fc : DS → Option (RV × DS)} {ft fu : DS → Option (Bool × DS)} {fr fs : DS → Option (List RV × DS)}
theorem ExV.s {m : Option τ} (h : ExV ps f m) : ExS ps f m := fun v e ds S => let ⟨r, d, a, b, c⟩ := h v e ds S; ⟨r, d, a, b, c.s⟩
theorem ExF.v {m : Option (List τ)} (h : ExF ps f m) : ExV ps f m := fun v e ds S => let ⟨d, a, b⟩ := h v e ds S; ⟨_, d, a, b, .inl ⟨_, rfl, rfl⟩⟩
theorem ExF.s {m : Option (List τ)} (h : ExF ps f m) : ExS ps f m := h.v.s
theorem ExC.v {m : Option τ} (h : ExC ps f m) : ExV ps f m := fun v e ds S => let ⟨d, a, b⟩ := h v e ds S; ⟨_, d, a, b, .inl ⟨_, rfl, rfl⟩⟩
theorem ExC.s {m : Option τ} (h : ExC ps f m) : ExS ps f m := h.v.s
theorem v_var (i : Nat) {v : τ} (h : ps[i]? = some (vw (enc v)) := by rfl) : ExV ps (fVar i) (some v) := by
 intro v' e ds S
 cases e
 obtain ⟨x, e, o, rfl, ho⟩ := S.get h
 cases o with
 | sh d => exact ⟨_, ds, by simp only [fVar, e], S, .inl ⟨_, rfl, ho⟩⟩
 | flat l => exact ⟨_, ds, by simp only [fVar, e], S, .inr ⟨i, rfl, h⟩⟩
 | tree d => exact ⟨_, ds, by simp only [fVar, e], S, .inr ⟨i, rfl, h⟩⟩
theorem v_sh (i : Nat) {v : τ} (h : ps[i]? = some (sh (enc v)) := by rfl) : ExC ps (fVar i) (some v) := by
 intro v' e ds S
 cases e
 obtain ⟨x, e, ho⟩ := S.get h
 have ho : x = some (.sh (enc v)) := ho
 subst ho
 exact ⟨ds, by simp only [fVar, e], S⟩
theorem v_fl (i : Nat) {v : List τ} (h : ps[i]? = some (fl (v.map enc)) := by rfl) : ExS ps (fVar i) (some v) := by
 intro v' e ds S
 cases e
 obtain ⟨x, e, ho⟩ := S.get h
 have ho : x = some (.flat (v.map enc)) := ho
 subst ho
 exact ⟨_, ds, by simp only [fVar, e], S, .inr ⟨i, rfl, .inr ⟨_, h, rfl⟩⟩⟩
theorem v_c {v : τ} {d : D} (h : enc v = d := by rfl) : ExC ps (fC d) (some v) := by
 intro v' e ds S
 cases e
 exact ⟨ds, by rw [h]; rfl, S⟩
theorem v_op {g : D → D → Option D} (mo : α → β → Option τ) {ma : Option α} {mb : Option β} (hg : ∀ a b v, mo a b = some v → g (enc a) (enc b) = some (enc v)) (ha : ExS ps fa ma) (hb : ExS ps fb mb) : ExC ps (fOp g fa fb) (ma.bind fun a => mb.bind fun b => mo a b) := by
 intro v e ds S
 simp only [Option.bind_eq_some_iff] at e
 obtain ⟨a, e1, b, e2, e3⟩ := e
 obtain ⟨r1, d1, k1, S1, q1⟩ := ha a e1 ds S
 obtain ⟨r2, d2, k2, S2, q2⟩ := hb b e2 d1 S1
 exact ⟨d2, by simp only [fOp, k1, k2, bindSome, see_of q1 S2, see_of q2 S2, hg a b v e3, Option.map_some], S2⟩
theorem v_un {g : D → Option D} (mo : α → Option τ) {ma : Option α} (hg : ∀ a v, mo a = some v → g (enc a) = some (enc v)) (ha : ExS ps fa ma) : ExC ps (fUn g fa) (ma.bind mo) := by
 intro v e ds S
 simp only [Option.bind_eq_some_iff] at e
 obtain ⟨a, e1, e3⟩ := e
 obtain ⟨r1, d1, k1, S1, q1⟩ := ha a e1 ds S
 exact ⟨d1, by simp only [fUn, k1, bindSome, see_of q1 S1, hg a v e3, Option.map_some], S1⟩
def subN (a b : Int) : Option Int := some (a - b)
noncomputable def fdivN (a b : Int) : Option Int := if cFd a b = true then some (a.fdiv b) else none
def fdivZ (a b : Int) : Option Int := if cNz a b = true then some (a.fdiv b) else none
def modN (a b : Int) : Option Int := if cNz a b = true then some (a.fmod b) else none
noncomputable def powN (a b : Int) : Option Int := if cPow a b = true then some (a ^ b.toNat) else none
noncomputable def mulN (a b : Int) : Option Int := if mulOk a b = true then some (a * b) else none
theorem gI_ok {c : Int → Int → Bool} {f : Int → Int → Int} {a b v : Int} (h : (if c a b = true then some (f a b) else none) = some v) : gI c (fun i j => .int (f i j)) (enc a) (enc b) = some (enc v) := by
 split at h
 ·rename_i hc
  cases h
  simp only [gI, enc, Enc.en, hc, if_true]
 ·cases h
theorem v_sub {ma mb : Option Int} (ha : ExS ps fa ma) (hb : ExS ps fb mb) : ExC ps (fOp (gI cT fun i j => .int (i - j)) fa fb) (ma.bind fun a => mb.bind fun b => subN a b) := v_op subN (fun a b v h => by cases h; rfl) ha hb
theorem v_fdivZ {ma mb : Option Int} (ha : ExS ps fa ma) (hb : ExS ps fb mb) : ExC ps (fOp (gI cNz fun i j => .int (i.fdiv j)) fa fb) (ma.bind fun a => mb.bind fun b => fdivZ a b) := v_op fdivZ (fun a b v h => gI_ok h) ha hb
theorem v_mod {ma mb : Option Int} (ha : ExS ps fa ma) (hb : ExS ps fb mb) : ExC ps (fOp (gI cNz fun i j => .int (i.fmod j)) fa fb) (ma.bind fun a => mb.bind fun b => modN a b) := v_op modN (fun a b v h => gI_ok h) ha hb
theorem v_pow {ma mb : Option Int} (ha : ExS ps fa ma) (hb : ExS ps fb mb) : ExC ps (fOp (gI cPow fun i j => .int (i ^ j.toNat)) fa fb) (ma.bind fun a => mb.bind fun b => powN a b) := v_op powN (fun a b v h => gI_ok h) ha hb
def bandN (a b : Int) : Option Int := some (Builtin.bitAnd a b)
def borN (a b : Int) : Option Int := some (Builtin.bitOr a b)
theorem v_cmp {p : Int → Int → Bool} {ma mb : Option Int} (ha : ExS ps fa ma) (hb : ExS ps fb mb) : ExC ps (fOp (gCmp p) fa fb) (ma.bind fun a => mb.bind fun b => some (p a b)) := v_op (fun a b => some (p a b)) (fun a b v h => by cases h; rfl) ha hb
theorem v_neg {ma : Option Int} (ha : ExS ps fa ma) : ExC ps (fUn gNeg fa) (ma.bind fun a => some (-a)) := v_un (fun a => some (-a)) (fun a v h => by cases h; rfl) ha
def eqN (a : α) (b : β) : Option Bool := if SeqAt.shaped (enc a) && SeqAt.shaped (enc b) then some (PyData.eqv (enc a) (enc b)) else none
def neN (a : α) (b : β) : Option Bool := if SeqAt.shaped (enc a) && SeqAt.shaped (enc b) then some (!PyData.eqv (enc a) (enc b)) else none
class NoStr (α : Type) [Enc α] : Prop where
 no : ∀ (a : α) (x : Str), enc a ≠ .str x
instance : NoStr Int := ⟨fun _ _ h => nomatch h⟩
instance : NoStr Bool := ⟨fun _ _ h => nomatch h⟩
instance : NoStr Unit := ⟨fun _ _ h => nomatch h⟩
instance : NoStr (List α) := ⟨fun _ _ h => nomatch h⟩
instance [NoStr α] : NoStr (Option α) := ⟨fun o x h => by cases o with
 | none => cases h
 | some a => exact NoStr.no a x h⟩
instance : NoStr (T1 α) := ⟨fun _ _ h => nomatch h⟩
instance : NoStr (T2 α β) := ⟨fun _ _ h => nomatch h⟩
instance : NoStr (T3 α β γ) := ⟨fun _ _ h => nomatch h⟩
instance : NoStr (H2 α β) := ⟨fun _ _ h => nomatch h⟩
instance : NoStr (T4 α β γ τ) := ⟨fun _ _ h => nomatch h⟩
instance : NoStr (T5 α β γ τ σ) := ⟨fun _ _ h => nomatch h⟩
theorem gEqX_no {d e : D} (h : ∀ x, d ≠ .str x) : gEqX d e = gEq d e := by
 unfold gEqX
 split
 ·exact absurd rfl (h _)
 ·rfl
theorem gNeX_no {d e : D} (h : ∀ x, d ≠ .str x) : gNeX d e = gNe d e := by
 unfold gNeX
 split
 ·exact absurd rfl (h _)
 ·rfl
theorem v_eq [NoStr α] {ma : Option α} {mb : Option β} (ha : ExS ps fa ma) (hb : ExS ps fb mb) : ExC ps (fOp gEqX fa fb) (ma.bind fun a => mb.bind fun b => eqN a b) := v_op eqN (fun a b v h => by
 rw [gEqX_no (NoStr.no a)]
 unfold eqN at h
 unfold gEq
 split at h
 ·rename_i hc; cases h; rw [if_pos hc]; rfl
 ·cases h) ha hb
theorem v_ne [NoStr α] {ma : Option α} {mb : Option β} (ha : ExS ps fa ma) (hb : ExS ps fb mb) : ExC ps (fOp gNeX fa fb) (ma.bind fun a => mb.bind fun b => neN a b) := v_op neN (fun a b v h => by
 rw [gNeX_no (NoStr.no a)]
 unfold neN at h
 unfold gNe
 split at h
 ·rename_i hc; cases h; rw [if_pos hc]; rfl
 ·cases h) ha hb
class NoNone (α : Type) [Enc α] : Prop where
 no : ∀ a : α, isNd (enc a) = false
instance : NoNone Int := ⟨fun _ => rfl⟩
instance : NoNone Bool := ⟨fun _ => rfl⟩
instance : NoNone Str := ⟨fun _ => rfl⟩
instance : NoNone (List α) := ⟨fun _ => rfl⟩
instance : NoNone (T1 α) := ⟨fun _ => rfl⟩
instance : NoNone (T2 α β) := ⟨fun _ => rfl⟩
instance : NoNone (T3 α β γ) := ⟨fun _ => rfl⟩
instance : NoNone (T4 α β γ τ) := ⟨fun _ => rfl⟩
instance : NoNone (T5 α β γ τ σ) := ⟨fun _ => rfl⟩
instance : NoNone (H2 α β) := ⟨fun _ => rfl⟩
theorem v_isN [NoNone α] {ma : Option (Option α)} (ha : ExS ps fa ma) : ExC ps (fOp gIsN2 fa (fC .none)) (ma.bind fun a => some a.isNone) := by
 have h := v_op (mb := some ()) (g := gIsN2) (fun (a : Option α) (_ : Unit) => some a.isNone) (fun a b v h => by
  cases h
  cases a with
  | none => rfl
  | some a =>
   show some (PyData.bool (isNd (enc a))) = _
   rw [NoNone.no a]; rfl) ha (v_c (v := ()) (d := .none)).s
 exact h
theorem v_notN [NoNone α] {ma : Option (Option α)} (ha : ExS ps fa ma) : ExC ps (fOp gNotN2 fa (fC .none)) (ma.bind fun a => some a.isSome) := by
 have h := v_op (mb := some ()) (g := gNotN2) (fun (a : Option α) (_ : Unit) => some a.isSome) (fun a b v h => by
  cases h
  cases a with
  | none => rfl
  | some a =>
   show some (PyData.bool (!isNd (enc a))) = _
   rw [NoNone.no a]; rfl) ha (v_c (v := ()) (d := .none)).s
 exact h
theorem v_add {ma mb : Option Int} (ha : ExS ps fa ma) (hb : ExS ps fb mb) : ExC ps (fAdd fa fb) (ma.bind fun a => mb.bind fun b => some (a + b)) := by
 intro v e ds S
 simp only [Option.bind_eq_some_iff] at e
 obtain ⟨a, e1, b, e2, e3⟩ := e
 cases e3
 obtain ⟨r1, d1, k1, S1, q1⟩ := ha a e1 ds S
 obtain ⟨r2, d2, k2, S2, q2⟩ := hb b e2 d1 S1
 have s1 := see_of q1 S2
 have s2 := see_of q2 S2
 simp only [enc, Enc.en] at s1 s2
 exact ⟨d2, by simp only [fAdd, k1, k2, bindSome, s1, s2]; rfl, S2⟩
def catN (a b : List α) : Option (List α) := if a.length + b.length ≤ 1000000 then some (a ++ b) else none
theorem v_cat {ma mb : Option (List α)} (ha : ExS ps fa ma) (hb : ExS ps fb mb) : ExF ps (fAdd fa fb) (ma.bind fun a => mb.bind fun b => catN a b) := by
 intro v e ds S
 simp only [Option.bind_eq_some_iff] at e
 obtain ⟨a, e1, b, e2, e3⟩ := e
 unfold catN at e3
 split at e3
 ·rename_i hl
  cases e3
  obtain ⟨r1, d1, k1, S1, q1⟩ := ha a e1 ds S
  obtain ⟨r2, d2, k2, S2, q2⟩ := hb b e2 d1 S1
  have s1 := see_of q1 S2
  have s2 := see_of q2 S2
  simp only [enc, Enc.en] at s1 s2 q1 q2
  obtain ⟨d3, i1, S3⟩ := items_of q1 S2
  obtain ⟨d4, i2, S4⟩ := items_of q2 S3
  have nT1 : isT r1 d2 = false := by unfold isT; rw [s1]
  have nT2 : isT r2 d2 = false := by unfold isT; rw [s2]
  refine ⟨d4, ?_, S4⟩
  have hn : ¬ 1000000 < a.length + b.length := by omega
  simp only [fAdd, k1, k2, bindSome, s1, s2, fCat, i1, i2, nT1, nT2, List.length_map, decide_eq_false hn, Bool.or_self, Bool.false_eq_true, if_false, List.map_append]
 ·cases e3
theorem v_mul {ma mb : Option Int} (ha : ExS ps fa ma) (hb : ExS ps fb mb) : ExC ps (fMul fa fb) (ma.bind fun a => mb.bind fun b => mulN a b) := by
 intro v e ds S
 simp only [Option.bind_eq_some_iff] at e
 obtain ⟨a, e1, b, e2, e3⟩ := e
 unfold mulN at e3
 split at e3
 ·rename_i hm
  cases e3
  obtain ⟨r1, d1, k1, S1, q1⟩ := ha a e1 ds S
  obtain ⟨r2, d2, k2, S2, q2⟩ := hb b e2 d1 S1
  have s1 := see_of q1 S2
  have s2 := see_of q2 S2
  simp only [enc, Enc.en] at s1 s2
  refine ⟨d2, ?_, S2⟩
  simp only [fMul, k1, k2, bindSome, s2]
  cases r1 with
  | loc i => simp only [s1, hm, if_true]; rfl
  | ov o =>
   cases o with
   | flat l => cases s1
   | sh d => simp only [s1, hm, if_true]; rfl
   | tree d => simp only [s1, hm, if_true]; rfl
 ·cases e3
noncomputable def repN (l : List α) (j : Int) : Option (List α) := if repOk (l.map enc) j = true then some (List.replicate j.toNat l).flatten else none
theorem v_rep {ma : Option (List α)} {mb : Option Int} (ha : ExF ps fa ma) (hb : ExS ps fb mb) : ExF ps (fMul fa fb) (ma.bind fun a => mb.bind fun b => repN a b) := by
 intro v e ds S
 simp only [Option.bind_eq_some_iff] at e
 obtain ⟨a, e1, b, e2, e3⟩ := e
 unfold repN at e3
 split at e3
 ·rename_i hm
  cases e3
  obtain ⟨d1, k1, S1⟩ := ha a e1 ds S
  obtain ⟨r2, d2, k2, S2, q2⟩ := hb b e2 d1 S1
  have s2 := see_of q2 S2
  simp only [enc, Enc.en] at s2
  refine ⟨d2, ?_, S2⟩
  simp only [fMul, k1, k2, bindSome, s2, hm, if_true, repD]
  simp [List.map_flatten]
 ·cases e3
theorem atI_map {g : α → D} (l : List α) (k : Int) : atI (l.map g) k = (atI l k).map g := by
 unfold atI
 rw [List.length_map]
 cases h : ixN l.length k with
 | none => simp
 | some j => simp
theorem v_ix {ma : Option (List α)} {mb : Option Int} (ha : ExS ps fa ma) (hb : ExS ps fb mb) : ExC ps (fIx fa fb) (ma.bind fun a => mb.bind fun b => atI a b) := by
 intro v e ds S
 simp only [Option.bind_eq_some_iff] at e
 obtain ⟨a, e1, b, e2, e3⟩ := e
 obtain ⟨r1, d1, k1, S1, q1⟩ := ha a e1 ds S
 obtain ⟨r2, d2, k2, S2, q2⟩ := hb b e2 d1 S1
 have s1 := see_of q1 S2
 have s2 := see_of q2 S2
 simp only [enc, Enc.en] at s1 s2 q1
 have ea := atI_map (g := Enc.en) a b
 rw [e3] at ea
 obtain ⟨d3, i1, S3⟩ := items_of q1 S2
 simp only [Option.map_some] at ea
 by_cases hs : isSc (enc v) = true
 ·exact ⟨d2, by simp only [fIx, k1, k2, bindSome, s1, s2, ea]; rw [if_pos hs], S2⟩
 ·exact ⟨d3, by simp only [fIx, k1, k2, bindSome, s1, s2, ea]; rw [if_neg hs, i1]; rfl, S3⟩
def PoS (ps : List SP) (f : DS → Option (Option Int × DS)) (m : Option (Option Int)) : Prop := ∀ v, m = some v → ∀ ds, Ss ps ds → ∃ ds', f ds = some (v, ds') ∧ Ss ps ds'
theorem po_no : PoS ps fNoPart (some none) := by
 intro v e ds S
 cases e
 exact ⟨ds, rfl, S⟩
theorem po_so {ma : Option Int} (ha : ExS ps fa ma) : PoS ps (fPart fa) (ma.bind fun a => some (some a)) := by
 intro v e ds S
 simp only [Option.bind_eq_some_iff] at e
 obtain ⟨a, e1, e3⟩ := e
 cases e3
 obtain ⟨r1, d1, k1, S1, q1⟩ := ha a e1 ds S
 have s1 := see_of q1 S1
 simp only [enc, Enc.en] at s1
 exact ⟨d1, by simp only [fPart, k1, bindSome, s1], S1⟩
def cutN (l : List α) (lo hi : Option Int) : List α := (l.drop (HT.sIx l.length 0 lo)).take (HT.sIx l.length l.length hi - HT.sIx l.length 0 lo)
theorem cut_map {g : α → D} (l : List α) (lo hi : Option Int) : cutD (l.map g) lo hi = (cutN l lo hi).map g := by
 unfold cutD cutN
 rw [List.length_map, List.map_take, List.map_drop]
theorem v_sl {fl fh : DS → Option (Option Int × DS)} {ma : Option (List α)} {ml mh : Option (Option Int)} (ha : ExS ps fa ma) (hl : PoS ps fl ml) (hh : PoS ps fh mh) : ExF ps (fSl fa fl fh) (ma.bind fun a => ml.bind fun lo => mh.bind fun hi => some (cutN a lo hi)) := by
 intro v e ds S
 simp only [Option.bind_eq_some_iff] at e
 obtain ⟨a, e1, lo, e2, hi, e3, e4⟩ := e
 cases e4
 obtain ⟨r1, d1, k1, S1, q1⟩ := ha a e1 ds S
 obtain ⟨d2, k2, S2⟩ := hl lo e2 d1 S1
 obtain ⟨d3, k3, S3⟩ := hh hi e3 d2 S2
 have s1 := see_of q1 S3
 simp only [enc, Enc.en] at s1 q1
 obtain ⟨d4, i1, S4⟩ := items_of q1 S3
 have nT : isT r1 d3 = false := by unfold isT; rw [s1]
 exact ⟨d4, by simp only [fSl, k1, k2, k3, bindSome, i1, nT, cut_map, Bool.false_eq_true, if_false], S4⟩
theorem a_n : ArV ps fNil (some []) := by
 intro l e ds S
 cases e
 exact ⟨[], ds, rfl, S, .nil⟩
theorem a_nS : ArS ps fNil (some []) := by
 intro l e ds S
 cases e
 exact ⟨[], ds, rfl, S, .nil⟩
theorem a_c {ma : Option α} {mr : Option (List D)} (ha : ExV ps fa ma) (hr : ArV ps fr mr) : ArV ps (fCons fa fr) (ma.bind fun a => mr.bind fun l => some (enc a :: l)) := by
 intro l e ds S
 simp only [Option.bind_eq_some_iff] at e
 obtain ⟨a, e1, l', e2, e3⟩ := e
 cases e3
 obtain ⟨r1, d1, k1, S1, q1⟩ := ha a e1 ds S
 obtain ⟨rs, d2, k2, S2, q2⟩ := hr l' e2 d1 S1
 exact ⟨r1 :: rs, d2, by simp only [fCons, k1, k2, bindSome, Option.map_some], S2, .cons q1 q2⟩
theorem a_cS {ma : Option α} {mr : Option (List D)} (ha : ExS ps fa ma) (hr : ArS ps fr mr) : ArS ps (fCons fa fr) (ma.bind fun a => mr.bind fun l => some (enc a :: l)) := by
 intro l e ds S
 simp only [Option.bind_eq_some_iff] at e
 obtain ⟨a, e1, l', e2, e3⟩ := e
 cases e3
 obtain ⟨r1, d1, k1, S1, q1⟩ := ha a e1 ds S
 obtain ⟨rs, d2, k2, S2, q2⟩ := hr l' e2 d1 S1
 exact ⟨r1 :: rs, d2, by simp only [fCons, k1, k2, bindSome, Option.map_some], S2, .cons q1 q2⟩
def As (ps : List SP) (f : DS → Option (List RV × DS)) (n : Nat) (m : Option (List α)) : Prop := ArV ps f (m.map fun l => l.map enc) ∧ ∀ l, m = some l → l.length = n
theorem as_n : As ps fNil 0 (some ([] : List α)) := ⟨a_n, fun l e => by cases e; rfl⟩
theorem as_c {n : Nat} {ma : Option α} {mr : Option (List α)} (ha : ExV ps fa ma) (hr : As ps fr n mr) : As ps (fCons fa fr) (n + 1) (ma.bind fun a => mr.bind fun l => some (a :: l)) := ⟨by
 have h := a_c ha hr.1
 intro l e ds S
 refine h l ?_ ds S
 rw [← e]
 cases ma <;> cases mr <;> rfl, fun l e => by
 simp only [Option.bind_eq_some_iff] at e
 obtain ⟨a, e1, l', e2, e3⟩ := e
 cases e3
 rw [List.length_cons, hr.2 l' e2]⟩
theorem v_lst {n : Nat} {m : Option (List α)} (h : As ps fr n m) (hn : n ≤ 1000 := by decide) : ExF ps (fLst fr) m := by
 intro v e ds S
 obtain ⟨rs, d1, k1, S1, q1⟩ := h.1 (v.map enc) (by rw [e]; rfl) ds S
 obtain ⟨d2, k2, S2⟩ := frzs_of S1 q1
 have hl := h.2 v e
 exact ⟨d2, by simp only [fLst, k1, k2, bindSome, List.length_map]; rw [if_pos (by omega)], S2⟩
theorem v_tupD {mk : τ → List D} (hk : ∀ t, enc t = .tuple (mk t)) (hn : ∀ t, (mk t).length ≤ 1000) {m : Option τ} (h : ArV ps fr (m.map mk)) : ExC ps (fTup fr) m := by
 intro v e ds S
 obtain ⟨rs, d1, k1, S1, q1⟩ := h (mk v) (by rw [e]; rfl) ds S
 obtain ⟨d2, k2, S2⟩ := frzs_of S1 q1
 exact ⟨d2, by simp only [fTup, k1, k2, bindSome]; rw [if_pos (hn v), hk v], S2⟩
theorem v_tup3 {ma : Option α} {mb : Option β} {mc : Option γ} (ha : ExV ps fa ma) (hb : ExV ps fb mb) (hc : ExV ps fc mc) : ExC ps (fTup (fCons fa (fCons fb (fCons fc fNil)))) (ma.bind fun a => mb.bind fun b => mc.bind fun c => some (T3.mk a b c)) :=
 v_tupD (mk := fun t : T3 α β γ => [enc t.a, enc t.b, enc t.c]) (fun _ => rfl) (fun _ => by simp) (by
  have h := a_c ha (a_c hb (a_c hc a_n))
  intro l e ds S
  exact h l (by rw [← e]; cases ma <;> cases mb <;> cases mc <;> rfl) ds S)
theorem v_ca1 {g : List D → Option D} (mo : α → Option τ) {ma : Option α} (hg : ∀ a v, mo a = some v → g [enc a] = some (enc v)) (ha : ExS ps fa ma) : ExC ps (fCa g (fCons fa fNil)) (ma.bind mo) := by
 intro v e ds S
 simp only [Option.bind_eq_some_iff] at e
 obtain ⟨a, e1, e2⟩ := e
 obtain ⟨rs, d1, k1, S1, q1⟩ := (a_cS ha a_nS) [enc a] (by rw [e1]; rfl) ds S
 exact ⟨d1, by simp only [fCa, k1, bindSome, sees_of S1 q1, hg a v e2, Option.map_some], S1⟩
theorem v_ca2 {g : List D → Option D} (mo : α → β → Option τ) {ma : Option α} {mb : Option β} (hg : ∀ a b v, mo a b = some v → g [enc a, enc b] = some (enc v)) (ha : ExS ps fa ma) (hb : ExS ps fb mb) : ExC ps (fCa g (fCons fa (fCons fb fNil))) (ma.bind fun a => mb.bind fun b => mo a b) := by
 intro v e ds S
 simp only [Option.bind_eq_some_iff] at e
 obtain ⟨a, e1, b, e2, e3⟩ := e
 obtain ⟨rs, d1, k1, S1, q1⟩ := (a_cS ha (a_cS hb a_nS)) [enc a, enc b] (by rw [e1, e2]; rfl) ds S
 exact ⟨d1, by simp only [fCa, k1, bindSome, sees_of S1 q1, hg a b v e3, Option.map_some], S1⟩
theorem v_len {ma : Option (List α)} (ha : ExS ps fa ma) : ExC ps (fCa gLen (fCons fa fNil)) (ma.bind fun a => some (a.length : Int)) := v_ca1 (fun a => some (a.length : Int)) (fun a v h => by
 cases h
 show some (PyData.int (a.map enc).length) = some (PyData.int a.length)
 rw [List.length_map]) ha
theorem v_abs {ma : Option Int} (ha : ExS ps fa ma) : ExC ps (fCa (g1I fun i => .int (if i < 0 then -i else i)) (fCons fa fNil)) (ma.bind fun a => some (a.natAbs : Int)) := v_ca1 (fun a => some (a.natAbs : Int)) (fun a v h => by
 cases h
 show some (PyData.int (if a < 0 then -a else a)) = some (PyData.int (a.natAbs : Int))
 have : (if a < 0 then -a else a) = (a.natAbs : Int) := by split <;> omega
 rw [this]) ha
theorem v_int {ma : Option Int} (ha : ExS ps fa ma) : ExC ps (fCa gInt (fCons fa fNil)) ma := by
 have h := v_ca1 (ps := ps) (g := gInt) (fun a : Int => some a) (fun a v h => by cases h; rfl) ha
 intro v e
 exact h v (by rw [e]; rfl)
theorem v_listOf {ma : Option (List α)} (ha : ExS ps fa ma) : ExF ps (fListOf (fCons fa fNil)) ma := by
 intro v e ds S
 obtain ⟨r1, d1, k1, S1, q1⟩ := ha v e ds S
 obtain ⟨d2, k2, S2⟩ := items_of q1 S1
 exact ⟨d2, by simp only [fListOf, fCons, fNil, k1, bindSome, Option.map_some, k2], S2⟩
theorem t_b {m : Option Bool} (h : ExC ps f m) : Te ps (fBool f) m := by
 intro v e ds S
 obtain ⟨d1, k1, S1⟩ := h v e ds S
 exact ⟨d1, by simp only [fBool, k1, bindSome]; rfl, S1⟩
theorem t_tru {b : α → Bool} (hb : ∀ a, truD (enc a) = some (b a)) {m : Option α} (h : ExS ps f m) : Te ps (fTru f) (m.bind fun a => some (b a)) := by
 intro v e ds S
 simp only [Option.bind_eq_some_iff] at e
 obtain ⟨a, e1, e2⟩ := e
 cases e2
 obtain ⟨r, d1, k1, S1, q1⟩ := h a e1 ds S
 exact ⟨d1, by simp only [fTru, k1, bindSome, see_of q1 S1, hb a, Option.map_some], S1⟩
theorem t_truB {m : Option Bool} (h : ExS ps f m) : Te ps (fTru f) m := by
 have k := t_tru (b := fun a : Bool => a) (fun a => rfl) h
 intro v e
 exact k v (by rw [e]; rfl)
theorem t_and {m n : Option Bool} (h : Te ps ft m) (k : Te ps fu n) : Te ps (fAndT ft fu) (m.bind fun a => if a = true then n else some false) := by
 intro v e ds S
 simp only [Option.bind_eq_some_iff] at e
 obtain ⟨a, e1, e2⟩ := e
 obtain ⟨d1, k1, S1⟩ := h a e1 ds S
 cases a with
 | true =>
  obtain ⟨d2, k2, S2⟩ := k v e2 d1 S1
  exact ⟨d2, by simp only [fAndT, k1, k2, bindSome, if_true], S2⟩
 | false => cases e2; exact ⟨d1, by simp only [fAndT, k1, bindSome]; rfl, S1⟩
theorem t_or {m n : Option Bool} (h : Te ps ft m) (k : Te ps fu n) : Te ps (fOrT ft fu) (m.bind fun a => if a = true then some true else n) := by
 intro v e ds S
 simp only [Option.bind_eq_some_iff] at e
 obtain ⟨a, e1, e2⟩ := e
 obtain ⟨d1, k1, S1⟩ := h a e1 ds S
 cases a with
 | false =>
  obtain ⟨d2, k2, S2⟩ := k v e2 d1 S1
  refine ⟨d2, ?_, S2⟩
  simp only [fOrT, k1, k2, bindSome, Bool.false_eq_true, if_false]
 | true => cases e2; exact ⟨d1, by simp only [fOrT, k1, bindSome]; rfl, S1⟩
theorem t_not {m : Option Bool} (h : Te ps ft m) : Te ps (fNotT ft) (m.bind fun a => some (!a)) := by
 intro v e ds S
 simp only [Option.bind_eq_some_iff] at e
 obtain ⟨a, e1, e2⟩ := e
 cases e2
 obtain ⟨d1, k1, S1⟩ := h a e1 ds S
 exact ⟨d1, by simp only [fNotT, k1, Option.map_some], S1⟩
theorem v_ifC {mc : Option Bool} {m n : Option τ} (hc : Te ps ft mc) (h : ExC ps fa m) (k : ExC ps fb n) : ExC ps (fIf ft fa fb) (mc.bind fun c => if c = true then m else n) := by
 intro v e ds S
 simp only [Option.bind_eq_some_iff] at e
 obtain ⟨c, e1, e2⟩ := e
 obtain ⟨d1, k1, S1⟩ := hc c e1 ds S
 cases c with
 | true =>
  obtain ⟨d2, k2, S2⟩ := h v e2 d1 S1
  exact ⟨d2, by simp only [fIf, k1, k2, bindSome, if_true], S2⟩
 | false =>
  obtain ⟨d2, k2, S2⟩ := k v e2 d1 S1
  exact ⟨d2, by simp only [fIf, k1, k2, bindSome, Bool.false_eq_true, if_false], S2⟩
end
end Ty
set_option Elab.async false
set_option linter.all false
set_option maxRecDepth 100000
namespace Ty
open PySem PySem.Spec L2 Fx
section
variable {α β γ τ σ ρ ν : Type} [Enc α] [Enc β] [Enc γ] [Enc τ] [Enc σ] [Enc ρ]
variable {ps : List SP} {f fa fb fc : DS → Option (RV × DS)} {ft fu : DS → Option (Bool × DS)} {fr fs : DS → Option (List RV × DS)} {fi : DS → Option (List D × DS)}
theorem i_lst {m : Option (List τ)} (h : ExV ps f m) : It ps (fiList f) m := by
 intro v e ds S
 obtain ⟨r, d1, k1, S1, q1⟩ := h v e ds S
 obtain ⟨d2, k2, S2⟩ := frz_of q1 S1
 exact ⟨d2, by simp only [fiList, k1, k2, bindSome]; rfl, S2⟩
theorem i_tp {m : Option α} (its : α → List τ) (hi : ∀ a, enc a = .tuple ((its a).map enc)) (h : ExV ps f m) : It ps (fiTup f) (m.bind fun a => some (its a)) := by
 intro v e ds S
 simp only [Option.bind_eq_some_iff] at e
 obtain ⟨a, e1, e2⟩ := e
 cases e2
 obtain ⟨r, d1, k1, S1, q1⟩ := h a e1 ds S
 rw [hi a] at q1
 obtain ⟨d2, k2, S2⟩ := frz_of q1 S1
 exact ⟨d2, by simp only [fiTup, k1, k2, bindSome], S2⟩
def rangeL (lo hi : Int) : List Int := (List.range (hi - lo).toNat).map fun (i : Nat) => lo + (i : Int)
noncomputable def range1N (j : Int) : Option (List Int) := if small62 j = true then some (rangeL 0 j) else none
noncomputable def range2N (i j : Int) : Option (List Int) := if (small62 i && small62 j) = true then some (rangeL i j) else none
def range3L (i j c : Int) : List Int := (List.range (Builtin.Range.rangeSize i j c).toNat).map fun (k : Nat) => i + (k : Int) * c
noncomputable def range3N (i j c : Int) : Option (List Int) := if rgOk i j c = true then some (range3L i j c) else none
theorem i_rg1 {m : Option Int} (h : ExS ps f m) : It ps (fiR1 (fCons f fNil)) (m.bind range1N) := by
 intro v e ds S
 simp only [Option.bind_eq_some_iff] at e
 obtain ⟨j, e1, e2⟩ := e
 unfold range1N at e2
 split at e2
 ·rename_i hs
  cases e2
  obtain ⟨rs, d1, k1, S1, q1⟩ := (a_cS h a_nS) [enc j] (by rw [e1]; rfl) ds S
  have s1 := sees_of S1 q1
  simp only [enc, Enc.en] at s1
  exact ⟨d1, by simp only [fiR1, k1, bindSome, s1, hs, if_true, rangeD, rangeL, List.map_map]; rfl, S1⟩
 ·cases e2
def Tg (ps : List SP) (g : D → DS → Option DS) (d : D) (ps' : List SP) : Prop := ∀ ds, Ss ps ds → ∃ ds', g d ds = some ds' ∧ Ss ps' ds'
def Tgs (ps : List SP) (g : List D → DS → Option DS) (l : List D) (ps' : List SP) : Prop := ∀ ds, Ss ps ds → ∃ ds', g l ds = some ds' ∧ Ss ps' ds'
theorem tg_n (i : Nat) {d : D} : Tg ps (fgName i) d (ps.set i (sh d)) := fun ds S => ⟨_, rfl, S.set i rfl⟩
theorem tgs_n : Tgs ps fgNil [] ps := fun ds S => ⟨ds, rfl, S⟩
theorem tgs_c {ps1 ps2 : List SP} {g : D → DS → Option DS} {gs : List D → DS → Option DS} {d : D} {l : List D} (h : Tg ps g d ps1) (k : Tgs ps1 gs l ps2) : Tgs ps (fgCons g gs) (d :: l) ps2 := fun ds S => by
 obtain ⟨d1, e1, S1⟩ := h ds S
 obtain ⟨d2, e2, S2⟩ := k d1 S1
 exact ⟨d2, by simp only [fgCons, e1, e2, bindSome], S2⟩
theorem tg_t {ps1 : List SP} {n : Nat} {gs : List D → DS → Option DS} {d : D} {l : List D} (h : Tgs ps gs l ps1) (hd : d = .tuple l := by rfl) (hn : l.length = n := by rfl) : Tg ps (fgTup n gs) d ps1 := fun ds S => by
 obtain ⟨d1, e1, S1⟩ := h ds S
 subst hd
 exact ⟨d1, by simp only [fgTup]; rw [if_pos hn]; exact e1, S1⟩
def isN : SP := fun x => x = none
def wipeP (ps : List SP) : List Nat → List SP
 | [] => ps
 | v :: vs => (wipeP ps vs).set v isN
theorem Ss.wipe {ds : DS} (S : Ss ps ds) : ∀ vs : List Nat, Ss (wipeP ps vs) (wipeD ds vs)
 | [] => S
 | v :: vs => (Ss.wipe S vs).set v rfl
theorem wipeP_out {i : Nat} : ∀ {vs : List Nat}, i ∉ vs → (wipeP ps vs)[i]? = ps[i]?
 | [], _ => rfl
 | v :: vs, h => by
  unfold wipeP
  rw [List.getElem?_set_ne (fun e => h (by simp [e])), wipeP_out fun z => h (by simp [z])]
theorem wipeP_len (ps : List SP) : ∀ vs : List Nat, (wipeP ps vs).length = ps.length
 | [] => rfl
 | v :: vs => by unfold wipeP; rw [List.length_set, wipeP_len]
theorem Ss.of : ∀ {ps : List SP} {ds : DS}, ds.length = ps.length → (∀ (i : Nat) (p : SP), ps[i]? = some p → ∃ x, ds[i]? = some x ∧ p x) → Ss ps ds
 | [], [], _, _ => True.intro
 | p :: ps, x :: xs, hl, h => by
  refine ⟨?_, Ss.of (by simpa using hl) fun i q e => by simpa using h (i + 1) q (by simpa using e)⟩
  obtain ⟨y, e, k⟩ := h 0 p (by simp)
  simp at e
  subst e
  exact k
 | [], _ :: _, hl, _ => by simp at hl
 | _ :: _, [], hl, _ => by simp at hl
theorem mend_get {d0 d : DS} {i : Nat} : ∀ {vs : List Nat}, i < d.length → (mend d0 d vs)[i]? = if i ∈ vs then some ((d0[i]?).getD none) else d[i]?
 | [], _ => by simp [mend]
 | v :: vs, h => by
  unfold mend
  by_cases e : v = i
  ·subst e
   rw [List.getElem?_set_self (by rw [mend_length]; exact h), if_pos (by simp)]
  ·rw [List.getElem?_set_ne e, mend_get h]
   by_cases hm : i ∈ vs
   ·rw [if_pos hm, if_pos (by simp [hm])]
   ·rw [if_neg hm, if_neg (by simp [hm, Ne.symm e])]
theorem Ss.mended {d0 w : DS} {vs : List Nat} (S0 : Ss ps d0) (S : Ss (wipeP ps vs) w) : Ss ps (mend d0 w vs) := by
 have hl := S.len
 rw [wipeP_len] at hl
 refine Ss.of (by rw [mend_length, hl]) fun i p e => ?_
 have hi : i < w.length := by rw [hl]; exact (List.getElem?_eq_some_iff.mp e).1
 rw [mend_get hi]
 by_cases h : i ∈ vs
 ·rw [if_pos h]
  obtain ⟨x, e1, k⟩ := S0.get e
  rw [e1]
  exact ⟨x, rfl, k⟩
 ·rw [if_neg h]
  exact S.get (by rw [wipeP_out h]; exact e)
theorem Nfs.all {ds : DS} (S : Ss ps ds) : ∀ {vs : List Nat}, Nfs ps vs → (vs.all fun i => shB ds[i]?) = true
 | [], _ => rfl
 | v :: vs, h => by
  obtain ⟨⟨p, e, k⟩, h2⟩ := h
  obtain ⟨x, e1, k1⟩ := S.get e
  rw [List.all_cons, Nfs.all S h2, e1, Bool.and_true]
  exact k x k1
def lenN (l : List α) : Option (List α) := if l.length ≤ 1000000 then some l else none
def mapN (l : List α) (e : α → Option β) : Option (List β) := match l with
 | [] => some []
 | v :: l => (e v).bind fun x => (mapN l e).bind fun r => some (x :: r)
def compN (l : List α) (t : α → Option Bool) (e : α → Option β) : Option (List β) := match l with
 | [] => some []
 | v :: l => (t v).bind fun c => if c = true then (e v).bind fun x => (compN l t e).bind fun r => some (x :: r) else compN l t e
theorem lcF_ok {vs : List Nat} {psT : α → List SP} {g : D → DS → Option DS} {fe : DS → Option (RV × DS)} {t : α → Option Bool} {e : α → Option β} (hw : ∀ v, wipeP (psT v) vs = wipeP ps vs) (hg : ∀ v : α, Tg (wipeP ps vs) g (enc v) (psT v)) (ht : ∀ v, Te (psT v) ft (t v)) (he : ∀ v, ExV (psT v) fe (e v)) :
  ∀ (l : List α) (r : List β) (w : DS) (acc : List D), compN l t e = some r → Ss (wipeP ps vs) w → ∃ w', lcF (turnC g ft fe vs) (l.map enc) w acc = some (acc ++ r.map enc, w') ∧ Ss (wipeP ps vs) w'
 | [], r, w, acc, h, S => by
  cases h
  exact ⟨w, by simp [lcF], S⟩
 | v :: l, r, w, acc, h, S => by
  simp only [compN, Option.bind_eq_some_iff] at h
  obtain ⟨c, h1, h2⟩ := h
  obtain ⟨d1, e1, S1⟩ := hg v w S
  obtain ⟨d2, e2, S2⟩ := ht v c h1 d1 S1
  cases c with
  | true =>
   simp only [if_true, Option.bind_eq_some_iff] at h2
   obtain ⟨x, h3, r', h4, h5⟩ := h2
   cases h5
   obtain ⟨rv, d3, e3, S3, q3⟩ := he v x h3 d2 S2
   obtain ⟨d4, e4, S4⟩ := frz_of q3 S3
   have S5 := S4.wipe vs
   rw [hw v] at S5
   obtain ⟨w', e6, S6⟩ := lcF_ok hw hg ht he l r' _ (acc ++ [enc x]) h4 S5
   refine ⟨w', ?_, S6⟩
   simp only [List.map_cons, lcF, turnC, e1, e2, e3, e4, bindSome, if_true, Option.map_some, Option.toList, e6]
   rw [List.append_assoc]; rfl
  | false =>
   simp only [Bool.false_eq_true, if_false] at h2
   have S5 := S2.wipe vs
   rw [hw v] at S5
   obtain ⟨w', e6, S6⟩ := lcF_ok hw hg ht he l r _ acc h2 S5
   refine ⟨w', ?_, S6⟩
   simp only [List.map_cons, lcF, turnC, e1, e2, bindSome, Bool.false_eq_true, if_false, Option.toList, List.append_nil, e6]
theorem v_lcT {vs : List Nat} {psT : α → List SP} {g : D → DS → Option DS} {fe : DS → Option (RV × DS)} {mi : Option (List α)} {t : α → Option Bool} {e : α → Option β} (hn : Nfs ps vs) (hi : It ps fi mi) (hg : ∀ v : α, Tg (wipeP ps vs) g (enc v) (psT v)) (ht : ∀ v, Te (psT v) ft (t v)) (he : ∀ v, ExV (psT v) fe (e v)) (hw : ∀ v, wipeP (psT v) vs = wipeP ps vs := by intro _; rfl) :
  ExF ps (fLc fi g ft fe vs) (mi.bind fun l => (lenN l).bind fun l => compN l t e) := by
 intro r h ds S
 simp only [Option.bind_eq_some_iff] at h
 obtain ⟨l, h1, l', h2, h3⟩ := h
 unfold lenN at h2
 split at h2
 ·rename_i hl
  cases h2
  obtain ⟨d1, k1, S1⟩ := hi l h1 ds S
  obtain ⟨w', e1, S2⟩ := lcF_ok hw hg ht he l r _ [] h3 (S1.wipe vs)
  refine ⟨mend d1 w' vs, ?_, S1.mended S2⟩
  have hl' : decide ((l.map enc).length ≤ 1000000) = true := by rw [List.length_map]; exact decide_eq_true hl
  simp only [fLc, fLcG, k1, bindSome, hn.all S1, hl', Bool.and_self, if_true, e1, Option.map_some, List.nil_append]
 ·cases h2
theorem mapN_comp (l : List α) (e : α → Option β) : compN l (fun _ => some true) e = mapN l e := by
 induction l with
 | nil => rfl
 | cons v l ih => simp only [compN, mapN, bindSome, if_true, ih]
theorem t_yes : Te ps fYes (some true) := by
 intro v e ds S
 cases e
 exact ⟨ds, rfl, S⟩
theorem v_lc {vs : List Nat} {psT : α → List SP} {g : D → DS → Option DS} {fe : DS → Option (RV × DS)} {mi : Option (List α)} {e : α → Option β} (hn : Nfs ps vs) (hi : It ps fi mi) (hg : ∀ v : α, Tg (wipeP ps vs) g (enc v) (psT v)) (he : ∀ v, ExV (psT v) fe (e v)) (hw : ∀ v, wipeP (psT v) vs = wipeP ps vs := by intro _; rfl) :
  ExF ps (fLc fi g fYes fe vs) (mi.bind fun l => (lenN l).bind fun l => mapN l e) := by
 have h := v_lcT hn hi hg (fun v => t_yes) he hw
 simpa only [mapN_comp] using h
class Sca (α : Type) [Enc α] : Prop where
 sc : ∀ a : α, isSc (enc a) = true
instance : Sca Int := ⟨fun _ => rfl⟩
instance : Sca Bool := ⟨fun _ => rfl⟩
instance : Sca Unit := ⟨fun _ => rfl⟩
instance : Sca Str := ⟨fun _ => rfl⟩
instance [Sca α] : Sca (Option α) := ⟨fun o => match o with | none => rfl | some a => Sca.sc a⟩
theorem all_sc [Sca α] (l : List α) : (l.map enc).all isSc = true := by
 rw [List.all_map]
 exact List.all_eq_true.mpr fun a _ => Sca.sc a
theorem v_callGS [Sca ρ] {n : Nat} {g : DS → Option DR} {mr : Option (List D)} {m : Option (List ρ)} (ha : ArS ps fr mr) (hm : ∀ v, m = some v → ∃ l, mr = some l ∧ l.length = n ∧ ∃ d, g (shs l) = some (.ret (.flat (v.map enc)) d)) : ExF ps (fCall n g fr) m := by
 intro v e ds S
 obtain ⟨l, h1, h2, dd, h3⟩ := hm v e
 obtain ⟨rs, d1, k1, S1, q1⟩ := ha l h1 ds S
 have s1 := sees_of S1 q1
 have ho : (OV.flat (v.map enc)).own?.isSome = true := by simp only [OV.own?, all_sc, if_true, Option.isSome_some]
 refine ⟨d1, ?_, S1⟩
 simp only [fCall, k1, bindSome, s1, h3]
 rw [if_pos h2, if_pos ho]
theorem v_callGC [Sca ρ] {n : Nat} {g : DS → Option DR} {mr : Option (List D)} {m : Option ρ} (ha : ArS ps fr mr) (hm : ∀ v, m = some v → ∃ l, mr = some l ∧ l.length = n ∧ ∃ d, g (shs l) = some (.ret (.sh (enc v)) d)) : ExC ps (fCall n g fr) m := by
 intro v e ds S
 obtain ⟨l, h1, h2, dd, h3⟩ := hm v e
 obtain ⟨rs, d1, k1, S1, q1⟩ := ha l h1 ds S
 have s1 := sees_of S1 q1
 have ho : (OV.sh (enc v)).own?.isSome = true := by simp only [OV.own?, Sca.sc v, if_true, Option.isSome_some]
 refine ⟨d1, ?_, S1⟩
 simp only [fCall, k1, bindSome, s1, h3]
 rw [if_pos h2, if_pos ho]
end
inductive TO (ν α ρ : Type) where
 | nx (a : ν)
 | ct (a : α)
 | bk (a : α)
 | ret (r : ρ)
 | ex (x : Str)
section
variable {α β γ τ σ ρ ν μ : Type} [Enc τ] [Enc σ]
variable {ps : List SP} {f fa fb fc fe : DS → Option (RV × DS)} {ft fu : DS → Option (Bool × DS)} {fr : DS → Option (List RV × DS)} {fi : DS → Option (List D × DS)} {s g a b : DS → Option Out}
 {Jn : ν → List SP} {J : α → List SP} {Jx : List SP} {R : ρ → OV → DS → Prop}
def Rel (Jn : ν → List SP) (J : α → List SP) (Jx : List SP) (R : ρ → OV → DS → Prop) : TO ν α ρ → Out → Prop
 | .nx a, .nx ds => Ss (Jn a) ds
 | .ct a, .ct ds => Ss (J a) ds
 | .bk a, .bk ds => Ss (J a) ds
 | .ret r, .ret o d => R r o d
 | .ex x, .ex y ds => x = y ∧ Ss Jx ds
 | _, _ => False
def Bk (ps : List SP) (f : DS → Option Out) (m : Option (TO ν α ρ)) (Jn : ν → List SP) (J : α → List SP) (Jx : List SP) (R : ρ → OV → DS → Prop) : Prop := ∀ o, m = some o → ∀ ds, Ss ps ds → ∃ out, f ds = some out ∧ Rel Jn J Jx R o out
def seqT (m : Option (TO μ α ρ)) (k : μ → Option (TO ν α ρ)) : Option (TO ν α ρ) := m.bind fun o => match o with
 | .nx b => k b
 | .ct a => some (.ct a)
 | .bk a => some (.bk a)
 | .ret r => some (.ret r)
 | .ex x => some (.ex x)
theorem b_weak {ps' : List SP} {m : Option (TO ν α ρ)} (l : Le ps ps') (h : Bk ps' s m Jn J Jx R) : Bk ps s m Jn J Jx R := fun o ho ds S => h o ho ds (l.ss S)
theorem b_nx {n : ν} (l : Le ps (Jn n)) : Bk (α := α) (ρ := ρ) ps fNext (some (.nx n)) Jn J Jx R := by
 intro o e ds S
 cases e
 exact ⟨_, rfl, l.ss S⟩
theorem fSeq_next (f : DS → Option Out) : fSeq f fNext = f := by
 funext ds
 unfold fSeq
 cases h : f ds with
 | none => rfl
 | some o => cases o <;> rfl
theorem b_last {m : Option (TO ν α ρ)} (h : Bk ps (fSeq s fNext) m Jn J Jx R) : Bk ps s m Jn J Jx R := by rwa [fSeq_next] at h
def li {ρ : Type} (R : ρ → OV → Prop) : ρ → OV → DS → Prop := fun r o _ => R r o
def RtF (r : List τ) (o : OV) : Prop := o = .flat (r.map enc)
def RtC (r : τ) (o : OV) : Prop := o = .sh (enc r)
theorem b_retF {m : Option (List τ)} (h : ExF ps f m) : Bk ps (fRet f) (m.bind fun v => some (.ret v)) Jn J Jx (li RtF) := by
 intro o e ds S
 simp only [Option.bind_eq_some_iff] at e
 obtain ⟨v, e1, e2⟩ := e
 cases e2
 obtain ⟨d1, k1, S1⟩ := h v e1 ds S
 exact ⟨.ret _ d1, by simp only [fRet, k1, bindSome, mov, Option.map_some], rfl⟩
theorem b_retFv (i : Nat) {v : List τ} (h : ps[i]? = some (fl (v.map enc)) := by rfl) : Bk ps (fRet (fVar i)) (some (.ret v)) Jn J Jx (li RtF) := by
 intro o e ds S
 cases e
 obtain ⟨x, e, ho⟩ := S.get h
 have ho : x = some (.flat (v.map enc)) := ho
 subst ho
 exact ⟨.ret _ (ds.set i none), by simp only [fRet, fVar, e, bindSome, mov, Option.map_some], rfl⟩
theorem b_retC {m : Option τ} (h : ExC ps f m) : Bk ps (fRet f) (m.bind fun v => some (.ret v)) Jn J Jx (li RtC) := by
 intro o e ds S
 simp only [Option.bind_eq_some_iff] at e
 obtain ⟨v, e1, e2⟩ := e
 cases e2
 obtain ⟨d1, k1, S1⟩ := h v e1 ds S
 exact ⟨.ret _ d1, by simp only [fRet, k1, bindSome, mov, Option.map_some], rfl⟩
theorem b_setF (i : Nat) {me : Option (List τ)} {k : List τ → Option (TO ν α ρ)} (he : ExF ps fe me) (hg : ∀ v, Bk (ps.set i (fl (v.map enc))) g (k v) Jn J Jx R) : Bk ps (fSeq (fSet i fe) g) (me.bind k) Jn J Jx R := by
 intro o e ds S
 simp only [Option.bind_eq_some_iff] at e
 obtain ⟨v, e1, e2⟩ := e
 obtain ⟨d1, k1, S1⟩ := he v e1 ds S
 obtain ⟨out, k3, rl⟩ := hg v o e2 _ (S1.set i (x := some (.flat (v.map enc))) rfl)
 exact ⟨out, by simp only [fSeq, fSet, k1, bindSome, k3], rl⟩
theorem b_setC (i : Nat) {me : Option τ} {k : τ → Option (TO ν α ρ)} (he : ExC ps fe me) (hg : ∀ v, Bk (ps.set i (sh (enc v))) g (k v) Jn J Jx R) : Bk ps (fSeq (fSet i fe) g) (me.bind k) Jn J Jx R := by
 intro o e ds S
 simp only [Option.bind_eq_some_iff] at e
 obtain ⟨v, e1, e2⟩ := e
 obtain ⟨d1, k1, S1⟩ := he v e1 ds S
 obtain ⟨out, k3, rl⟩ := hg v o e2 _ (S1.set i (x := some (.sh (enc v))) rfl)
 exact ⟨out, by simp only [fSeq, fSet, k1, bindSome, k3], rl⟩
theorem b_asg {tg : D → DS → Option DS} {ps' : τ → List SP} {me : Option τ} {k : τ → Option (TO ν α ρ)} (he : ExV ps fe me) (ht : ∀ v : τ, Tg ps tg (enc v) (ps' v)) (hg : ∀ v, Bk (ps' v) g (k v) Jn J Jx R) : Bk ps (fSeq (fAsg tg fe) g) (me.bind k) Jn J Jx R := by
 intro o e ds S
 simp only [Option.bind_eq_some_iff] at e
 obtain ⟨v, e1, e2⟩ := e
 obtain ⟨r, d1, k1, S1, q1⟩ := he v e1 ds S
 obtain ⟨d2, k2, S2⟩ := frz_of q1 S1
 obtain ⟨d3, k3, S3⟩ := ht v d2 S2
 obtain ⟨out, k4, rl⟩ := hg v o e2 d3 S3
 exact ⟨out, by simp only [fSeq, fAsg, k1, k2, k3, k4, bindSome, Option.map_some], rl⟩
def appN (l : List τ) (v : τ) : Option (List τ) := if l.length ≤ 1000000 then some (l ++ [v]) else none
theorem b_app (i : Nat) {l : List τ} {me : Option τ} {k : List τ → Option (TO ν α ρ)} (he : ExV ps fe me) (hg : ∀ v, Bk (ps.set i (fl (v.map enc))) g (k v) Jn J Jx R) (hi : ps[i]? = some (fl (l.map enc)) := by rfl) : Bk ps (fSeq (fApp i fe) g) (me.bind fun v => (appN l v).bind k) Jn J Jx R := by
 intro o e ds S
 simp only [Option.bind_eq_some_iff] at e
 obtain ⟨v, e1, l', e2, e3⟩ := e
 unfold appN at e2
 split at e2
 ·rename_i hl
  cases e2
  obtain ⟨x, x1, x2⟩ := S.get hi
  have x2 : x = some (.flat (l.map enc)) := x2
  subst x2
  obtain ⟨r, d1, k1, S1, q1⟩ := he v e1 ds S
  obtain ⟨d2, k2, S2⟩ := frz_of q1 S1
  obtain ⟨y, y1, y2⟩ := S2.get hi
  have y2 : y = some (.flat (l.map enc)) := y2
  subst y2
  obtain ⟨out, k4, rl⟩ := hg _ o e3 (d2.set i (some (.flat (l.map enc ++ [enc v])))) (S2.set i (by unfold fl; rw [List.map_append]; rfl))
  have hl' : (l.map enc).length ≤ 1000000 := by rw [List.length_map]; exact hl
  exact ⟨out, by simp only [fSeq, fApp, x1, k1, k2, y1, bindSome]; rw [if_pos hl']; exact k4, rl⟩
 ·cases e2
def setN (l : List τ) (k : Int) (v : τ) : Option (List τ) := (ixN l.length k).map fun j => l.set j v
def NoNx (f : DS → Option Out) : Prop := ∀ ds d, f ds ≠ some (.nx d)
theorem nn_ret : NoNx (fRet f) := fun ds d h => by
 simp only [fRet, Option.bind_eq_some_iff, Option.map_eq_some_iff] at h
 obtain ⟨p, _, o, _, h⟩ := h
 cases h
theorem b_ifT {mc : Option Bool} {ma mg : Option (TO ν α ρ)} (hc : Te ps ft mc) (ha : Bk ps a ma Jn J Jx R) (na : NoNx a) (hg : Bk ps (fSeq b g) mg Jn J Jx R) : Bk ps (fSeq (fIfS ft a b) g) (mc.bind fun t => if t = true then ma else mg) Jn J Jx R := by
 intro o e ds S
 simp only [Option.bind_eq_some_iff] at e
 obtain ⟨c, e1, e2⟩ := e
 obtain ⟨d1, k1, S1⟩ := hc c e1 ds S
 cases c with
 | true =>
  obtain ⟨out, k2, rl⟩ := ha o e2 d1 S1
  refine ⟨out, ?_, rl⟩
  simp only [fSeq, fIfS, k1, bindSome, if_true, k2]
  cases out with
  | nx d => exact absurd k2 (na d1 d)
  | _ => rfl
 | false =>
  obtain ⟨out, k2, rl⟩ := hg o e2 d1 S1
  refine ⟨out, ?_, rl⟩
  have h : (fSeq (fIfS ft a b) g) ds = (fSeq b g) d1 := by
   simp only [fSeq, fIfS, k1, bindSome, Bool.false_eq_true, if_false]
  rw [h]; exact k2
theorem b_ifL {mc : Option Bool} {ma mb : Option (TO ν α ρ)} (hc : Te ps ft mc) (ha : Bk ps a ma Jn J Jx R) (hb : Bk ps b mb Jn J Jx R) : Bk ps (fIfS ft a b) (mc.bind fun t => if t = true then ma else mb) Jn J Jx R := by
 intro o e ds S
 simp only [Option.bind_eq_some_iff] at e
 obtain ⟨c, e1, e2⟩ := e
 obtain ⟨d1, k1, S1⟩ := hc c e1 ds S
 cases c with
 | true =>
  obtain ⟨out, k2, rl⟩ := ha o e2 d1 S1
  exact ⟨out, by simp only [fIfS, k1, bindSome, if_true, k2], rl⟩
 | false =>
  obtain ⟨out, k2, rl⟩ := hb o e2 d1 S1
  refine ⟨out, ?_, rl⟩
  simp only [fIfS, k1, bindSome, Bool.false_eq_true, if_false, k2]
theorem b_seq {Jm : μ → List SP} {m : Option (TO μ α ρ)} {k : μ → Option (TO ν α ρ)} (h : Bk ps s m Jm J Jx R) (hg : ∀ n, Bk (Jm n) g (k n) Jn J Jx R) : Bk ps (fSeq s g) (seqT m k) Jn J Jx R := by
 intro o e ds S
 simp only [seqT, Option.bind_eq_some_iff] at e
 obtain ⟨o1, e1, e2⟩ := e
 obtain ⟨out, k1, rl⟩ := h o1 e1 ds S
 cases o1 with
 | nx n =>
  cases out with
  | nx d1 =>
   obtain ⟨out2, k2, rl2⟩ := hg n o e2 d1 rl
   exact ⟨out2, by simp only [fSeq, k1, bindSome, k2], rl2⟩
  | _ => exact rl.elim
 | ct n =>
  cases e2
  cases out with
  | ct d1 => exact ⟨.ct d1, by simp only [fSeq, k1, bindSome], rl⟩
  | _ => exact rl.elim
 | bk n =>
  cases e2
  cases out with
  | bk d1 => exact ⟨.bk d1, by simp only [fSeq, k1, bindSome], rl⟩
  | _ => exact rl.elim
 | ret n =>
  cases e2
  cases out with
  | ret d1 d2 => exact ⟨.ret d1 d2, by simp only [fSeq, k1, bindSome], rl⟩
  | _ => exact rl.elim
 | ex n =>
  cases e2
  cases out with
  | ex d1 d2 => exact ⟨.ex d1 d2, by simp only [fSeq, k1, bindSome], rl⟩
  | _ => exact rl.elim
def forT (l : List τ) (body : τ → β → Option (TO β β ρ)) (b : β) : Option (TO β α ρ) := match l with
 | [] => some (.nx b)
 | v :: l => (body v b).bind fun o => match o with
  | .nx b => forT l body b
  | .ct b => forT l body b
  | .bk b => some (.nx b)
  | .ret r => some (.ret r)
  | .ex x => some (.ex x)
theorem loop_ok {tg : D → DS → Option DS} {fb : DS → Option Out} {body : τ → β → Option (TO β β ρ)} {J0 : β → List SP} {psT : τ → β → List SP} (ht : ∀ v b, Tg (J0 b) tg (enc v) (psT v b)) (hb : ∀ v b, Bk (psT v b) fb (body v b) J0 J0 Jx R) :
  ∀ (l : List τ) (b : β) (o : TO β α ρ) (ds : DS), forT l body b = some o → Ss (J0 b) ds → ∃ out, loopF tg fb (l.map enc) ds = some out ∧ Rel J0 J Jx R o out
 | [], b, o, ds, h, S => by
  cases h
  exact ⟨_, rfl, S⟩
 | v :: l, b, o, ds, h, S => by
  simp only [forT, Option.bind_eq_some_iff] at h
  obtain ⟨o1, h1, h2⟩ := h
  obtain ⟨d1, k1, S1⟩ := ht v b ds S
  obtain ⟨out1, k2, rl⟩ := hb v b o1 h1 d1 S1
  cases o1 with
  | nx b1 =>
   cases out1 with
   | nx d2 =>
    obtain ⟨out, k3, rl2⟩ := loop_ok ht hb l b1 o d2 h2 rl
    exact ⟨out, by simp only [List.map_cons, loopF, k1, k2, bindSome, k3], rl2⟩
   | _ => exact rl.elim
  | ct b1 =>
   cases out1 with
   | ct d2 =>
    obtain ⟨out, k3, rl2⟩ := loop_ok ht hb l b1 o d2 h2 rl
    exact ⟨out, by simp only [List.map_cons, loopF, k1, k2, bindSome, k3], rl2⟩
   | _ => exact rl.elim
  | bk b1 =>
   cases h2
   cases out1 with
   | bk d2 => exact ⟨.nx d2, by simp only [List.map_cons, loopF, k1, k2, bindSome], rl⟩
   | _ => exact rl.elim
  | ret r =>
   cases h2
   cases out1 with
   | ret d2 d3 => exact ⟨.ret d2 d3, by simp only [List.map_cons, loopF, k1, k2, bindSome], rl⟩
   | _ => exact rl.elim
  | ex r =>
   cases h2
   cases out1 with
   | ex d2 d3 => exact ⟨.ex d2 d3, by simp only [List.map_cons, loopF, k1, k2, bindSome], rl⟩
   | _ => exact rl.elim
theorem b_for {tg : D → DS → Option DS} {fb : DS → Option Out} {mi : Option (List τ)} {body : τ → β → Option (TO β β ρ)} (J0 : β → List SP) (b0 : β) {psT : τ → β → List SP} {k : β → Option (TO ν α ρ)} (h0 : Le ps (J0 b0)) (hi : It ps fi mi) (ht : ∀ v b, Tg (J0 b) tg (enc v) (psT v b))
  (hb : ∀ v b, Bk (psT v b) fb (body v b) J0 J0 Jx R) (hg : ∀ b, Bk (J0 b) g (k b) Jn J Jx R) : Bk ps (fSeq (fFor fi tg fb) g) (mi.bind fun l => seqT (forT l body b0) k) Jn J Jx R := by
 intro o e ds S
 simp only [Option.bind_eq_some_iff] at e
 obtain ⟨l, e1, e2⟩ := e
 obtain ⟨d1, k1, S1⟩ := hi l e1 ds S
 have hl : Bk (J0 b0) (loopF tg fb (l.map enc)) (forT (α := α) l body b0) J0 J Jx R := fun o h ds S => loop_ok ht hb l b0 o ds h S
 obtain ⟨out, k2, rl⟩ := b_seq hl hg o e2 d1 (h0.ss S1)
 refine ⟨out, ?_, rl⟩
 have h : (fSeq (fFor fi tg fb) g) ds = (fSeq (loopF tg fb (l.map enc)) g) d1 := by simp only [fSeq, fFor, k1, bindSome]
 rw [h]; exact k2
def retT (m : Option (TO Unit Unit ρ)) : Option ρ := m.bind fun o => match o with
 | .ret r => some r
 | _ => none
def retU [Enc ρ] (v : ρ) (m : Option (TO Unit Unit ρ)) : Option ρ := m.bind fun o => match o with
 | .ret r => some r
 | .nx _ => some v
 | _ => none
def retX (m : Option (TO Unit Unit ρ)) : Option (ρ ⊕ Str) := m.bind fun o => match o with
 | .ret r => some (.inl r)
 | .ex x => some (.inr x)
 | _ => none
def retXU (v : ρ) (m : Option (TO Unit Unit ρ)) : Option (ρ ⊕ Str) := m.bind fun o => match o with
 | .ret r => some (.inl r)
 | .nx _ => some (.inl v)
 | .ex x => some (.inr x)
 | _ => none
def startP (n : Nat) (l : List D) : List SP := l.map sh ++ List.replicate (n - l.length) isN
theorem ss_rep : ∀ n : Nat, Ss (List.replicate n isN) (List.replicate n none)
 | 0 => True.intro
 | n + 1 => ⟨rfl, ss_rep n⟩
theorem ss_start (n : Nat) (l : List D) : Ss (startP n l) (padD l.length n (shs l)) := by
 have e : padD l.length n (shs l) = shs l ++ List.replicate (n - l.length) none := by
  unfold padD
  rw [List.take_of_length_le (by simp), List.drop_of_length_le (by simp), List.append_nil]
 rw [e]
 unfold startP
 generalize n - l.length = k
 induction l with
 | nil => exact ss_rep k
 | cons d l ih => exact ⟨rfl, ih (by unfold padD; rw [List.take_of_length_le (by simp), List.drop_of_length_le (by simp), List.append_nil])⟩
abbrev Ja (n : Nat) : Unit → List SP := fun _ => List.replicate n an
abbrev Jxa (n : Nat) : List SP := List.replicate n an
def DRel (R : ρ → OV → Prop) (r : ρ) (o : Option DR) : Prop := ∃ v d, o = some (.ret v d) ∧ R r v
theorem def_of {R : ρ → OV → Prop} {io : List Nat} {n p : Nat} {fb : DS → Option Out} {l : List D} {m : Option (TO Unit Unit ρ)} {Jn J : Unit → List SP} (h : Bk (startP n l) fb m Jn J Jx (li R)) (hp : l.length = p := by rfl) : ∀ v, retT m = some v → DRel R v (funO io p n fb (shs l)) := by
 intro v e
 subst hp
 simp only [retT, Option.bind_eq_some_iff] at e
 obtain ⟨o, e1, e2⟩ := e
 cases o with
 | ret r =>
  cases e2
  obtain ⟨out, k1, rl⟩ := h _ e1 _ (ss_start n l)
  cases out with
  | ret o => exact ⟨o, _, by unfold funO; rw [k1], rl⟩
  | _ => exact rl.elim
 | _ => cases e2
def ExX (ps : List SP) (f : DS → Option ((RV × DS) ⊕ (Str × DS))) (m : Option (τ ⊕ Str)) (Rk : τ → RV → Prop) : Prop := ∀ v, m = some v → ∀ ds, Ss ps ds → match v with
 | .inl v => ∃ r ds', f ds = some (.inl (r, ds')) ∧ Ss ps ds' ∧ Rk v r
 | .inr x => ∃ ds', f ds = some (.inr (x, ds')) ∧ Ss ps ds'
def bindX (m : Option (τ ⊕ Str)) (k : τ → Option (TO ν α ρ)) : Option (TO ν α ρ) := m.bind fun o => match o with
 | .inl v => k v
 | .inr x => some (.ex x)
end
end Ty
set_option Elab.async false
set_option linter.all false
set_option maxRecDepth 100000
namespace Ty
open PySem PySem.Spec L2 Fx
def inlO {ρ : Type} (r : ρ ⊕ Str) : Option ρ := match r with
 | .inl r => some r
 | .inr _ => none
def noX {ρ : Type} (m : Option (ρ ⊕ Str)) : Option ρ := m.bind inlO
section
variable {ρ : Type} [Enc ρ] {ps : List SP}
def RkV (ps : List SP) (v : ρ) (r : RV) : Prop := kV ps (enc v) r
theorem v_callS1 {Aa : Type} [Enc Aa] [Sca ρ]  {fa : DS → Option (RV × DS)} {ma : Option Aa} {g : DS → Option DR} {m : Aa → Option (List ρ)} (T : ∀ a v, m a = some v → DRel RtF v (g (shs [enc a]))) (ha : ExS ps fa ma) : ExF ps (fCall 1 g (fCons fa fNil)) (ma.bind fun a => m a) :=
 v_callGS (a_cS ha a_nS) fun v e => by
  simp only [Option.bind_eq_some_iff] at e
  obtain ⟨a, ea, e⟩ := e
  obtain ⟨o, d, h1, h2⟩ := T a v e
  have h2 : o = _ := h2
  subst h2
  exact ⟨[enc a], by rw [ea]; rfl, rfl, d, h1⟩
theorem v_callS2 {Aa Ab : Type} [Enc Aa] [Enc Ab] [Sca ρ]  {fa fb : DS → Option (RV × DS)} {ma : Option Aa} {mb : Option Ab} {g : DS → Option DR} {m : Aa → Ab → Option (List ρ)} (T : ∀ a b v, m a b = some v → DRel RtF v (g (shs [enc a, enc b]))) (ha : ExS ps fa ma) (hb : ExS ps fb mb) : ExF ps (fCall 2 g (fCons fa (fCons fb fNil))) (ma.bind fun a => (mb.bind fun b => m a b)) :=
 v_callGS (a_cS ha (a_cS hb a_nS)) fun v e => by
  simp only [Option.bind_eq_some_iff] at e
  obtain ⟨a, ea, b, eb, e⟩ := e
  obtain ⟨o, d, h1, h2⟩ := T a b v e
  have h2 : o = _ := h2
  subst h2
  exact ⟨[enc a, enc b], by rw [ea, eb]; rfl, rfl, d, h1⟩
theorem v_callC2 {Aa Ab : Type} [Enc Aa] [Enc Ab] [Sca ρ]  {fa fb : DS → Option (RV × DS)} {ma : Option Aa} {mb : Option Ab} {g : DS → Option DR} {m : Aa → Ab → Option ρ} (T : ∀ a b v, m a b = some v → DRel RtC v (g (shs [enc a, enc b]))) (ha : ExS ps fa ma) (hb : ExS ps fb mb) : ExC ps (fCall 2 g (fCons fa (fCons fb fNil))) (ma.bind fun a => (mb.bind fun b => m a b)) :=
 v_callGC (a_cS ha (a_cS hb a_nS)) fun v e => by
  simp only [Option.bind_eq_some_iff] at e
  obtain ⟨a, ea, b, eb, e⟩ := e
  obtain ⟨o, d, h1, h2⟩ := T a b v e
  have h2 : o = _ := h2
  subst h2
  exact ⟨[enc a, enc b], by rw [ea, eb]; rfl, rfl, d, h1⟩
theorem v_callS3 {Aa Ab Ac : Type} [Enc Aa] [Enc Ab] [Enc Ac] [Sca ρ]  {fa fb fc : DS → Option (RV × DS)} {ma : Option Aa} {mb : Option Ab} {mc : Option Ac} {g : DS → Option DR} {m : Aa → Ab → Ac → Option (List ρ)} (T : ∀ a b c v, m a b c = some v → DRel RtF v (g (shs [enc a, enc b, enc c]))) (ha : ExS ps fa ma) (hb : ExS ps fb mb) (hc : ExS ps fc mc) : ExF ps (fCall 3 g (fCons fa (fCons fb (fCons fc fNil)))) (ma.bind fun a => (mb.bind fun b => (mc.bind fun c => m a b c))) :=
 v_callGS (a_cS ha (a_cS hb (a_cS hc a_nS))) fun v e => by
  simp only [Option.bind_eq_some_iff] at e
  obtain ⟨a, ea, b, eb, c, ec, e⟩ := e
  obtain ⟨o, d, h1, h2⟩ := T a b c v e
  have h2 : o = _ := h2
  subst h2
  exact ⟨[enc a, enc b, enc c], by rw [ea, eb, ec]; rfl, rfl, d, h1⟩
end
end Ty
set_option Elab.async false
set_option linter.all false
set_option maxRecDepth 100000
namespace Ty
open PySem PySem.Spec L2 Fx
section
variable {α ρ ν τ : Type} [Enc τ] {ps : List SP} {f fe : DS → Option (RV × DS)} {s g h : DS → Option Out} {Jn : ν → List SP} {J : α → List SP} {Jx : List SP} {R : ρ → OV → DS → Prop}
theorem b_skip {m : Option (TO ν α ρ)} (k : Bk ps g m Jn J Jx R) : Bk ps (fSeq fNext g) m Jn J Jx R := k
end
end Ty
set_option Elab.async false
set_option linter.all false
set_option maxRecDepth 100000
namespace Ty
open PySem PySem.Spec L2 Fx
section
variable {α β γ τ σ ρ ν μ : Type} [Enc τ] [Enc σ]
variable {ps : List SP} {fx : DS → Option ((RV × DS) ⊕ (Str × DS))} {s g a b : DS → Option Out}
 {Jn : ν → List SP} {J : α → List SP} {Jx : List SP} {R : ρ → OV → DS → Prop}
def retO (m : Option (ρ ⊕ Str)) : Option (TO ν α ρ) := bindX m fun v => some (.ret v)
def tryT (x : Str) (m n : Option (TO ν α ρ)) : Option (TO ν α ρ) := m.bind fun o => match o with
 | .ex y => if y = x then n.bind fun o => match o with
  | .ex _ => none
  | o => some o else none
 | o => some o
end
end Ty
namespace Ty
open PySem PySem.Spec L2 Fx
end Ty
set_option Elab.async false
set_option linter.all false
set_option maxRecDepth 100000
namespace Ty
open PySem PySem.Spec L2 Fx
section
variable {α β γ τ σ ρ ν μ : Type}
def W (m : Option α) (Q : α → Prop) : Prop := ∃ a, m = some a ∧ Q a
theorem W_some {a : α} {Q : α → Prop} : W (some a) Q ↔ Q a := ⟨fun ⟨_, e, q⟩ => by cases e; exact q, fun q => ⟨a, rfl, q⟩⟩
theorem W_none {Q : α → Prop} : W (none : Option α) Q ↔ False := ⟨fun ⟨_, e, _⟩ => (nomatch e), fun h => h.elim⟩
theorem W_bind {m : Option α} {k : α → Option β} {Q : β → Prop} : W (m.bind k) Q ↔ W m fun a => W (k a) Q := by
 constructor
 ·rintro ⟨b, e, q⟩
  rw [Option.bind_eq_some_iff] at e
  obtain ⟨a, e1, e2⟩ := e
  exact ⟨a, e1, b, e2, q⟩
 ·rintro ⟨a, e1, b, e2, q⟩
  exact ⟨b, by rw [Option.bind_eq_some_iff]; exact ⟨a, e1, e2⟩, q⟩
theorem W_map {m : Option α} {k : α → β} {Q : β → Prop} : W (m.map k) Q ↔ W m fun a => Q (k a) := by
 cases m with
 | none => simp [W_none]
 | some a => simp [W_some]
theorem W_ite {c : Prop} [Decidable c] {a b : Option α} {Q : α → Prop} : W (if c then a else b) Q ↔ (if c then W a Q else W b Q) := by split <;> rfl
theorem W_mono {m : Option α} {P Q : α → Prop} (h : W m P) (k : ∀ a, P a → Q a) : W m Q := let ⟨a, e, p⟩ := h; ⟨a, e, k a p⟩
theorem W_eq {m : Option α} {a : α} {Q : α → Prop} (h : m = some a) (q : Q a) : W m Q := ⟨a, h, q⟩
theorem W_of {m : Option α} {a : α} (h : W m fun x => x = a) : m = some a := by obtain ⟨b, e, rfl⟩ := h; exact e
theorem W_sub {a b : Int} {Q : Int → Prop} : W (subN a b) Q ↔ Q (a - b) := W_some
theorem W_mul {a b : Int} {Q : Int → Prop} : W (mulN a b) Q ↔ mulOk a b = true ∧ Q (a * b) := by
 unfold mulN; rw [W_ite, W_some, W_none]; split <;> simp [*]
theorem W_fdiv {a b : Int} {Q : Int → Prop} : W (fdivN a b) Q ↔ cFd a b = true ∧ Q (a.fdiv b) := by
 unfold fdivN; rw [W_ite, W_some, W_none]; split <;> simp [*]
theorem W_mod {a b : Int} {Q : Int → Prop} : W (modN a b) Q ↔ b ≠ 0 ∧ Q (a.fmod b) := by
 unfold modN; rw [W_ite, W_some, W_none]
 by_cases h : b = 0
 ·have : cNz a b = false := by simp [cNz, h]
  rw [this]
  simp [h]
 ·have : cNz a b = true := by simp [cNz, h]
  rw [this]
  simp [h]
theorem W_fdivZ {a b : Int} {Q : Int → Prop} : W (fdivZ a b) Q ↔ b ≠ 0 ∧ Q (a.fdiv b) := by
 unfold fdivZ; rw [W_ite, W_some, W_none]
 by_cases h : b = 0
 ·have : cNz a b = false := by simp [cNz, h]
  rw [this]
  simp [h]
 ·have : cNz a b = true := by simp [cNz, h]
  rw [this]
  simp [h]
theorem W_pow {a b : Int} {Q : Int → Prop} : W (powN a b) Q ↔ cPow a b = true ∧ Q (a ^ b.toNat) := by
 unfold powN; rw [W_ite, W_some, W_none]; split <;> simp [*]
theorem W_app {l : List τ} {v : τ} {Q : List τ → Prop} : W (appN l v) Q ↔ l.length ≤ 1000000 ∧ Q (l ++ [v]) := by
 unfold appN; rw [W_ite, W_some, W_none]; split <;> simp [*]
theorem W_cat {a b : List τ} {Q : List τ → Prop} : W (catN a b) Q ↔ a.length + b.length ≤ 1000000 ∧ Q (a ++ b) := by
 unfold catN; rw [W_ite, W_some, W_none]; split <;> simp [*]
theorem W_len {l : List τ} {Q : List τ → Prop} : W (lenN l) Q ↔ l.length ≤ 1000000 ∧ Q l := by
 unfold lenN; rw [W_ite, W_some, W_none]; split <;> simp [*]
theorem W_rg1 {j : Int} {Q : List Int → Prop} : W (range1N j) Q ↔ small62 j = true ∧ Q (rangeL 0 j) := by
 unfold range1N; rw [W_ite, W_some, W_none]; split <;> simp [*]
theorem W_rg2 {i j : Int} {Q : List Int → Prop} : W (range2N i j) Q ↔ (small62 i = true ∧ small62 j = true) ∧ Q (rangeL i j) := by
 unfold range2N; rw [W_ite, W_some, W_none]; cases small62 i <;> cases small62 j <;> simp
theorem W_rg3 {i j c : Int} {Q : List Int → Prop} : W (range3N i j c) Q ↔ rgOk i j c = true ∧ Q (range3L i j c) := by
 unfold range3N; rw [W_ite, W_some, W_none]; split <;> simp [*]
theorem W_set {l : List τ} {k : Int} {v : τ} {Q : List τ → Prop} : W (setN l k v) Q ↔ W (ixN l.length k) fun j => Q (l.set j v) := W_map
theorem W_rep [Enc τ] {l : List τ} {j : Int} {Q : List τ → Prop} : W (repN l j) Q ↔ repOk (l.map enc) j = true ∧ Q (List.replicate j.toNat l).flatten := by
 unfold repN; rw [W_ite, W_some, W_none]; split <;> simp [*]
theorem W_band {a b : Int} {Q : Int → Prop} : W (bandN a b) Q ↔ Q (Builtin.bitAnd a b) := W_some
theorem W_bor {a b : Int} {Q : Int → Prop} : W (borN a b) Q ↔ Q (Builtin.bitOr a b) := W_some
theorem W_seq {m : Option (TO μ α ρ)} {k : μ → Option (TO ν α ρ)} {Q : TO ν α ρ → Prop} : W (seqT m k) Q ↔ W m fun o => match o with
  | .nx b => W (k b) Q
  | .ct a => Q (.ct a)
  | .bk a => Q (.bk a)
  | .ret r => Q (.ret r)
  | .ex x => Q (.ex x) := by
 unfold seqT
 rw [W_bind]
 constructor
 ·refine fun h => W_mono h fun o q => ?_
  cases o with
  | nx b => exact q
  | ct a => exact (W_some (Q := Q)).mp q
  | bk a => exact (W_some (Q := Q)).mp q
  | ret r => exact (W_some (Q := Q)).mp q
  | ex r => exact (W_some (Q := Q)).mp q
 ·refine fun h => W_mono h fun o q => ?_
  cases o with
  | nx b => exact q
  | ct a => exact (W_some (Q := Q)).mpr q
  | bk a => exact (W_some (Q := Q)).mpr q
  | ret r => exact (W_some (Q := Q)).mpr q
  | ex r => exact (W_some (Q := Q)).mpr q
theorem W_ret {m : Option (TO Unit Unit ρ)} {Q : ρ → Prop} : W (retT m) Q ↔ W m fun o => match o with
  | .ret r => Q r
  | _ => False := by
 unfold retT
 rw [W_bind]
 constructor
 ·refine fun h => W_mono h fun o q => ?_
  cases o with
  | ret r => exact (W_some (Q := Q)).mp q
  | _ => exact (W_none (Q := Q)).mp q
 ·refine fun h => W_mono h fun o q => ?_
  cases o with
  | ret r => exact (W_some (Q := Q)).mpr q
  | _ => exact q.elim
theorem W_retU [Enc ρ] {v : ρ} {m : Option (TO Unit Unit ρ)} {Q : ρ → Prop} : W (retU v m) Q ↔ W m fun o => match o with
  | .ret r => Q r
  | .nx _ => Q v
  | _ => False := by
 unfold retU
 rw [W_bind]
 constructor
 ·refine fun h => W_mono h fun o q => ?_
  cases o with
  | ret r => exact (W_some (Q := Q)).mp q
  | nx r => exact (W_some (Q := Q)).mp q
  | _ => exact (W_none (Q := Q)).mp q
 ·refine fun h => W_mono h fun o q => ?_
  cases o with
  | ret r => exact (W_some (Q := Q)).mpr q
  | nx r => exact (W_some (Q := Q)).mpr q
  | _ => exact q.elim
theorem W_retX {m : Option (TO Unit Unit ρ)} {Q : ρ ⊕ Str → Prop} : W (retX m) Q ↔ W m fun o => match o with
  | .ret r => Q (.inl r)
  | .ex x => Q (.inr x)
  | _ => False := by
 unfold retX
 rw [W_bind]
 constructor
 ·refine fun h => W_mono h fun o q => ?_
  cases o with
  | ret r => exact (W_some (Q := Q)).mp q
  | ex r => exact (W_some (Q := Q)).mp q
  | _ => exact (W_none (Q := Q)).mp q
 ·refine fun h => W_mono h fun o q => ?_
  cases o with
  | ret r => exact (W_some (Q := Q)).mpr q
  | ex r => exact (W_some (Q := Q)).mpr q
  | _ => exact q.elim
theorem W_retXU {v : ρ} {m : Option (TO Unit Unit ρ)} {Q : ρ ⊕ Str → Prop} : W (retXU v m) Q ↔ W m fun o => match o with
  | .ret r => Q (.inl r)
  | .nx _ => Q (.inl v)
  | .ex x => Q (.inr x)
  | _ => False := by
 unfold retXU
 rw [W_bind]
 constructor
 ·refine fun h => W_mono h fun o q => ?_
  cases o with
  | ret r => exact (W_some (Q := Q)).mp q
  | nx r => exact (W_some (Q := Q)).mp q
  | ex r => exact (W_some (Q := Q)).mp q
  | _ => exact (W_none (Q := Q)).mp q
 ·refine fun h => W_mono h fun o q => ?_
  cases o with
  | ret r => exact (W_some (Q := Q)).mpr q
  | nx r => exact (W_some (Q := Q)).mpr q
  | ex r => exact (W_some (Q := Q)).mpr q
  | _ => exact q.elim
theorem W_bindX {m : Option (μ ⊕ Str)} {k : μ → Option (TO ν α ρ)} {Q : TO ν α ρ → Prop} : W (bindX m k) Q ↔ W m fun o => match o with
  | .inl v => W (k v) Q
  | .inr x => Q (.ex x) := by
 unfold bindX
 rw [W_bind]
 constructor
 ·refine fun h => W_mono h fun o q => ?_
  cases o with
  | inl r => exact q
  | inr r => exact (W_some (Q := Q)).mp q
 ·refine fun h => W_mono h fun o q => ?_
  cases o with
  | inl r => exact q
  | inr r => exact (W_some (Q := Q)).mpr q
theorem W_retO {m : Option (ρ ⊕ Str)} {Q : TO ν α ρ → Prop} : W (retO m) Q ↔ W m fun o => match o with
  | .inl v => Q (.ret v)
  | .inr x => Q (.ex x) := by
 unfold retO
 rw [W_bindX]
 constructor
 ·refine fun h => W_mono h fun o q => ?_
  cases o with
  | inl r => exact (W_some (Q := Q)).mp q
  | inr r => exact q
 ·refine fun h => W_mono h fun o q => ?_
  cases o with
  | inl r => exact (W_some (Q := Q)).mpr q
  | inr r => exact q
theorem W_noX {m : Option (ρ ⊕ Str)} {Q : ρ → Prop} : W (noX m) Q ↔ W m fun o => match o with
  | .inl v => Q v
  | .inr _ => False := by
 unfold noX
 rw [W_bind]
 constructor
 ·refine fun h => W_mono h fun o q => ?_
  cases o with
  | inl r => exact (W_some (Q := Q)).mp q
  | inr r => exact (W_none (Q := Q)).mp q
 ·refine fun h => W_mono h fun o q => ?_
  cases o with
  | inl r => exact (W_some (Q := Q)).mpr q
  | inr r => exact q.elim
theorem W_try {x : Str} {m n : Option (TO ν α ρ)} {Q : TO ν α ρ → Prop} : W (tryT x m n) Q ↔ W m fun o => match o with
  | .ex y => y = x ∧ W n fun o => match o with
   | .ex _ => False
   | o => Q o
  | o => Q o := by
 unfold tryT
 rw [W_bind]
 have inner : W (n.bind fun o => match o with
  | .ex _ => none
  | o => some o) Q ↔ W n fun o => match o with
   | .ex _ => False
   | o => Q o := by
  rw [W_bind]
  constructor
  ·refine fun h => W_mono h fun o q => ?_
   cases o with
   | ex r => exact (W_none (Q := Q)).mp q
   | _ => exact (W_some (Q := Q)).mp q
  ·refine fun h => W_mono h fun o q => ?_
   cases o with
   | ex r => exact q.elim
   | _ => exact (W_some (Q := Q)).mpr q
 constructor
 ·refine fun h => W_mono h fun o q => ?_
  cases o with
  | ex r =>
   simp only at q
   split at q
   ·rename_i h; exact ⟨h, inner.mp q⟩
   ·exact ((W_none (Q := Q)).mp q).elim
  | _ => exact (W_some (Q := Q)).mp q
 ·refine fun h => W_mono h fun o q => ?_
  cases o with
  | ex r =>
   obtain ⟨h, q⟩ := q
   simp only
   rw [if_pos h]
   exact inner.mpr q
  | _ => exact (W_some (Q := Q)).mpr q
theorem W_for {body : τ → β → Option (TO β β ρ)} {b0 : β} {Q : TO β α ρ → Prop} (I : Nat → β → Prop) : ∀ {l : List τ}, I 0 b0 → (∀ i (h : i < l.length) b, I i b → W (body l[i] b) fun o => match o with
  | .nx b' => I (i + 1) b'
  | .ct b' => I (i + 1) b'
  | .bk b' => Q (.nx b')
  | .ret r => Q (.ret r)
  | .ex x => Q (.ex x)) → (∀ b, I l.length b → Q (.nx b)) → W (forT l body b0) Q := by
 intro l
 induction l generalizing I b0 with
 | nil => intro h0 _ hd; exact ⟨_, rfl, hd _ h0⟩
 | cons v l ih =>
  intro h0 hs hd
  unfold forT
  rw [W_bind]
  refine W_mono (hs 0 (by simp) b0 h0) fun o q => ?_
  cases o with
  | nx b => exact ih (fun i b => I (i + 1) b) q (fun i h b hb => by have := hs (i + 1) (by simpa using h) b hb; simp only [List.getElem_cons_succ] at this; exact this) fun b hb => hd b (by simpa using hb)
  | ct b => exact ih (fun i b => I (i + 1) b) q (fun i h b hb => by have := hs (i + 1) (by simpa using h) b hb; simp only [List.getElem_cons_succ] at this; exact this) fun b hb => hd b (by simpa using hb)
  | bk b => exact ⟨_, rfl, q⟩
  | ret r => exact ⟨_, rfl, q⟩
  | ex r => exact ⟨_, rfl, q⟩
theorem W_mapN {e : α → Option β} {Q : List β → Prop} (R : α → β → Prop) : ∀ {l : List α}, (∀ v ∈ l, W (e v) (R v)) → (∀ r : List β, r.length = l.length → (∀ i (h : i < l.length) (h' : i < r.length), R l[i] r[i]) → Q r) → W (mapN l e) Q := by
 intro l
 induction l generalizing Q with
 | nil => intro _ q; exact ⟨[], rfl, q [] rfl fun i h => by simp at h⟩
 | cons v l ih =>
  intro h q
  unfold mapN
  rw [W_bind]
  refine W_mono (h v (by simp)) fun x hx => ?_
  rw [W_bind]
  refine ih (fun w hw => h w (by simp [hw])) fun r hl hr => ?_
  rw [W_some]
  refine q (x :: r) (by simp [hl]) fun i h1 h2 => ?_
  cases i with
  | zero => exact hx
  | succ i => exact hr i (by simpa using h1) (by simpa using h2)
theorem W_mapF {e : α → Option β} {Q : List β → Prop} (f : α → β) {l : List α} (h : ∀ v ∈ l, W (e v) fun x => x = f v) (q : Q (l.map f)) : W (mapN l e) Q :=
 W_mapN (fun v x => x = f v) h fun r hl hr => by
  have : r = l.map f := List.ext_getElem (by simp [hl]) fun i h1 h2 => by rw [hr i (by simpa using h2) h1]; simp
  rw [this]; exact q
theorem W_ix {l : List α} {k : Int} {Q : α → Prop} (n : Nat) (h0 : k = (n : Int)) (h1 : n < l.length) (q : Q l[n]) : W (ixN l.length k) (fun j => j = n) ∧ W (atI l k) Q := by
 subst h0
 have e : ixN l.length (n : Int) = some n := by unfold ixN; rw [if_pos (by omega), if_pos (by omega)]; simp
 exact ⟨⟨n, e, rfl⟩, ⟨l[n], by unfold atI; rw [e]; simp [h1], q⟩⟩
theorem W_at {l : List α} {k : Int} {Q : α → Prop} (h0 : 0 ≤ k) (h1 : k < l.length) (q : ∀ h : k.toNat < l.length, Q l[k.toNat]) : W (atI l k) Q :=
 (W_ix k.toNat (by omega) (by omega) (q (by omega))).2
theorem W_atN {l : List α} {n : Nat} {Q : α → Prop} (h1 : n < l.length) (q : Q l[n]) : W (atI l (n : Int)) Q := (W_ix n rfl h1 q).2
theorem rangeL_len {i j : Int} : (rangeL i j).length = (j - i).toNat := by unfold rangeL; simp
theorem rangeL_get {i j : Int} {k : Nat} (h : k < (rangeL i j).length) : (rangeL i j)[k] = i + (k : Int) := by
 have e : (rangeL i j)[k]? = some (i + (k : Int)) := by
  rw [rangeL_len] at h
  unfold rangeL; simp [h]
 rw [List.getElem?_eq_getElem h] at e
 exact Option.some.inj e
end
theorem fmod_pos {a b : Int} (h : 0 < b) : 0 ≤ a.fmod b ∧ a.fmod b < b := ⟨Int.fmod_nonneg_of_pos a h, Int.fmod_lt_of_pos a h⟩
theorem mul_ok {i j : Int} {a b : Nat} (ha : i.natAbs < 2 ^ a) (hb : j.natAbs < 2 ^ b) (h : a + b ≤ 134217728) : mulOk i j = true := mulOk_of (mulx_ok ha hb h)
theorem mul_64 {i j : Int} (ha : i.natAbs < 1000000000000000000000000000000) (hb : j.natAbs < 1000000000000000000000000000000) : mulOk i j = true := mul_ok (a := 100) (b := 100) (by omega) (by omega) (by omega)
theorem pow_ok {i j : Int} (h0 : 0 ≤ j) (h1 : j ≤ 1000000) (h2 : i.natAbs < 18446744073709551616) : cPow i j = true := yes_of ⟨h0, h1, h2⟩
theorem sm62 {i : Int} (h : -1000000000000 ≤ i) (h2 : i ≤ 1000000000000) : small62 i = true := yes_of (by omega)
theorem rep1_ok {α : Type} [Enc α] {a : α} {j : Int} (h : -1000000 ≤ j) (h2 : j ≤ 1000000) : repOk ([a].map enc) j = true := repOk_of ⟨h2, by simp, h⟩
theorem rep1 {α : Type} (a : α) (n : Nat) : (List.replicate n [a]).flatten = List.replicate n a := by
 induction n with
 | zero => rfl
 | succ n ih => simp [List.replicate_succ, ih]
def Lt (k : Nat) (v : List Int) : Prop := ∀ i ∈ v, i.natAbs < 2 ^ k
theorem Lt.mono {k m : Nat} {v : List Int} (h : Lt k v) (hk : k ≤ m) : Lt m v := fun i hi => Nat.lt_of_lt_of_le (h i hi) (Nat.pow_le_pow_right (by omega) hk)
section
variable {α β γ δ ε : Type} [Enc α] [Enc β] [Enc γ] [Enc δ] [Enc ε]
class Dep (α : Type) [Enc α] where
 n : Nat
 le : ∀ a : α, (enc a).depth ≤ n
instance : Dep Int := ⟨0, fun _ => Nat.le_refl _⟩
instance : Dep Bool := ⟨0, fun _ => Nat.le_refl _⟩
instance : Dep Unit := ⟨0, fun _ => Nat.le_refl _⟩
theorem depthAll_le {n : Nat} : ∀ {ds : List D}, (∀ d ∈ ds, d.depth ≤ n) → PyData.depthAll ds ≤ n
 | [], _ => Nat.zero_le _
 | d :: ds, h => by
  have h1 := h d (by simp)
  have h2 := depthAll_le (ds := ds) fun x hx => h x (by simp [hx])
  simp only [PyData.depthAll]
  omega
instance [Dep α] : Dep (List α) := ⟨Dep.n α + 1, fun l => by
 show PyData.depthAll (l.map enc) + 1 ≤ _
 have := depthAll_le (n := Dep.n α) (ds := l.map enc) fun d hd => by
  obtain ⟨a, _, rfl⟩ := List.mem_map.mp hd
  exact Dep.le a
 omega⟩
instance [Dep α] : Dep (Option α) := ⟨Dep.n α, fun o => by
 cases o with
 | none => exact Nat.zero_le _
 | some a => exact Dep.le a⟩
instance [Dep α] [Dep β] : Dep (T2 α β) := ⟨max (Dep.n α) (Dep.n β) + 1, fun t => by
 show PyData.depthAll [enc t.a, enc t.b] + 1 ≤ _
 have h1 := Dep.le t.a
 have h2 := Dep.le t.b
 simp only [PyData.depthAll]
 omega⟩
instance [Dep α] [Dep β] : Dep (H2 α β) := ⟨max (Dep.n α) (Dep.n β) + 1, fun t => by
 show PyData.depthAll [enc t.a, enc t.b] + 1 ≤ _
 have h1 := Dep.le t.a
 have h2 := Dep.le t.b
 simp only [PyData.depthAll]
 omega⟩
instance [Dep α] [Dep β] [Dep γ] : Dep (T3 α β γ) := ⟨max (Dep.n α) (max (Dep.n β) (Dep.n γ)) + 1, fun t => by
 show PyData.depthAll [enc t.a, enc t.b, enc t.c] + 1 ≤ _
 have h1 := Dep.le t.a
 have h2 := Dep.le t.b
 have h3 := Dep.le t.c
 simp only [PyData.depthAll]
 omega⟩
instance [Dep α] [Dep β] [Dep γ] [Dep δ] [Dep ε] : Dep (T5 α β γ δ ε) := ⟨max (Dep.n α) (max (Dep.n β) (max (Dep.n γ) (max (Dep.n δ) (Dep.n ε)))) + 1, fun t => by
 show PyData.depthAll [enc t.a, enc t.b, enc t.c, enc t.d, enc t.e] + 1 ≤ _
 have h1 := Dep.le t.a
 have h2 := Dep.le t.b
 have h3 := Dep.le t.c
 have h4 := Dep.le t.d
 have h5 := Dep.le t.e
 simp only [PyData.depthAll]
 omega⟩
class DEq (α : Type) [Enc α] where
 lay : ∀ a : α, (enc a).canLay0 = true
 iff : ∀ a b : α, PyData.eqv (enc a) (enc b) = true ↔ a = b
instance : DEq Int := ⟨fun _ => rfl, fun a b => by simp [enc, Enc.en, PyData.eqv]⟩
instance : DEq Bool := ⟨fun _ => rfl, fun a b => by simp [enc, Enc.en, PyData.eqv]⟩
theorem canLays [DEq α] : ∀ l : List α, PyData.canLayAll0 (l.map enc) = true
 | [] => rfl
 | a :: l => by
  have h := canLays l
  have h2 := DEq.lay a
  simp only [List.map_cons, PyData.canLayAll0, h, h2, Bool.and_self]
theorem eqvs [DEq α] : ∀ l m : List α, PyData.eqvAll (l.map enc) (m.map enc) = true ↔ l = m
 | [], [] => by simp [PyData.eqvAll]
 | [], b :: m => by simp [PyData.eqvAll]
 | a :: l, [] => by simp [PyData.eqvAll]
 | a :: l, b :: m => by
  have h := eqvs l m
  have h2 := DEq.iff a b
  simp only [List.map_cons, PyData.eqvAll, Bool.and_eq_true, h, h2, List.cons.injEq]
instance [DEq α] : DEq (List α) := ⟨fun l => canLays l, fun l m => eqvs l m⟩
instance [DEq α] [NoNone α] : DEq (Option α) := ⟨fun o => by
 cases o with
 | none => rfl
 | some a => exact DEq.lay a, fun o p => by
 cases o with
 | none =>
  cases p with
  | none => simp [enc, Enc.en, PyData.eqv]
  | some b =>
   have h := NoNone.no b
   show PyData.eqv .none (enc b) = true ↔ _
   revert h
   cases enc b <;> simp [PyData.eqv, isNd]
 | some a =>
  cases p with
  | none =>
   have h := NoNone.no a
   show PyData.eqv (enc a) .none = true ↔ _
   revert h
   cases enc a <;> simp [PyData.eqv, isNd]
  | some b =>
   show PyData.eqv (enc a) (enc b) = true ↔ _
   rw [DEq.iff, Option.some.injEq]⟩
instance [DEq α] [DEq β] : DEq (T2 α β) := ⟨fun t => by
 show PyData.canLayAll0 [enc t.a, enc t.b] = true
 simp [PyData.canLayAll0, DEq.lay], fun t u => by
 show PyData.eqvAll [enc t.a, enc t.b] [enc u.a, enc u.b] = true ↔ _
 cases t; cases u
 simp [PyData.eqvAll, DEq.iff]⟩
instance [DEq α] [DEq β] : DEq (H2 α β) := ⟨fun t => by
 show PyData.canLayAll0 [enc t.a, enc t.b] = true
 simp [PyData.canLayAll0, DEq.lay], fun t u => by
 show PyData.eqvAll [enc t.a, enc t.b] [enc u.a, enc u.b] = true ↔ _
 cases t; cases u
 simp [PyData.eqvAll, DEq.iff]⟩
instance [DEq α] [DEq β] [DEq γ] : DEq (T3 α β γ) := ⟨fun t => by
 show PyData.canLayAll0 [enc t.a, enc t.b, enc t.c] = true
 simp [PyData.canLayAll0, DEq.lay], fun t u => by
 show PyData.eqvAll [enc t.a, enc t.b, enc t.c] [enc u.a, enc u.b, enc u.c] = true ↔ _
 cases t; cases u
 simp [PyData.eqvAll, DEq.iff]⟩
instance [DEq α] [DEq β] [DEq γ] [DEq δ] [DEq ε] : DEq (T5 α β γ δ ε) := ⟨fun t => by
 show PyData.canLayAll0 [enc t.a, enc t.b, enc t.c, enc t.d, enc t.e] = true
 simp [PyData.canLayAll0, DEq.lay], fun t u => by
 show PyData.eqvAll [enc t.a, enc t.b, enc t.c, enc t.d, enc t.e] [enc u.a, enc u.b, enc u.c, enc u.d, enc u.e] = true ↔ _
 cases t; cases u
 simp [PyData.eqvAll, DEq.iff]⟩
noncomputable def eqB (a b : α) : Bool := yes (a = b)
theorem eqB_iff {a b : α} : eqB a b = true ↔ a = b := ⟨of_yes, yes_of⟩
theorem eqB_self {a : α} : eqB a a = true := yes_of rfl
theorem eqB_ne {a b : α} (h : a ≠ b) : eqB a b = false := by
 cases hb : eqB a b with
 | false => rfl
 | true => exact absurd (eqB_iff.mp hb) h
theorem eqv_eqB [DEq α] (a b : α) : PyData.eqv (enc a) (enc b) = eqB a b := by
 by_cases h : a = b
 ·rw [(DEq.iff a b).mpr h, eqB_iff.mpr h]
 ·rw [eqB_ne h]
  cases hb : PyData.eqv (enc a) (enc b) with
  | false => rfl
  | true => exact absurd ((DEq.iff a b).mp hb) h
theorem shaped_t [DEq α] [d : Dep α] (h : d.n ≤ 64) (a : α) : SeqAt.shaped (enc a) = true := by
 unfold SeqAt.shaped
 rw [DEq.lay a, decide_eq_true (Nat.le_trans (Dep.le a) h)]
 rfl
theorem W_neT [DEq α] [d : Dep α] (h : d.n ≤ 64) {a b : α} {Q : Bool → Prop} : W (neN a b) Q ↔ Q (!eqB a b) := by
 unfold neN
 rw [shaped_t h, shaped_t h, eqv_eqB]
 exact W_some
end
theorem W_eqI {a b : Int} {Q : Bool → Prop} : W (eqN a b) Q ↔ Q (a == b) := by
 have e : eqN a b = some (a == b) := rfl
 rw [e]; exact W_some
theorem W_neI {a b : Int} {Q : Bool → Prop} : W (neN a b) Q ↔ Q (!(a == b)) := by
 have e : neN a b = some (!(a == b)) := rfl
 rw [e]; exact W_some
theorem W_eqBo {a b : Bool} {Q : Bool → Prop} : W (eqN a b) Q ↔ Q (a == b) := by
 have e : eqN a b = some (a == b) := rfl
 rw [e]; exact W_some
theorem W_neBo {a b : Bool} {Q : Bool → Prop} : W (neN a b) Q ↔ Q (!(a == b)) := by
 have e : neN a b = some (!(a == b)) := rfl
 rw [e]; exact W_some
end Ty
set_option Elab.async false
set_option linter.all false
set_option maxRecDepth 100000
namespace Ty
open PySem PySem.Spec L2 Fx
section
variable {α β : Type} [Enc α] {ps : List SP} {fa fb : DS → Option (RV × DS)}
inductive Caps (ps : List SP) : List Nat → List D → Prop
 | nil : Caps ps [] []
 | cons {j : Nat} {js : List Nat} {d : D} {ds : List D} : ps[j]? = some (sh d) → Caps ps js ds → Caps ps (j :: js) (d :: ds)
theorem Caps.ok {ds : DS} (S : Ss ps ds) : ∀ {js : List Nat} {cv : List D}, Caps ps js cv → capV ds js = some cv
 | _, _, .nil => rfl
 | _, _, .cons h t => by
  obtain ⟨x, e, k⟩ := S.get h
  have k : x = some (.sh _) := k
  subst k
  simp only [capV, e, Caps.ok S t, Option.map_some]
theorem v_unopt {m : Option (Option α)} (h : ExC ps fa m) : ExC ps fa (m.bind fun o => o) := by
 intro v e ds S
 simp only [Option.bind_eq_some_iff] at e
 obtain ⟨o, e1, e2⟩ := e
 subst e2
 exact h (some v) e1 ds S
end
end Ty
set_option Elab.async false
set_option linter.all false
set_option maxRecDepth 100000
namespace Ty
open PySem PySem.Spec L2 Fx
end Ty
set_option Elab.async false
set_option linter.all false
set_option maxRecDepth 100000
namespace Ty
open PySem PySem.Spec L2 Fx
end Ty
set_option Elab.async false
set_option linter.all false
set_option maxRecDepth 100000
namespace Ty
open PySem PySem.Spec L2 Fx
section
variable {ps : List SP} {fa fb fc : DS → Option (RV × DS)}
theorem v_min2 {ma mb : Option Int} (ha : ExS ps fa ma) (hb : ExS ps fb mb) : ExC ps (fCa (g2I fun i j => if j < i then j else i) (fCons fa (fCons fb fNil))) (ma.bind fun a => mb.bind fun b => some (if b < a then b else a)) := v_ca2 (fun a b => some (if b < a then b else a)) (fun a b v h => by cases h; rfl) ha hb
variable {α : Type} [Enc α]
end
end Ty
set_option Elab.async false
set_option linter.all false
set_option maxRecDepth 100000
namespace Ty
open PySem PySem.Spec L2 Fx
def ow (d : D) : SP := fun x => x = some (nrm d)
section
variable {α β γ τ σ ρ ν μ : Type} [Enc α] [Enc β] [Enc γ] [Enc τ] [Enc σ] [Enc ρ]
variable {ps ps' : List SP} {f fa fb fc fe fk : DS → Option (RV × DS)} {ft : DS → Option (Bool × DS)} {fr : DS → Option (List RV × DS)} {g : DS → Option Out} {gd : DS → Option DR}
def RtO (r : ρ) (o : OV) : Prop := o = nrm (enc r)
theorem all_isSc [Sca α] (v : List α) : (v.map enc).all isSc = true := by
 rw [List.all_map, List.all_eq_true]
 intro a _
 exact Sca.sc a
theorem rtC_own [Sca ρ] (v : ρ) (o : OV) (h : RtC v o) : o.own?.isSome = true := by
 have h : o = .sh (enc v) := h
 rw [h]
 show (if isSc (enc v) then some (enc v) else none).isSome = true
 rw [if_pos (Sca.sc v)]; rfl
def ExM (ps ps' : List SP) (f : DS → Option (RV × DS)) (m : Option τ) : Prop := ∀ v, m = some v → ∀ ds, Ss ps ds → ∃ ds', f ds = some (.ov (nrm (enc v)), ds') ∧ Ss ps' ds'
variable {Jn : ν → List SP} {J : β → List SP} {Jx : List SP}
theorem ExM.s {m : Option τ} (h : ExM ps ps f m) : ExS ps f m := fun v e ds S => let ⟨d, a, b⟩ := h v e ds S; ⟨_, d, a, b, .inl ⟨_, rfl, nrm_view _⟩⟩
theorem ExM.v {m : Option τ} (h : ExM ps ps f m) : ExV ps f m := fun v e ds S => let ⟨d, a, b⟩ := h v e ds S; ⟨_, d, a, b, .inl ⟨_, rfl, nrm_view _⟩⟩
theorem b_setO (i : Nat) {R : σ → OV → DS → Prop} {me : Option τ} {k : τ → Option (TO ν β σ)} (he : ExM ps ps' fe me) (hg : ∀ v, Bk (ps'.set i (ow (enc v))) g (k v) Jn J Jx R) : Bk ps (fSeq (fSet i fe) g) (me.bind k) Jn J Jx R := by
 intro o e ds S
 simp only [Option.bind_eq_some_iff] at e
 obtain ⟨v, e1, e2⟩ := e
 obtain ⟨d1, k1, S1⟩ := he v e1 ds S
 obtain ⟨out, k3, rl⟩ := hg v o e2 _ (S1.set i (x := some (nrm (enc v))) rfl)
 exact ⟨out, by simp only [fSeq, fSet, k1, bindSome, k3], rl⟩
theorem v_callGO {n : Nat} {mr : Option (List D)} {m : Option ρ} (ha : ArS ps fr mr) (hm : ∀ v, m = some v → ∃ l, mr = some l ∧ l.length = n ∧ ∃ d, gd (shs l) = some (.ret (nrm (enc v)) d)) : ExM ps ps (fCall n gd fr) m := by
 intro v e ds S
 obtain ⟨l, h1, h2, dd, h3⟩ := hm v e
 obtain ⟨rs, d1, k1, S1, q1⟩ := ha l h1 ds S
 have s1 := sees_of S1 q1
 have ho : (nrm (enc v)).own?.isSome = true := by rw [nrm_own]; rfl
 refine ⟨d1, ?_, S1⟩
 simp only [fCall, k1, bindSome, s1, h3]
 rw [if_pos h2, if_pos ho]
theorem v_callO2 {ma : Option α} {mb : Option β} {m : α → β → Option ρ} (T : ∀ a b v, m a b = some v → DRel RtO v (gd (shs [enc a, enc b]))) (ha : ExS ps fa ma) (hb : ExS ps fb mb) : ExM ps ps (fCall 2 gd (fCons fa (fCons fb fNil))) (ma.bind fun a => mb.bind fun b => m a b) :=
 v_callGO (a_cS ha (a_cS hb a_nS)) fun v e => by
  simp only [Option.bind_eq_some_iff] at e
  obtain ⟨a, ea, b, eb, e⟩ := e
  obtain ⟨o, d, h1, h2⟩ := T a b v e
  have h2 : o = _ := h2
  subst h2
  exact ⟨[enc a, enc b], by rw [ea, eb]; rfl, rfl, d, h1⟩
end
inductive Kd where
 | sh (d : D)
 | shS (d : D) (h : isSc d = true)
 | flS (l : List D) (h : l.all isSc = true)
 | ow (d : D)
 | n
def Kd.sp : Kd → SP
 | .sh d => Ty.sh d
 | .shS d _ => Ty.sh d
 | .flS l _ => fl l
 | .ow d => Ty.ow d
 | .n => isN
def Kd.vl : Kd → Option OV
 | .sh d => some (.sh d)
 | .shS d _ => some (.sh d)
 | .flS l _ => some (.flat l)
 | .ow d => some (nrm d)
 | .n => none
def Kd.cl : Kd → Bool
 | .sh _ => false
 | _ => true
theorem Kd.ok (k : Kd) : ∀ x, k.sp x → x = k.vl := fun x h => by
 cases k <;> exact h
theorem kds_ok : ∀ {ks : List Kd} {ds : DS}, Ss (ks.map Kd.sp) ds → ds = ks.map Kd.vl
 | [], [], _ => rfl
 | k :: ks, x :: xs, h => by rw [List.map_cons, Kd.ok k x h.1, kds_ok h.2]
 | [], _ :: _, h => h.elim
 | _ :: _, [], h => h.elim
inductive Cl (T : List Nat) (i : Nat) : Nat → List Kd → List Kd → Prop
 | nil {j : Nat} : Cl T i j [] []
 | c {j : Nat} {k k' : Kd} {ks ks' : List Kd} : k'.cl = true → Cl T i (j + 1) ks ks' → Cl T i j (k :: ks) (k' :: ks')
 | k {j : Nat} {d : D} {ks ks' : List Kd} : j ∉ T → Cl T i (j + 1) ks ks' → Cl T i j (.sh d :: ks) (.sh d :: ks')
 | i {j : Nat} {k k' : Kd} {ks ks' : List Kd} : j = i → Cl T i (j + 1) ks ks' → Cl T i j (k :: ks) (k' :: ks')
theorem Cl.ok {T : List Nat} {i : Nat} : ∀ {j : Nat} {ks ks' : List Kd}, Cl T i j ks ks' → ∀ (m : Nat) (o : OV), j + m ≠ i → (ks'.map Kd.vl)[m]? = some (some o) → o.own?.isSome = true ∨ (j + m ∉ T ∧ (ks.map Kd.vl)[m]? = some (some o) ∧ ∃ d, o = .sh d)
 | _, _, _, .nil, m, o, _, e => by simp at e
 | j, _, _, .c (k' := k') h t, 0, o, _, e => by
  simp at e
  cases k' with
  | sh d => cases h
  | shS d hd =>
   have e : OV.sh d = o := by simpa [Kd.vl] using e
   subst e
   left
   show (if isSc d then some d else none).isSome = true
   rw [if_pos hd]; rfl
  | flS l hl =>
   have e : OV.flat l = o := by simpa [Kd.vl] using e
   subst e
   left
   show (if l.all isSc then some (PyData.list l) else none).isSome = true
   rw [if_pos hl]; rfl
  | ow d =>
   have e : nrm d = o := by simpa [Kd.vl] using e
   subst e
   left
   rw [nrm_own]; rfl
  | n => simp [Kd.vl] at e
 | j, _, _, .k (d := d) h t, 0, o, _, e => by
  have e : OV.sh d = o := by simpa [Kd.vl] using e
  subst e
  exact .inr ⟨h, by simp [Kd.vl], d, rfl⟩
 | j, _, _, .i h t, 0, o, n, e => absurd h n
 | j, _, _, .c h t, m + 1, o, n, e => by
  have := Cl.ok t m o (by omega) (by simpa using e)
  have e1 : j + 1 + m = j + (m + 1) := by omega
  rw [e1] at this
  simpa using this
 | j, _, _, .k h t, m + 1, o, n, e => by
  have := Cl.ok t m o (by omega) (by simpa using e)
  have e1 : j + 1 + m = j + (m + 1) := by omega
  rw [e1] at this
  simpa using this
 | j, _, _, .i h t, m + 1, o, n, e => by
  have := Cl.ok t m o (by omega) (by simpa using e)
  have e1 : j + 1 + m = j + (m + 1) := by omega
  rw [e1] at this
  simpa using this
def setL (ps : List SP) : List (Nat × D) → List SP
 | [] => ps
 | p :: r => (setL ps r).set p.1 (sh p.2)
inductive Fzs (ps : List SP) : List (Nat × D) → Prop
 | nil : Fzs ps []
 | cons {j : Nat} {d : D} {r : List (Nat × D)} {p : SP} : (setL ps r)[j]? = some p → (∀ x, p x → vw d x) → Fzs ps r → Fzs ps ((j, d) :: r)
theorem Fzs.ok {ps : List SP} {ds : DS} (S : Ss ps ds) : ∀ {r : List (Nat × D)}, Fzs ps r → Ss (setL ps r) (frzL ds (r.map Prod.fst))
 | _, .nil => S
 | _, .cons (j := j) (d := d) e h t => by
  have S1 := t.ok S
  obtain ⟨x, x1, x2⟩ := S1.get e
  obtain ⟨o, rfl, ho⟩ := h x x2
  show Ss ((setL ps _).set j (sh d)) (frzL ds (j :: _))
  unfold frzL
  rw [x1]
  exact S1.set j (by rw [ho]; rfl)
def borT {μ α ρ : Type} (m : Option (TO μ α ρ)) : Option (TO μ α ρ) := m.bind fun o => match o with
 | .nx b => some (.nx b)
 | .ret r => some (.ret r)
 | _ => none
section
variable {α ρ ν μ : Type} {ps : List SP} {g f : DS → Option Out} {Jn : ν → List SP} {J J' : α → List SP} {Jx Jx' : List SP} {R : ρ → OV → Prop}
theorem b_bor {fz fg fo T : List Nat} {d : D} {Jm : μ → List SP} {m1 : Option (TO μ α ρ)} {k : μ → Option (TO ν α ρ)} (i : Nat) (fzs : List (Nat × D)) (kds : List Kd) (kds' : μ → List Kd) (hz : Fzs ps fzs) (h : Bk ((kds.map Kd.sp).set i (sh d)) f m1 Jm J' Jx' (li R)) (hcl : ∀ b, Cl T i 0 kds (kds' b)) (hR : ∀ v o, R v o → o.own?.isSome = true) (hg : ∀ b, Bk (((kds' b).map Kd.sp).set i (ow d)) g (k b) Jn J Jx (li R))
  (hk : wipeP (setL ps fzs) fg = kds.map Kd.sp := by rfl) (hi : kds[i]? = some (.ow d) := by rfl) (hk' : ∀ b, wipeP (Jm b) fo = (kds' b).map Kd.sp := by intro _; rfl) (hfz : fzs.map Prod.fst = fz := by rfl) :
  Bk ps (fSeq (fBorS i fz fg fo T f) g) (seqT (borT m1) k) Jn J Jx (li R) := by
 intro o e ds S
 subst hfz
 have SN := (hz.ok S).wipe fg
 rw [hk] at SN
 have eN := kds_ok SN
 have gi : (wipeD (frzL ds (fzs.map Prod.fst)) fg)[i]? = some (some (nrm d)) := by
  rw [eN, List.getElem?_map, hi]; rfl
 simp only [seqT, borT, Option.bind_eq_some_iff] at e
 obtain ⟨o1, ⟨o2, e1, e2⟩, e3⟩ := e
 obtain ⟨out, k1, rl⟩ := h o2 e1 _ (SN.set i (x := some (.sh d)) (p := sh d) rfl)
 cases o2 with
 | nx b =>
  cases e2
  cases out with
  | nx d' =>
   have Sb := Ss.wipe (rl : Ss (Jm b) d') fo
   rw [hk' b] at Sb
   have eb := kds_ok Sb
   have hy : yes (∀ j, j ≠ i → cl T (wipeD (frzL ds (fzs.map Prod.fst)) fg) (wipeD d' fo) j) = true := yes_of fun j hj => by
    unfold cl
    rw [eN, eb]
    split
    ·rename_i o ho
     have := (hcl b).ok j o (by simpa using hj) ho
     simpa using this
    ·trivial
   obtain ⟨out2, k2, rl2⟩ := hg b o e3 _ (Sb.set i (x := some (nrm d)) (p := ow d) rfl)
   refine ⟨out2, ?_, rl2⟩
   simp only [fSeq, fBorS, gi, nrm_own, k1, bindSome, borEnd]
   rw [if_pos hy]
   exact k2
  | _ => exact rl.elim
 | ret r =>
  cases e2
  cases e3
  cases out with
  | ret ro d' =>
   refine ⟨.ret ro ((wipeD d' (List.range d'.length)).set i (some (nrm d))), ?_, rl⟩
   simp only [fSeq, fBorS, gi, nrm_own, k1, bindSome, borEnd]
   rw [if_pos (hR r ro rl)]
   rfl
  | _ => exact rl.elim
 | ct _ => cases e2
 | bk _ => cases e2
 | ex _ => cases e2
theorem W_borT {m : Option (TO μ α ρ)} {Q : TO μ α ρ → Prop} : W (borT m) Q ↔ W m fun o => match o with
  | .nx b => Q (.nx b)
  | .ret r => Q (.ret r)
  | _ => False := by
 unfold borT
 rw [W_bind]
 constructor
 ·refine fun h => W_mono h fun o q => ?_
  cases o with
  | nx b => exact (W_some (Q := Q)).mp q
  | ret b => exact (W_some (Q := Q)).mp q
  | _ => exact (W_none (Q := Q)).mp q
 ·refine fun h => W_mono h fun o q => ?_
  cases o with
  | nx b => exact (W_some (Q := Q)).mpr q
  | ret b => exact (W_some (Q := Q)).mpr q
  | _ => exact q.elim
end
end Ty
set_option Elab.async false
set_option linter.all false
set_option maxRecDepth 100000
namespace Ty
open PySem PySem.Spec L2 Fx
theorem Ss.app : ∀ {ps qs : List SP} {a b : DS}, Ss ps a → Ss qs b → Ss (ps ++ qs) (a ++ b)
 | [], _, [], _, _, h => h
 | p :: ps, _, x :: xs, _, h, k => ⟨h.1, Ss.app h.2 k⟩
 | [], _, _ :: _, _, h, _ => h.elim
 | _ :: _, _, [], _, h, _ => h.elim
theorem Ss.drop : ∀ {ps : List SP} {a : DS} (n : Nat), Ss ps a → Ss (ps.drop n) (a.drop n)
 | _, _, 0, h => h
 | [], [], _ + 1, _ => True.intro
 | _ :: _, _ :: _, n + 1, h => Ss.drop n h.2
 | [], _ :: _, _ + 1, h => h.elim
 | _ :: _, [], _ + 1, h => h.elim
theorem Ss.take : ∀ {ps : List SP} {a : DS} (n : Nat), Ss ps a → Ss (ps.take n) (a.take n)
 | [], [], 0, _ => True.intro
 | _ :: _, _ :: _, 0, _ => True.intro
 | [], [], _ + 1, _ => True.intro
 | _ :: _, _ :: _, n + 1, h => ⟨h.1, Ss.take n h.2⟩
 | [], _ :: _, _, h => h.elim
 | _ :: _, [], _, h => h.elim
section
variable {α β γ τ σ ρ ν μ S : Type} [Enc α] [Enc β] [Enc γ] [Enc τ] [Enc ρ]
variable {ps ps' fs : List SP} {f fa fb fc fe fk : DS → Option (RV × DS)} {ft : DS → Option (Bool × DS)} {fr : DS → Option (List RV × DS)} {g : DS → Option Out} {gd : DS → Option DR}
variable {Jn : ν → List SP} {J : μ → List SP} {Jx : List SP} {R : σ → OV → DS → Prop} {Fs : S → List SP}
def Jm (n : Nat) (Fs : S → List SP) : S → List SP := fun s => List.replicate n an ++ Fs s
end
end Ty
set_option Elab.async false
set_option linter.all false
set_option maxRecDepth 100000
set_option maxHeartbeats 1000000
namespace Ty
open PySem PySem.Spec L2 Fx
structure T0 where
instance : Enc T0 := ⟨fun _ => .tuple []⟩
instance : NoStr T0 := ⟨fun _ _ h => nomatch h⟩
instance : NoNone T0 := ⟨fun _ => rfl⟩
end Ty
set_option Elab.async false
set_option linter.all false
set_option maxRecDepth 100000
set_option maxHeartbeats 1000000
namespace Ty
open PySem PySem.Spec L2 Fx
end Ty
set_option Elab.async false
set_option linter.all false
set_option maxRecDepth 100000
set_option maxHeartbeats 1000000
namespace Ty
open PySem PySem.Spec L2 Fx
structure H3 (α β γ : Type) where (a : α) (b : β) (c : γ)
instance {α β γ : Type} [Enc α] [Enc β] [Enc γ] : Enc (H3 α β γ) := ⟨fun t => .list [enc t.a, enc t.b, enc t.c]⟩
section
variable {α β γ τ σ ρ ν μ : Type} [Enc α] [Enc β] [Enc γ] [Enc τ] [Enc σ] [Enc ρ]
variable {ps ps' : List SP} {fa fb fc : DS → Option (RV × DS)} {a b f g : DS → Option Out}
instance : NoStr (H3 α β γ) := ⟨fun _ _ h => nomatch h⟩
instance : NoNone (H3 α β γ) := ⟨fun _ => rfl⟩
instance [Dep α] [Dep β] [Dep γ] : Dep (H3 α β γ) := ⟨max (Dep.n α) (max (Dep.n β) (Dep.n γ)) + 1, fun t => by
 show PyData.depthAll [enc t.a, enc t.b, enc t.c] + 1 ≤ _
 have h1 := Dep.le t.a
 have h2 := Dep.le t.b
 have h3 := Dep.le t.c
 simp only [PyData.depthAll]
 omega⟩
variable {Jn : ν → List SP} {J : β → List SP} {Jx : List SP}
theorem sim_c {v : τ} : ∀ ds, Ss ps ds → (fun _ : DS => some (enc v)) ds = some (enc v) := fun _ _ => rfl
end
end Ty
set_option Elab.async false
set_option linter.all false
set_option maxRecDepth 100000
set_option maxHeartbeats 1000000
namespace Ty
open PySem PySem.Spec L2 Fx
inductive StepT where
 | wait (p : List Int)
 | jump (k : Int) (p : List Int)
instance : Enc StepT := ⟨fun t => match t with
 | .wait p => .tuple [enc ("wait" : Str), enc p]
 | .jump k p => .tuple [enc ("jump" : Str), enc k, enc p]⟩
def StepT.pt : StepT → List Int
 | .wait p => p
 | .jump _ p => p
instance : NoStr StepT := ⟨fun t _ h => by cases t <;> cases h⟩
instance : NoNone StepT := ⟨fun t => by cases t <;> rfl⟩
end Ty
set_option Elab.async false
set_option linter.all false
set_option maxRecDepth 100000
set_option maxHeartbeats 1000000
namespace Ty
open PySem PySem.Spec L2 Fx
end Ty
set_option Elab.async false
set_option linter.all false
set_option maxRecDepth 100000
namespace Ty
open PySem PySem.Spec L2 Fx
end Ty
set_option Elab.async false
set_option linter.all false
set_option maxRecDepth 100000
set_option maxHeartbeats 1000000
namespace Ty
open PySem PySem.Spec L2 Fx
instance : Enc PyData := ⟨id⟩
end Ty
set_option Elab.async false
set_option linter.all false
set_option maxRecDepth 100000
set_option maxHeartbeats 1000000
namespace Ty
open PySem PySem.Spec L2 Fx
end Ty
set_option Elab.async false
set_option linter.all false
set_option maxRecDepth 100000
set_option maxHeartbeats 1000000
namespace Ty
open PySem PySem.Spec L2 Fx
end Ty
set_option Elab.async false
set_option linter.all false
set_option maxRecDepth 100000
set_option maxHeartbeats 1000000
namespace Ty
open PySem PySem.Spec L2 Fx
end Ty
set_option Elab.async false
set_option linter.all false
set_option maxRecDepth 100000
set_option maxHeartbeats 1000000
namespace Ty
open PySem PySem.Spec L2 Fx
def inlM {α : Type} (m : Option (α ⊕ Str)) : Option α := m.bind fun r => match r with
 | .inl a => some a
 | .inr _ => none
section
variable {α β τ ρ Aa Ab Ac Ax : Type} [Enc α] [Enc β] [Enc τ] [Enc ρ] [Enc Aa] [Enc Ab] [Enc Ac] [Enc Ax]
variable {ps : List SP} {fa fb fc : DS → Option (RV × DS)} {fx : DS → Option ((RV × DS) ⊕ (Str × DS))} {fr : DS → Option ((List RV × DS) ⊕ (Str × DS))} {fi : DS → Option ((List D × DS) ⊕ (Str × DS))}
def ItX (ps : List SP) (f : DS → Option ((List D × DS) ⊕ (Str × DS))) (m : Option (List τ ⊕ Str)) : Prop := ∀ v, m = some v → ∀ ds, Ss ps ds → match v with
 | .inl l => ∃ ds', f ds = some (.inl (l.map enc, ds')) ∧ Ss ps ds'
 | .inr x => ∃ ds', f ds = some (.inr (x, ds')) ∧ Ss ps ds'
theorem ExX.e {m : Option (τ ⊕ Str)} (h : ExX ps fx m (RkV ps)) : ExV ps (inlP fx) (inlM m) := by
 intro v e ds S
 simp only [inlM, Option.bind_eq_some_iff] at e
 obtain ⟨r, e1, e2⟩ := e
 cases r with
 | inr x => cases e2
 | inl a =>
  cases e2
  obtain ⟨r, d, k, S1, q⟩ := h _ e1 ds S
  exact ⟨r, d, by simp only [inlP, k, bindSome], S1, q⟩
theorem ItX.i {m : Option (List τ ⊕ Str)} (h : ItX ps fi m) : It ps (inlP fi) (inlM m) := by
 intro v e ds S
 simp only [inlM, Option.bind_eq_some_iff] at e
 obtain ⟨r, e1, e2⟩ := e
 cases r with
 | inr x => cases e2
 | inl a =>
  cases e2
  obtain ⟨d, k, S1⟩ := h _ e1 ds S
  exact ⟨d, by simp only [inlP, k, bindSome], S1⟩
end
end Ty
set_option Elab.async false
set_option linter.all false
set_option maxRecDepth 100000
set_option maxHeartbeats 4000000
namespace Lw
open PySem PySem.Spec L2 Fx
def topS (i : Nat) : Stmt := PySem.Challenge.pw_floodmark_k55_books_refused.main.body.getD i (.Pass ⟨0, 0, 0, 0⟩)
abbrev s_law_list_book : Stmt := topS 19
abbrev nm_law_list_book : List Str := ["_law_rows", "_law_out", "_law_row"]
theorem sc_law_list_book : FnScope nm_law_list_book ["_law_rows"] (defScope s_law_list_book) := ⟨rfl, rfl, rfl, by decide +kernel, rfl, by decide +kernel, by decide +kernel⟩
abbrev s_law_claim_book : Stmt := topS 20
abbrev nm_law_claim_book : List Str := ["_law_claim_here", "_law_index", "_law_told_here", "_law_rows", "_law_scale", "_law_factors"]
theorem sc_law_claim_book : FnScope nm_law_claim_book ["_law_claim_here"] (defScope s_law_claim_book) := ⟨rfl, rfl, rfl, by decide +kernel, rfl, by decide +kernel, by decide +kernel⟩
abbrev s_law_book : Stmt := topS 21
abbrev nm_law_book : List Str := ["_law_certificate_here", "_law_pieces", "_law_starts", "_law_waits", "_law_jumps", "_law_goals", "_law_out", "_law_groups", "_law_part", "_law_piece", "_law_row", "_law_claim_here"]
theorem sc_law_book : FnScope nm_law_book ["_law_certificate_here"] (defScope s_law_book) := ⟨rfl, rfl, rfl, by decide +kernel, rfl, by decide +kernel, by decide +kernel⟩
abbrev s_law_cell : Stmt := topS 13
abbrev nm_law_cell : List Str := ["_law_script", "_law_k"]
theorem sc_law_cell : FnScope nm_law_cell ["_law_script", "_law_k"] (defScope s_law_cell) := ⟨rfl, rfl, rfl, by decide +kernel, rfl, by decide +kernel, by decide +kernel⟩
abbrev s_law_digits : Stmt := topS 14
abbrev nm_law_digits : List Str := ["_law_cell_here", "_law_base", "_law_most", "_law_digits_here", "_law_large", "_law_k"]
theorem sc_law_digits : FnScope nm_law_digits ["_law_cell_here", "_law_base", "_law_most"] (defScope s_law_digits) := ⟨rfl, rfl, rfl, by decide +kernel, rfl, by decide +kernel, by decide +kernel⟩
abbrev s_law_take : Stmt := topS 17
abbrev nm_law_take : List Str := ["_law_tape", "_law_count", "_law_at"]
theorem sc_law_take : FnScope nm_law_take ["_law_tape", "_law_count"] (defScope s_law_take) := ⟨rfl, rfl, rfl, by decide +kernel, rfl, by decide +kernel, by decide +kernel⟩
abbrev s_law_number : Stmt := topS 16
abbrev nm_law_number : List Str := ["_law_tape", "_law_way"]
theorem sc_law_number : FnScope nm_law_number ["_law_tape"] (defScope s_law_number) := ⟨rfl, rfl, rfl, by decide +kernel, rfl, by decide +kernel, by decide +kernel⟩
abbrev s_law_claim : Stmt := topS 15
abbrev nm_law_claim : List Str := ["_law_tape", "_law_n", "_law_index", "_law_told_here", "_law_turn", "_law_factors", "_law_k"]
theorem sc_law_claim : FnScope nm_law_claim ["_law_tape", "_law_n"] (defScope s_law_claim) := ⟨rfl, rfl, rfl, by decide +kernel, rfl, by decide +kernel, by decide +kernel⟩
abbrev s_law_certificate : Stmt := topS 18
abbrev nm_law_certificate : List Str := ["_law_tape", "_law_n", "_law_pieces", "_law_turn", "_law_part", "_law_k", "_law_starts", "_law_groups", "_law_row", "_law_j"]
theorem sc_law_certificate : FnScope nm_law_certificate ["_law_tape", "_law_n"] (defScope s_law_certificate) := ⟨rfl, rfl, rfl, by decide +kernel, rfl, by decide +kernel, by decide +kernel⟩
abbrev s_law_changed : Stmt := topS 26
abbrev nm_law_changed : List Str := ["_law_book_here", "_law_cell_here", "_law_at", "_law_worth"]
theorem sc_law_changed : FnScope nm_law_changed ["_law_book_here", "_law_cell_here"] (defScope s_law_changed) := ⟨rfl, rfl, rfl, by decide +kernel, rfl, by decide +kernel, by decide +kernel⟩
abbrev s_BookReader___init__ : Stmt := inClass (topS 10) 0
abbrev nm_BookReader___init__ : List Str := ["self", "numbers", "n"]
theorem sc_BookReader___init__ : FnScope nm_BookReader___init__ ["self", "numbers", "n"] (defScope s_BookReader___init__) := ⟨rfl, rfl, rfl, by decide +kernel, rfl, by decide +kernel, by decide +kernel⟩
abbrev s_BookReader_take : Stmt := inClass (topS 10) 1
abbrev nm_BookReader_take : List Str := ["self"]
theorem sc_BookReader_take : FnScope nm_BookReader_take ["self"] (defScope s_BookReader_take) := ⟨rfl, rfl, rfl, by decide +kernel, rfl, by decide +kernel, by decide +kernel⟩
abbrev s_BookReader_size : Stmt := inClass (topS 10) 2
abbrev nm_BookReader_size : List Str := ["self", "count"]
theorem sc_BookReader_size : FnScope nm_BookReader_size ["self"] (defScope s_BookReader_size) := ⟨rfl, rfl, rfl, by decide +kernel, rfl, by decide +kernel, by decide +kernel⟩
abbrev s_BookReader_claim : Stmt := inClass (topS 10) 5
abbrev nm_BookReader_claim : List Str := ["self", "index", "found", "_", "scale"]
theorem sc_BookReader_claim : FnScope nm_BookReader_claim ["self"] (defScope s_BookReader_claim) := ⟨rfl, rfl, rfl, by decide +kernel, rfl, by decide +kernel, by decide +kernel⟩
abbrev s_BookReader_claims : Stmt := inClass (topS 10) 6
abbrev nm_BookReader_claims : List Str := ["self", "_"]
theorem sc_BookReader_claims : FnScope nm_BookReader_claims ["self"] (defScope s_BookReader_claims) := ⟨rfl, rfl, rfl, by decide +kernel, rfl, by decide +kernel, by decide +kernel⟩
abbrev s_BookReader_rows_of_claims : Stmt := inClass (topS 10) 7
abbrev nm_BookReader_rows_of_claims : List Str := ["self", "_"]
theorem sc_BookReader_rows_of_claims : FnScope nm_BookReader_rows_of_claims ["self"] (defScope s_BookReader_rows_of_claims) := ⟨rfl, rfl, rfl, by decide +kernel, rfl, by decide +kernel, by decide +kernel⟩
abbrev s_BookReader_condition : Stmt := inClass (topS 10) 3
abbrev nm_BookReader_condition : List Str := ["self", "count", "_"]
theorem sc_BookReader_condition : FnScope nm_BookReader_condition ["self"] (defScope s_BookReader_condition) := ⟨rfl, rfl, rfl, by decide +kernel, rfl, by decide +kernel, by decide +kernel⟩
abbrev s_BookReader_piece : Stmt := inClass (topS 10) 4
abbrev nm_BookReader_piece : List Str := ["self", "_"]
theorem sc_BookReader_piece : FnScope nm_BookReader_piece ["self"] (defScope s_BookReader_piece) := ⟨rfl, rfl, rfl, by decide +kernel, rfl, by decide +kernel, by decide +kernel⟩
abbrev s_read_book : Stmt := topS 11
abbrev nm_read_book : List Str := ["numbers", "n", "reader", "pieces", "_", "starts", "waits", "jumps", "ends"]
theorem sc_read_book : FnScope nm_read_book ["numbers", "n"] (defScope s_read_book) := ⟨rfl, rfl, rfl, by decide +kernel, rfl, by decide +kernel, by decide +kernel⟩
abbrev s_law_told : Stmt := topS 22
abbrev nm_law_told : List Str := ["_law_numbers", "_law_n", "e"]
theorem sc_law_told : FnScope nm_law_told ["_law_numbers", "_law_n"] (defScope s_law_told) := ⟨rfl, rfl, rfl, by decide +kernel, rfl, by decide +kernel, by decide +kernel⟩
abbrev s_put_list : Stmt := topS 6
abbrev nm_put_list : List Str := ["parts", "written", "part"]
theorem sc_put_list : FnScope nm_put_list ["parts"] (defScope s_put_list) := ⟨rfl, rfl, rfl, by decide +kernel, rfl, by decide +kernel, by decide +kernel⟩
abbrev s_put_numbers : Stmt := topS 5
abbrev nm_put_numbers : List Str := ["numbers"]
theorem sc_put_numbers : FnScope nm_put_numbers ["numbers"] (defScope s_put_numbers) := ⟨rfl, rfl, rfl, by decide +kernel, rfl, by decide +kernel, by decide +kernel⟩
abbrev s_put_claim : Stmt := topS 7
abbrev nm_put_claim : List Str := ["claim", "index", "found", "rows", "scale", "factors"]
theorem sc_put_claim : FnScope nm_put_claim ["claim"] (defScope s_put_claim) := ⟨rfl, rfl, rfl, by decide +kernel, rfl, by decide +kernel, by decide +kernel⟩
abbrev s_put_claims : Stmt := topS 8
abbrev nm_put_claims : List Str := ["claims", "claim"]
theorem sc_put_claims : FnScope nm_put_claims ["claims"] (defScope s_put_claims) := ⟨rfl, rfl, rfl, by decide +kernel, rfl, by decide +kernel, by decide +kernel⟩
abbrev s_write_book : Stmt := topS 9
abbrev nm_write_book : List Str := ["certificate", "pieces", "starts", "waits", "jumps", "ends", "rows", "there", "book", "part", "piece", "one", "claims"]
theorem sc_write_book : FnScope nm_write_book ["certificate"] (defScope s_write_book) := ⟨rfl, rfl, rfl, by decide +kernel, rfl, by decide +kernel, by decide +kernel⟩
abbrev s_law_is_integer : Stmt := topS 23
abbrev nm_law_is_integer : List Str := ["_law_item"]
theorem sc_law_is_integer : FnScope nm_law_is_integer ["_law_item"] (defScope s_law_is_integer) := ⟨rfl, rfl, rfl, by decide +kernel, rfl, by decide +kernel, by decide +kernel⟩
abbrev s_law_is_claims : Stmt := topS 24
abbrev nm_law_is_claims : List Str := ["_law_claims", "_law_claim_here", "_law_told_here"]
theorem sc_law_is_claims : FnScope nm_law_is_claims ["_law_claims"] (defScope s_law_is_claims) := ⟨rfl, rfl, rfl, by decide +kernel, rfl, by decide +kernel, by decide +kernel⟩
abbrev s_law_is_certificate : Stmt := topS 25
abbrev nm_law_is_certificate : List Str := ["_law_told_here", "_law_n", "_law_part", "_law_piece", "_law_row", "_law_groups"]
theorem sc_law_is_certificate : FnScope nm_law_is_certificate ["_law_told_here", "_law_n"] (defScope s_law_is_certificate) := ⟨rfl, rfl, rfl, by decide +kernel, rfl, by decide +kernel, by decide +kernel⟩
abbrev s_law : Stmt := topS 27
abbrev nm_law : List Str := ["_law_script", "_law_k", "_law_cell_here", "_law_n", "_law_tape", "_law_book_here", "_law_lists", "_law_j", "_law_numbers", "_law_kept", "_law_size", "_law_told_here", "_law_digit"]
theorem sc_law : FnScope nm_law ["_law_script"] (defScope s_law) := ⟨rfl, rfl, rfl, by decide +kernel, rfl, by decide +kernel, by decide +kernel⟩
structure Cls (K : PySem.W.Frag) (mg : Str → Option Value) (C_BadBook C_FloodError C_OutOfRange : Addr) : Prop where
 c_BadBook : CaT K mg "BadBook" C_BadBook
 e_BadBook : ExT K mg "BadBook" C_BadBook
 g_FloodError : mg "FloodError" = some (.ref C_FloodError)
 g_OutOfRange : mg "OutOfRange" = some (.ref C_OutOfRange)
 k_BadBook_FloodError : PySem.W.kitOne K (.ref C_BadBook) (.ref C_FloodError) = some true
 k_BadBook_OutOfRange : PySem.W.kitOne K (.ref C_BadBook) (.ref C_OutOfRange) = some false
 x_BadBook : ExcC K C_BadBook
structure Ob_BookReader (K : PySem.W.Frag) (mg : Str → Option Value) (C f0 : Addr) : Prop where
 oc : ClsO K ⟨0, C, ["numbers", "n", "place"]⟩
 mkc : L2.Mk K C f0
 mgc : mg "BookReader" = some (.ref C)
 F___init__ : ∃ f fd, L2.Fun K "__init__" "BookReader.__init__" s_BookReader___init__ f fd ∧ L2.Meth K C "__init__" f ∧ Binds K fd ["self", "numbers", "n"] []
 F_take : ∃ f fd, L2.Fun K "take" "BookReader.take" s_BookReader_take f fd ∧ L2.Meth K C "take" f ∧ Binds K fd ["self"] []
 F_size : ∃ f fd, L2.Fun K "size" "BookReader.size" s_BookReader_size f fd ∧ L2.Meth K C "size" f ∧ Binds K fd ["self"] []
 F_claim : ∃ f fd, L2.Fun K "claim" "BookReader.claim" s_BookReader_claim f fd ∧ L2.Meth K C "claim" f ∧ Binds K fd ["self"] []
 F_claims : ∃ f fd, L2.Fun K "claims" "BookReader.claims" s_BookReader_claims f fd ∧ L2.Meth K C "claims" f ∧ Binds K fd ["self"] []
 F_rows_of_claims : ∃ f fd, L2.Fun K "rows_of_claims" "BookReader.rows_of_claims" s_BookReader_rows_of_claims f fd ∧ L2.Meth K C "rows_of_claims" f ∧ Binds K fd ["self"] []
 F_condition : ∃ f fd, L2.Fun K "condition" "BookReader.condition" s_BookReader_condition f fd ∧ L2.Meth K C "condition" f ∧ Binds K fd ["self"] []
 F_piece : ∃ f fd, L2.Fun K "piece" "BookReader.piece" s_BookReader_piece f fd ∧ L2.Meth K C "piece" f ∧ Binds K fd ["self"] []
structure Tx (K : PySem.W.Frag) (mg : Str → Option Value) : Prop where
 m_abs : mg "abs" = none
 m_bool : mg "bool" = none
 m_int : mg "int" = none
 m_isinstance : mg "isinstance" = none
 m_len : mg "len" = none
 m_list : mg "list" = none
 m_min : mg "min" = none
 m_range : mg "range" = none
 m_tuple : mg "tuple" = none
 cls : ∃ C_BadBook C_FloodError C_OutOfRange, Cls K mg C_BadBook C_FloodError C_OutOfRange
 ob_BookReader : ∃ C f0, Ob_BookReader K mg C f0
 F_law_list_book : ∃ f fd, L2.Fun K "_law_list_book" "_law_list_book" s_law_list_book f fd ∧ mg "_law_list_book" = some (.ref f) ∧ Binds K fd ["_law_rows"] []
 F_law_claim_book : ∃ f fd, L2.Fun K "_law_claim_book" "_law_claim_book" s_law_claim_book f fd ∧ mg "_law_claim_book" = some (.ref f) ∧ Binds K fd ["_law_claim_here"] []
 F_law_book : ∃ f fd, L2.Fun K "_law_book" "_law_book" s_law_book f fd ∧ mg "_law_book" = some (.ref f) ∧ Binds K fd ["_law_certificate_here"] []
 F_law_cell : ∃ f fd, L2.Fun K "_law_cell" "_law_cell" s_law_cell f fd ∧ mg "_law_cell" = some (.ref f) ∧ Binds K fd ["_law_script", "_law_k"] []
 F_law_digits : ∃ f fd, L2.Fun K "_law_digits" "_law_digits" s_law_digits f fd ∧ mg "_law_digits" = some (.ref f) ∧ Binds K fd ["_law_cell_here", "_law_base", "_law_most"] []
 F_law_take : ∃ f fd, L2.Fun K "_law_take" "_law_take" s_law_take f fd ∧ mg "_law_take" = some (.ref f) ∧ Binds K fd ["_law_tape", "_law_count"] []
 F_law_number : ∃ f fd, L2.Fun K "_law_number" "_law_number" s_law_number f fd ∧ mg "_law_number" = some (.ref f) ∧ Binds K fd ["_law_tape"] []
 F_law_claim : ∃ f fd, L2.Fun K "_law_claim" "_law_claim" s_law_claim f fd ∧ mg "_law_claim" = some (.ref f) ∧ Binds K fd ["_law_tape", "_law_n"] []
 F_law_certificate : ∃ f fd, L2.Fun K "_law_certificate" "_law_certificate" s_law_certificate f fd ∧ mg "_law_certificate" = some (.ref f) ∧ Binds K fd ["_law_tape", "_law_n"] []
 F_law_changed : ∃ f fd, L2.Fun K "_law_changed" "_law_changed" s_law_changed f fd ∧ mg "_law_changed" = some (.ref f) ∧ Binds K fd ["_law_book_here", "_law_cell_here"] []
 F_read_book : ∃ f fd, L2.Fun K "read_book" "read_book" s_read_book f fd ∧ mg "read_book" = some (.ref f) ∧ KBinds K fd ["numbers", "n"] ["n"] kw2 kw2
 F_law_told : ∃ f fd, L2.Fun K "_law_told" "_law_told" s_law_told f fd ∧ mg "_law_told" = some (.ref f) ∧ Binds K fd ["_law_numbers", "_law_n"] []
 F_put_list : ∃ f fd, L2.Fun K "put_list" "put_list" s_put_list f fd ∧ mg "put_list" = some (.ref f) ∧ Binds K fd ["parts"] []
 F_put_numbers : ∃ f fd, L2.Fun K "put_numbers" "put_numbers" s_put_numbers f fd ∧ mg "put_numbers" = some (.ref f) ∧ Binds K fd ["numbers"] []
 F_put_claim : ∃ f fd, L2.Fun K "put_claim" "put_claim" s_put_claim f fd ∧ mg "put_claim" = some (.ref f) ∧ Binds K fd ["claim"] []
 F_put_claims : ∃ f fd, L2.Fun K "put_claims" "put_claims" s_put_claims f fd ∧ mg "put_claims" = some (.ref f) ∧ Binds K fd ["claims"] []
 F_write_book : ∃ f fd, L2.Fun K "write_book" "write_book" s_write_book f fd ∧ mg "write_book" = some (.ref f) ∧ Binds K fd ["certificate"] []
 F_law_is_integer : ∃ f fd, L2.Fun K "_law_is_integer" "_law_is_integer" s_law_is_integer f fd ∧ mg "_law_is_integer" = some (.ref f) ∧ Binds K fd ["_law_item"] []
 F_law_is_claims : ∃ f fd, L2.Fun K "_law_is_claims" "_law_is_claims" s_law_is_claims f fd ∧ mg "_law_is_claims" = some (.ref f) ∧ Binds K fd ["_law_claims"] []
 F_law_is_certificate : ∃ f fd, L2.Fun K "_law_is_certificate" "_law_is_certificate" s_law_is_certificate f fd ∧ mg "_law_is_certificate" = some (.ref f) ∧ Binds K fd ["_law_told_here", "_law_n"] []
 F_law : ∃ f fd, L2.Fun K "law" "law" s_law f fd ∧ mg "law" = some (.ref f) ∧ Binds K fd ["_law_script"] []
noncomputable def fb_law_list_book : DS → Option Out := (fSeq (fSet 1 (fLst (fCons (fCa gLen (fCons (fVar 0) fNil)) fNil))) (fSeq (fFor (fiList (fVar 0)) (fgName 2) (fSet 1 (fAdd (fVar 1) (fVar 2)))) (fRet (fVar 1))))
noncomputable def g_law_list_book : DS → Option DR := funO [] 1 3 fb_law_list_book
noncomputable def fb_law_claim_book : DS → Option Out := (fSeq (fAsg (fgTup 2 (fgCons (fgName 1) (fgCons (fgName 2) fgNil))) (fVar 0)) (fSeq (fSet 3 (fLc (fiList (fVar 2)) (fgTup 2 (fgCons (fgName 4) (fgCons (fgName 5) fgNil))) fYes (fAdd (fAdd (fLst (fCons (fVar 4) fNil)) (fLst (fCons (fCa gLen (fCons (fVar 5) fNil)) fNil))) (fVar 5)) [4, 5])) (fRet (fAdd (fLst (fCons (fIf (fBool (fOp gIsN2 (fVar 1) (fC .none))) (fUn gNeg (fC (.int 1))) (fVar 1)) fNil)) (fCall 1 g_law_list_book (fCons (fVar 3) fNil))))))
noncomputable def g_law_claim_book : DS → Option DR := funO [] 1 6 fb_law_claim_book
noncomputable def fb_law_book : DS → Option Out := (fSeq (fAsg (fgTup 5 (fgCons (fgName 1) (fgCons (fgName 2) (fgCons (fgName 3) (fgCons (fgName 4) (fgCons (fgName 5) fgNil)))))) (fVar 0)) (fSeq (fSet 6 (fCall 1 g_law_list_book (fCons (fLc (fiList (fVar 1)) (fgName 8) fYes (fCall 1 g_law_list_book (fCons (fLc (fiList (fVar 8)) (fgName 9) fYes (fCall 1 g_law_list_book (fCons (fLc (fiList (fVar 9)) (fgName 10) fYes (fAdd (fLst (fCons (fCa gLen (fCons (fVar 10) fNil)) fNil)) (fVar 10)) [10]) fNil)) [9]) fNil)) [8]) fNil))) (fSeq (fSet 6 (fAdd (fVar 6) (fCall 1 g_law_list_book (fCons (fLc (fiList (fVar 2)) (fgName 11) fYes (fCall 1 g_law_claim_book (fCons (fVar 11) fNil)) [11]) fNil)))) (fSeq (fFor (fiList (fLst (fCons (fVar 3) (fCons (fVar 4) (fCons (fVar 5) fNil))))) (fgName 7) (fSet 6 (fAdd (fVar 6) (fCall 1 g_law_list_book (fCons (fLc (fiList (fVar 7)) (fgName 8) fYes (fCall 1 g_law_list_book (fCons (fLc (fiList (fVar 8)) (fgName 11) fYes (fCall 1 g_law_claim_book (fCons (fVar 11) fNil)) [11]) fNil)) [8]) fNil))))) (fRet (fVar 6))))))
noncomputable def g_law_book : DS → Option DR := funO [] 1 12 fb_law_book
noncomputable def fb_law_cell : DS → Option Out := (fSeq (fIfS (fBool (fOp (gCmp fun i j => decide (i < j)) (fVar 1) (fCa gLen (fCons (fVar 0) fNil)))) (fRet (fCa (g1I fun i => .int (if i < 0 then -i else i)) (fCons (fCa gInt (fCons (fIx (fVar 0) (fVar 1)) fNil)) fNil))) fNext) (fRet (fC (.int 0))))
noncomputable def g_law_cell : DS → Option DR := funO [] 2 2 fb_law_cell
noncomputable def fb_law_digits : DS → Option Out := (fSeq (fSet 3 (fLst fNil)) (fSeq (fSet 4 (fOp (gCmp fun i j => decide (j ≤ i)) (fVar 0) (fOp (gI cPow fun i j => .int (i ^ j.toNat)) (fC (.int 10)) (fC (.int 18))))) (fSeq (fFor (fiR1 (fCons (fVar 2) fNil)) (fgName 5) (fIfS (fTru (fVar 4)) (fSeq (fApp 3 (fOp (gI cNz fun i j => .int (i.fmod j)) (fCa gInt (fCons (fVar 0) fNil)) (fVar 1))) (fSet 0 (fOp (gI cNz fun i j => .int (i.fdiv j)) (fVar 0) (fVar 1)))) (fApp 3 (fOp (gI cNz fun i j => .int (i.fmod j)) (fOp (gI cNz fun i j => .int (i.fmod j)) (fCa gInt (fCons (fAdd (fAdd (fMul (fVar 0) (fC (.int 48271))) (fMul (fMul (fAdd (fVar 5) (fC (.int 1))) (fAdd (fVar 5) (fC (.int 5)))) (fC (.int 69621)))) (fMul (fOp (gI cNz fun i j => .int (i.fdiv j)) (fVar 0) (fC (.int 97))) (fVar 5))) fNil)) (fC (.int 2147483647))) (fVar 1))))) (fRet (fVar 3)))))
noncomputable def g_law_digits : DS → Option DR := funO [] 3 6 fb_law_digits
noncomputable def fb_law_take : DS → Option Out := (fSeq (fSet 2 (fIx (fVar 0) (fC (.int 1)))) (fSeq (fSetIx 0 (fAdd (fVar 2) (fC (.int 1))) (fC (.int 1))) (fRet (fOp (gI cNz fun i j => .int (i.fmod j)) (fOp (gI cNz fun i j => .int (i.fdiv j)) (fIx (fIx (fVar 0) (fC (.int 0))) (fOp (gI cNz fun i j => .int (i.fmod j)) (fVar 2) (fCa gLen (fCons (fIx (fVar 0) (fC (.int 0))) fNil)))) (fAdd (fC (.int 1)) (fOp (gI cNz fun i j => .int (i.fdiv j)) (fVar 2) (fCa gLen (fCons (fIx (fVar 0) (fC (.int 0))) fNil))))) (fVar 1)))))
noncomputable def g_law_take : DS → Option DR := funO [0] 2 3 fb_law_take
noncomputable def fb_law_number : DS → Option Out := (fSeq (fSet 1 (fCallIO 2 g_law_take 0 (fCons (fC (.int 5)) fNil))) (fSeq (fIfS (fBool (fOp gEqX (fVar 1) (fC (.int 0)))) (fRet (fAdd (fOp (gI cPow fun i j => .int (i ^ j.toNat)) (fC (.int 10)) (fC (.int 20))) (fCallIO 2 g_law_take 0 (fCons (fC (.int 1000)) fNil)))) fNext) (fRet (fOp (gI cT fun i j => .int (i - j)) (fCallIO 2 g_law_take 0 (fCons (fC (.int 9)) fNil)) (fIx (fLst (fCons (fC (.int 4)) (fCons (fC (.int 0)) (fCons (fC (.int 0)) (fCons (fC (.int 8)) fNil))))) (fOp (gI cT fun i j => .int (i - j)) (fVar 1) (fC (.int 1))))))))
noncomputable def g_law_number : DS → Option DR := funO [0] 1 2 fb_law_number
noncomputable def fb_law_claim : DS → Option Out := (fSeq (fSet 2 (fOp (gI cT fun i j => .int (i - j)) (fCallIO 2 g_law_take 0 (fCons (fC (.int 6)) fNil)) (fC (.int 1)))) (fSeq (fSet 3 (fLst fNil)) (fSeq (fFor (fiR1 (fCons (fCallIO 2 g_law_take 0 (fCons (fC (.int 3)) fNil)) fNil)) (fgName 4) (fSeq (fSet 5 (fLc (fiR1 (fCons (fCallIO 2 g_law_take 0 (fCons (fC (.int 4)) fNil)) fNil)) (fgName 6) fYes (fCallIO 1 g_law_number 0 fNil) [6])) (fApp 3 (fTup (fCons (fCallIO 1 g_law_number 0 fNil) (fCons (fVar 5) fNil)))))) (fRet (fTup (fCons (fIf (fBool (fOp (gCmp fun i j => decide (i < j)) (fVar 2) (fC (.int 0)))) (fC .none) (fVar 2)) (fCons (fVar 3) fNil)))))))
noncomputable def g_law_claim : DS → Option DR := funO [0] 2 7 fb_law_claim
noncomputable def fb_law_certificate : DS → Option Out := (fSeq (fSet 2 (fLst fNil)) (fSeq (fFor (fiR1 (fCons (fCallIO 2 g_law_take 0 (fCons (fC (.int 3)) fNil)) fNil)) (fgName 3) (fSeq (fSet 4 (fLst fNil)) (fSeq (fFor (fiR1 (fCons (fCallIO 2 g_law_take 0 (fCons (fC (.int 3)) fNil)) fNil)) (fgName 5) (fApp 4 (fLc (fiR1 (fCons (fCallIO 2 g_law_take 0 (fCons (fC (.int 3)) fNil)) fNil)) (fgName 8) fYes (fLc (fiR1 (fCons (fAdd (fVar 1) (fC (.int 1))) fNil)) (fgName 9) fYes (fCallIO 1 g_law_number 0 fNil) [9]) [8]))) (fApp 2 (fVar 4))))) (fSeq (fSet 6 (fLc (fiR1 (fCons (fCallIO 2 g_law_take 0 (fCons (fC (.int 3)) fNil)) fNil)) (fgName 5) fYes (fCallIO 2 g_law_claim 0 (fCons (fVar 1) fNil)) [5])) (fSeq (fSet 7 (fLst fNil)) (fSeq (fFor (fiR1 (fCons (fC (.int 3)) fNil)) (fgName 3) (fApp 7 (fLc (fiR1 (fCons (fCallIO 2 g_law_take 0 (fCons (fC (.int 3)) fNil)) fNil)) (fgName 4) fYes (fLc (fiR1 (fCons (fCallIO 2 g_law_take 0 (fCons (fC (.int 3)) fNil)) fNil)) (fgName 5) fYes (fCallIO 2 g_law_claim 0 (fCons (fVar 1) fNil)) [5]) [4]))) (fRet (fTup (fCons (fVar 2) (fCons (fVar 6) (fCons (fIx (fVar 7) (fC (.int 0))) (fCons (fIx (fVar 7) (fC (.int 1))) (fCons (fIx (fVar 7) (fC (.int 2))) fNil))))))))))))
noncomputable def g_law_certificate : DS → Option DR := funO [0] 2 10 fb_law_certificate
noncomputable def fb_law_changed : DS → Option Out := (fSeq (fSet 2 (fOp (gI cNz fun i j => .int (i.fmod j)) (fOp (gI cNz fun i j => .int (i.fdiv j)) (fVar 1) (fC (.int 5))) (fCa gLen (fCons (fVar 0) fNil)))) (fSeq (fSet 3 (fIx (fLst (fCons (fOp (gI cT fun i j => .int (i - j)) (fOp (gI cNz fun i j => .int (i.fmod j)) (fOp (gI cNz fun i j => .int (i.fdiv j)) (fVar 1) (fC (.int 7))) (fC (.int 6))) (fC (.int 2))) (fCons (fUn gNeg (fC (.int 1))) (fCons (fAdd (fIx (fVar 0) (fVar 2)) (fC (.int 1))) (fCons (fOp (gI cPow fun i j => .int (i ^ j.toNat)) (fC (.int 10)) (fC (.int 18))) fNil))))) (fOp (gI cNz fun i j => .int (i.fmod j)) (fOp (gI cNz fun i j => .int (i.fdiv j)) (fVar 1) (fC (.int 3))) (fC (.int 4))))) (fSeq (fIfS (fBool (fOp gEqX (fOp (gI cNz fun i j => .int (i.fmod j)) (fVar 1) (fC (.int 5))) (fC (.int 0)))) (fRet (fAdd (fAdd (fSl (fVar 0) fNoPart (fPart (fVar 2))) (fLst (fCons (fVar 3) fNil))) (fSl (fVar 0) (fPart (fAdd (fVar 2) (fC (.int 1)))) fNoPart))) fNext) (fSeq (fIfS (fBool (fOp gEqX (fOp (gI cNz fun i j => .int (i.fmod j)) (fVar 1) (fC (.int 5))) (fC (.int 1)))) (fRet (fAdd (fSl (fVar 0) fNoPart (fPart (fVar 2))) (fSl (fVar 0) (fPart (fAdd (fVar 2) (fC (.int 1)))) fNoPart))) fNext) (fSeq (fIfS (fBool (fOp gEqX (fOp (gI cNz fun i j => .int (i.fmod j)) (fVar 1) (fC (.int 5))) (fC (.int 2)))) (fRet (fAdd (fAdd (fSl (fVar 0) fNoPart (fPart (fVar 2))) (fLst (fCons (fVar 3) fNil))) (fSl (fVar 0) (fPart (fVar 2)) fNoPart))) fNext) (fSeq (fIfS (fBool (fOp gEqX (fOp (gI cNz fun i j => .int (i.fmod j)) (fVar 1) (fC (.int 5))) (fC (.int 3)))) (fRet (fSl (fVar 0) fNoPart (fPart (fVar 2)))) fNext) (fRet (fAdd (fVar 0) (fLst (fCons (fVar 3) fNil))))))))))
noncomputable def g_law_changed : DS → Option DR := funO [] 2 4 fb_law_changed
noncomputable def fb_BookReader___init__ : DS → Option Out := (fSeq (fPutF 3 (fVar 1)) (fSeq (fPutF 4 (fVar 2)) (fPutF 5 (fC (.int 0)))))
noncomputable def g_BookReader___init__ : DS → Option DR := funO [] 3 3 fb_BookReader___init__
noncomputable def fb_BookReader_take : DS → Option Out := (fSeq (fIfS (fBool (fOp gEqX (fFld 3) (fCa gLen (fCons (fFld 1) fNil)))) (fRaise "BadBook") fNext) (fSeq (fAugF 3 (fC (.int 1))) (fRet (fFrz (fIx (fFld 1) (fOp (gI cT fun i j => .int (i - j)) (fFld 3) (fC (.int 1))))))))
noncomputable def g_BookReader_take : DS → Option DR := funO [] 1 1 fb_BookReader_take
noncomputable def fb_BookReader_size : DS → Option Out := (fSeq (fSetX 1 (fMethX 2 1 g_BookReader_take fNil)) (fSeq (fIfS (fNotT (fBool (fCh (fun i j => decide (i ≤ j)) (fun i j => decide (i ≤ j)) (fC (.int 0)) (fVar 1) (fOp (gI cT fun i j => .int (i - j)) (fCa gLen (fCons (fFld 2) fNil)) (fFld 4))))) (fRaise "BadBook") fNext) (fRet (fFrz (fVar 1)))))
noncomputable def g_BookReader_size : DS → Option DR := funO [] 1 2 fb_BookReader_size
noncomputable def fb_BookReader_claim : DS → Option Out := (fSeq (fSetX 1 (fMethX 5 1 g_BookReader_take fNil)) (fSeq (fIfS (fBool (fOp (gCmp fun i j => decide (i < j)) (fVar 1) (fUn gNeg (fC (.int 1))))) (fRaise "BadBook") fNext) (fSeq (fSet 2 (fLst fNil)) (fSeq (fForX (fiR1X (fConsX (fMethX 5 1 g_BookReader_size fNil) fNilX)) (fgName 3) (fSeq (fSetX 4 (fMethX 5 1 g_BookReader_take fNil)) (fAppTX 2 (fTupOX (fConsX (inlE (fVar 4)) (fConsX (fLcMX (fiR1X (fConsX (fMethX 5 1 g_BookReader_size fNil) fNilX)) (fgName 3) (fMethX 5 1 g_BookReader_take fNil) [3]) fNilX)))))) (fRet (fTupO (fCons (fIf (fBool (fOp gEqX (fVar 1) (fUn gNeg (fC (.int 1))))) (fC .none) (fVar 1)) (fCons (fVar 2) fNil))))))))
noncomputable def g_BookReader_claim : DS → Option DR := funO [] 1 5 fb_BookReader_claim
noncomputable def fb_BookReader_claims : DS → Option Out := (fRetX (fLcMX (fiR1X (fConsX (fMethX 2 1 g_BookReader_size fNil) fNilX)) (fgName 1) (fMethX 2 1 g_BookReader_claim fNil) [1]))
noncomputable def g_BookReader_claims : DS → Option DR := funO [] 1 2 fb_BookReader_claims
noncomputable def fb_BookReader_rows_of_claims : DS → Option Out := (fRetX (fLcMX (fiR1X (fConsX (fMethX 2 1 g_BookReader_size fNil) fNilX)) (fgName 1) (fMethX 2 1 g_BookReader_claims fNil) [1]))
noncomputable def g_BookReader_rows_of_claims : DS → Option DR := funO [] 1 2 fb_BookReader_rows_of_claims
noncomputable def fb_BookReader_condition : DS → Option Out := (fSeq (fSetX 1 (fMethX 3 1 g_BookReader_size fNil)) (fSeq (fIfS (fBool (fOp gNeX (fVar 1) (fAdd (fFld 4) (fC (.int 1))))) (fRaise "BadBook") fNext) (fRetX (fLcMX (fiR1X (fConsX (inlE (fVar 1)) fNilX)) (fgName 2) (fMethX 3 1 g_BookReader_take fNil) [2]))))
noncomputable def g_BookReader_condition : DS → Option DR := funO [] 1 3 fb_BookReader_condition
noncomputable def fb_BookReader_piece : DS → Option Out := (fRetX (fLcMX (fiR1X (fConsX (fMethX 2 1 g_BookReader_size fNil) fNilX)) (fgName 1) (fMethX 2 1 g_BookReader_condition fNil) [1]))
noncomputable def g_BookReader_piece : DS → Option DR := funO [] 1 2 fb_BookReader_piece
noncomputable def fb_read_book : DS → Option Out := (fNewO 9 2 3 3 g_BookReader___init__ (fCons (fListOf (fCons (fVar 0) fNil)) (fCons (fVar 1) fNil)) (fSeq (fSet 3 (fLst fNil)) (fSeq (fForX (fiR1X (fConsX (fMethX 9 1 g_BookReader_size fNil) fNilX)) (fgName 4) (fAppTX 3 (fLcMX (fiR1X (fConsX (fMethX 9 1 g_BookReader_size fNil) fNilX)) (fgName 4) (fMethX 9 1 g_BookReader_piece fNil) [4]))) (fSeq (fSetX 5 (fMethX 9 1 g_BookReader_claims fNil)) (fSeq (fSetX 6 (fMethX 9 1 g_BookReader_rows_of_claims fNil)) (fSeq (fSetX 7 (fMethX 9 1 g_BookReader_rows_of_claims fNil)) (fSeq (fSetX 8 (fMethX 9 1 g_BookReader_rows_of_claims fNil)) (fSeq (fIfS (fBool (fOp gNeX (fFld 11) (fCa gLen (fCons (fFld 9) fNil)))) (fRaise "BadBook") fNext) (fRet (fTupO (fCons (fVar 3) (fCons (fVar 5) (fCons (fVar 6) (fCons (fVar 7) (fCons (fVar 8) fNil)))))))))))))))
noncomputable def g_read_book : DS → Option DR := funO [] 2 9 fb_read_book
noncomputable def fb_law_told : DS → Option Out := (fTry "BadBook" 2 (fRetX (fCallX 2 g_read_book (fCons (fVar 0) (fCons (fVar 1) fNil)))) (fRet (fIf (fAndT (fTru (fC (.bool true))) (fNotT (fTru (fC (.bool false))))) (fC .none) (fC (.str "wrong")))))
noncomputable def g_law_told : DS → Option DR := funO [] 2 3 fb_law_told
noncomputable def fb_put_list : DS → Option Out := (fSeq (fSet 1 (fLst (fCons (fCa gLen (fCons (fVar 0) fNil)) fNil))) (fSeq (fFor (fiList (fVar 0)) (fgName 2) (fSet 1 (fAdd (fVar 1) (fVar 2)))) (fRet (fVar 1))))
noncomputable def g_put_list : DS → Option DR := funO [] 1 3 fb_put_list
noncomputable def fb_put_numbers : DS → Option Out := (fRet (fAdd (fLst (fCons (fCa gLen (fCons (fVar 0) fNil)) fNil)) (fListOf (fCons (fVar 0) fNil))))
noncomputable def g_put_numbers : DS → Option DR := funO [] 1 1 fb_put_numbers
noncomputable def fb_put_claim : DS → Option Out := (fSeq (fAsg (fgTup 2 (fgCons (fgName 1) (fgCons (fgName 2) fgNil))) (fVar 0)) (fSeq (fSet 3 (fLc (fiList (fVar 2)) (fgTup 2 (fgCons (fgName 4) (fgCons (fgName 5) fgNil))) fYes (fAdd (fLst (fCons (fVar 4) fNil)) (fCall 1 g_put_numbers (fCons (fVar 5) fNil))) [4, 5])) (fRet (fAdd (fLst (fCons (fIf (fBool (fOp gIsN2 (fVar 1) (fC .none))) (fUn gNeg (fC (.int 1))) (fVar 1)) fNil)) (fCall 1 g_put_list (fCons (fVar 3) fNil))))))
noncomputable def g_put_claim : DS → Option DR := funO [] 1 6 fb_put_claim
noncomputable def fb_put_claims : DS → Option Out := (fRet (fCall 1 g_put_list (fCons (fLc (fiList (fVar 0)) (fgName 1) fYes (fCall 1 g_put_claim (fCons (fVar 1) fNil)) [1]) fNil)))
noncomputable def g_put_claims : DS → Option DR := funO [] 1 2 fb_put_claims
noncomputable def fb_write_book : DS → Option Out := (fSeq (fAsg (fgTup 5 (fgCons (fgName 1) (fgCons (fgName 2) (fgCons (fgName 3) (fgCons (fgName 4) (fgCons (fgName 5) fgNil)))))) (fVar 0)) (fSeq (fSet 6 (fLst fNil)) (fSeq (fFor (fiList (fVar 1)) (fgName 7) (fApp 6 (fCall 1 g_put_list (fCons (fLc (fiList (fVar 7)) (fgName 10) fYes (fCall 1 g_put_list (fCons (fLc (fiList (fVar 10)) (fgName 11) fYes (fCall 1 g_put_numbers (fCons (fVar 11) fNil)) [11]) fNil)) [10]) fNil)))) (fSeq (fSet 8 (fAdd (fCall 1 g_put_list (fCons (fVar 6) fNil)) (fCall 1 g_put_claims (fCons (fVar 2) fNil)))) (fSeq (fFor (fiTup (fTup (fCons (fVar 3) (fCons (fVar 4) (fCons (fVar 5) fNil))))) (fgName 9) (fSet 8 (fAdd (fVar 8) (fCall 1 g_put_list (fCons (fLc (fiList (fVar 9)) (fgName 12) fYes (fCall 1 g_put_claims (fCons (fVar 12) fNil)) [12]) fNil))))) (fRet (fVar 8)))))))
noncomputable def g_write_book : DS → Option DR := funO [] 1 13 fb_write_book
noncomputable def fb_law_is_integer : DS → Option Out := (fRet (fAndV (fIsi "int" (fVar 0)) (fNotV (fIsi "bool" (fVar 0)))))
noncomputable def g_law_is_integer : DS → Option DR := funO [] 1 1 fb_law_is_integer
noncomputable def fb_law_is_claims : DS → Option Out := (fSeq (fFor (fiList (fVar 0)) (fgName 1) (fSeq (fIfS (fOrT (fNotT (fTru (fIsi "tuple" (fVar 1)))) (fOrT (fBool (fOp gNeX (fCa gLen (fCons (fVar 1) fNil)) (fC (.int 2)))) (fNotT (fTru (fIsi "list" (fIx (fVar 1) (fC (.int 1)))))))) (fRet (fC (.bool false))) fNext) (fSeq (fIfS (fAndT (fBool (fOp gNotN2 (fIx (fVar 1) (fC (.int 0))) (fC .none))) (fNotT (fAndT (fTru (fCall 1 g_law_is_integer (fCons (fIx (fVar 1) (fC (.int 0))) fNil))) (fBool (fOp gNeX (fIx (fVar 1) (fC (.int 0))) (fUn gNeg (fC (.int 1)))))))) (fRet (fC (.bool false))) fNext) (fFor (fiList (fIx (fVar 1) (fC (.int 1)))) (fgName 2) (fIfS (fOrT (fNotT (fTru (fIsi "tuple" (fVar 2)))) (fOrT (fBool (fOp gNeX (fCa gLen (fCons (fVar 2) fNil)) (fC (.int 2)))) (fOrT (fNotT (fTru (fCall 1 g_law_is_integer (fCons (fIx (fVar 2) (fC (.int 0))) fNil)))) (fNotT (fTru (fIsi "list" (fIx (fVar 2) (fC (.int 1))))))))) (fRet (fC (.bool false))) fNext))))) (fRet (fC (.bool true))))
noncomputable def g_law_is_claims : DS → Option DR := funO [] 1 3 fb_law_is_claims
noncomputable def fb_law_is_certificate : DS → Option Out := (fSeq (fIfS (fOrT (fNotT (fTru (fIsi "tuple" (fVar 0)))) (fOrT (fBool (fOp gNeX (fCa gLen (fCons (fVar 0) fNil)) (fC (.int 5)))) (fBool (fOp (gCmp fun i j => decide (j < i)) (fCa gLen (fCons (fLc (fiTup (fVar 0)) (fgName 2) (fNotT (fTru (fIsi "list" (fVar 2)))) (fVar 2) [2]) fNil)) (fC (.int 0)))))) (fRet (fC (.bool false))) fNext) (fSeq (fFor (fiList (fIx (fVar 0) (fC (.int 0)))) (fgName 2) (fFor (fiList (fVar 2)) (fgName 3) (fFor (fiList (fVar 3)) (fgName 4) (fIfS (fOrT (fNotT (fTru (fIsi "list" (fVar 4)))) (fBool (fOp gNeX (fCa gLen (fCons (fVar 4) fNil)) (fAdd (fVar 1) (fC (.int 1)))))) (fRet (fC (.bool false))) fNext)))) (fSeq (fSet 5 (fAdd (fAdd (fAdd (fLst (fCons (fIx (fVar 0) (fC (.int 1))) fNil)) (fIx (fVar 0) (fC (.int 2)))) (fIx (fVar 0) (fC (.int 3)))) (fIx (fVar 0) (fC (.int 4))))) (fRet (fOp gEqX (fCa gLen (fCons (fLc (fiList (fVar 5)) (fgName 2) (fNotT (fTru (fCall 1 g_law_is_claims (fCons (fVar 2) fNil)))) (fVar 2) [2]) fNil)) (fC (.int 0)))))))
noncomputable def g_law_is_certificate : DS → Option DR := funO [] 2 6 fb_law_is_certificate
noncomputable def fb_law : DS → Option Out := (fSeq (fFor (fiR1 (fCons (fCa (g2I fun i j => if j < i then j else i) (fCons (fAdd (fC (.int 1)) (fCa gLen (fCons (fVar 0) fNil))) (fCons (fC (.int 6)) fNil))) fNil)) (fgName 1) (fSeq (fSet 2 (fAdd (fCall 2 g_law_cell (fCons (fVar 0) (fCons (fVar 1) fNil))) (fMul (fC (.int 3)) (fVar 1)))) (fSeq (fSet 3 (fOp (gI cNz fun i j => .int (i.fmod j)) (fVar 2) (fC (.int 4)))) (fSeq (fSet 4 (fLst (fCons (fCall 3 g_law_digits (fCons (fOp (gI cNz fun i j => .int (i.fdiv j)) (fVar 2) (fC (.int 4))) (fCons (fC (.int 27720)) (fCons (fC (.int 60)) fNil)))) (fCons (fC (.int 0)) fNil)))) (fSeq (fSet 5 (fCall 1 g_law_book (fCons (fCallIO 2 g_law_certificate 4 (fCons (fVar 3) fNil)) fNil))) (fSeq (fSet 6 (fLst (fCons (fVar 5) (fCons (fCall 2 g_law_changed (fCons (fVar 5) (fCons (fOp (gI cNz fun i j => .int (i.fdiv j)) (fVar 2) (fC (.int 4))) fNil))) (fCons (fCall 2 g_law_changed (fCons (fVar 5) (fCons (fAdd (fOp (gI cNz fun i j => .int (i.fdiv j)) (fVar 2) (fC (.int 11))) (fC (.int 1))) fNil))) fNil))))) (fSeq (fApp 6 (fLc (fiList (fCall 3 g_law_digits (fCons (fAdd (fOp (gI cNz fun i j => .int (i.fdiv j)) (fVar 2) (fC (.int 9))) (fC (.int 1))) (fCons (fC (.int 27720)) (fCons (fOp (gI cNz fun i j => .int (i.fmod j)) (fOp (gI cNz fun i j => .int (i.fdiv j)) (fVar 2) (fC (.int 3))) (fC (.int 41))) fNil))))) (fgName 12) fYes (fOp (gI cT fun i j => .int (i - j)) (fOp (gI cNz fun i j => .int (i.fmod j)) (fVar 12) (fC (.int 5))) (fMul (fOp (gI cNz fun i j => .int (i.fdiv j)) (fOp (gI cNz fun i j => .int (i.fmod j)) (fOp (gI cNz fun i j => .int (i.fdiv j)) (fVar 12) (fC (.int 5))) (fC (.int 9))) (fC (.int 8))) (fC (.int 6)))) [12])) (fSeq (fApp 6 (fMul (fLst (fCons (fC (.int 0)) fNil)) (fOp (gI cNz fun i j => .int (i.fmod j)) (fOp (gI cNz fun i j => .int (i.fdiv j)) (fVar 2) (fC (.int 5))) (fC (.int 8))))) (fFor (fiR1 (fCons (fCa gLen (fCons (fVar 6) fNil)) fNil)) (fgName 7) (fSeq (fSet 8 (fIx (fVar 6) (fVar 7))) (fSeq (fSet 9 (fListOf (fCons (fVar 8) fNil))) (fFor (fiList (fLst (fCons (fVar 3) (fCons (fOp (gI cNz fun i j => .int (i.fmod j)) (fAdd (fAdd (fVar 3) (fC (.int 1))) (fOp (gI cNz fun i j => .int (i.fmod j)) (fOp (gI cNz fun i j => .int (i.fdiv j)) (fVar 2) (fC (.int 13))) (fC (.int 3)))) (fC (.int 4))) fNil)))) (fgName 10) (fSeq (fSet 11 (fCall 2 g_law_told (fCons (fVar 8) (fCons (fVar 10) fNil)))) (fSeq (fBorS 11 [5, 6] [4] [] [] (fIfS (fOrT (fBool (fOp gNeX (fVar 8) (fVar 9))) (fAndT (fBool (fOp gEqX (fVar 7) (fC (.int 0)))) (fAndT (fBool (fOp gEqX (fVar 10) (fVar 3))) (fBool (fOp gIsN2 (fVar 11) (fC .none)))))) (fRet (fC (.bool false))) fNext)) (fSeq (fBorS 11 [] [] [] [] (fIfS (fAndT (fBool (fOp gNotN2 (fVar 11) (fC .none))) (fOrT (fNotT (fTru (fCall 2 g_law_is_certificate (fCons (fVar 11) (fCons (fVar 10) fNil))))) (fBool (fOp gNeX (fCall 1 g_law_book (fCons (fVar 11) fNil)) (fVar 8))))) (fRet (fC (.bool false))) fNext)) (fBorS 11 [] [] [] [] (fIfS (fAndT (fBool (fOp gNotN2 (fVar 11) (fC .none))) (fBool (fOp gNeX (fCall 1 g_write_book (fCons (fVar 11) fNil)) (fVar 8)))) (fRet (fC (.bool false))) fNext))))))))))))))))) (fRet (fC (.bool true))))
noncomputable def g_law : DS → Option DR := funO [] 1 13 fb_law
section
variable {P : Program} {w : World} {K : PySem.W.Frag} {mg : Str → Option Value} {base : Heap}
theorem d_law_list_book (T : Tx K mg) (B : Bx P base) : Dk P w K [] mg base 41 "_law_list_book" 1 g_law_list_book := by
 obtain ⟨f, fd, F, hm, hb⟩ := T.F_law_list_book
 exact def_ok F hm hb sc_law_list_book (by decide) (fun cdv A outer s H E hr => ⟨_, (b_cons (s_set 1 sc_law_list_book.nd (j_lst (a_cons (j_len T.m_len (a_cons (jv 0) a_nil)) a_nil))) (b_cons (s_for rfl (i_list (jv 0)) (g_name 2 sc_law_list_book.nd) (b_one (s_set 1 sc_law_list_book.nd (j_add (jv 1) (jv 2))))) (b_one (s_ret (jv 1)))))⟩) (fun _ h => nomatch h)
theorem d_law_claim_book (T : Tx K mg) (B : Bx P base) : Dk P w K [] mg base 42 "_law_claim_book" 1 g_law_claim_book := by
 obtain ⟨f, fd, F, hm, hb⟩ := T.F_law_claim_book
 exact def_ok F hm hb sc_law_claim_book (by decide) (fun cdv A outer s H E hr => ⟨_, (b_cons (s_asg (jv 0) (g_tup rfl (gs_cons (g_name 1 sc_law_claim_book.nd) (gs_cons (g_name 2 sc_law_claim_book.nd) gs_nil)))) (b_cons (s_setLc (own := [("_law_scale", 4), ("_law_factors", 5)]) (T := [4, 5]) 3 rfl sc_law_claim_book.nd (sw_true rfl rfl rfl (by decide +kernel)) (i_list (jv 2)) (blkOk_by (own := [("_law_scale", 4), ("_law_factors", 5)]) (N := nm_law_claim_book) (sc := defScope s_law_claim_book) (by decide +kernel)) (fun _ _ _ _ _ => (g_tup rfl (gs_cons (g_name 4 sc_law_claim_book.nd) (gs_cons (g_name 5 sc_law_claim_book.nd) gs_nil)))) (fun _ _ _ _ _ => s_nil) (fun _ _ _ _ _ => (j_add (j_add (j_lst (a_cons (jv 4) a_nil)) (j_lst (a_cons (j_len T.m_len (a_cons (jv 5) a_nil)) a_nil))) (jv 5))) (by decide) s H) (b_one (s_ret (j_add (j_lst (a_cons (j_if (k_isN (jv 1) j_non) (j_neg j_int) (jv 1)) a_nil)) (j_call (d_law_list_book T B) (hr.mono (by decide)) (a_cons (jv 3) a_nil)))))))⟩) (fun _ h => nomatch h)
theorem d_law_book (T : Tx K mg) (B : Bx P base) : Dk P w K [] mg base 43 "_law_book" 1 g_law_book := by
 obtain ⟨f, fd, F, hm, hb⟩ := T.F_law_book
 exact def_ok F hm hb sc_law_book (by decide) (fun cdv A outer s H E hr => ⟨_, (b_cons (s_asg (jv 0) (g_tup rfl (gs_cons (g_name 1 sc_law_book.nd) (gs_cons (g_name 2 sc_law_book.nd) (gs_cons (g_name 3 sc_law_book.nd) (gs_cons (g_name 4 sc_law_book.nd) (gs_cons (g_name 5 sc_law_book.nd) gs_nil))))))) (b_cons (s_set 6 sc_law_book.nd (j_call (d_law_list_book T B) (hr.mono (by decide)) (a_cons (j_lc (own := [("_law_part", 8)]) (T := [8]) rfl sc_law_book.nd (i_list (jv 1)) (blkOk_by (own := [("_law_part", 8)]) (N := nm_law_book) (sc := defScope s_law_book) (by decide +kernel)) (fun _ _ _ _ _ => (g_name 8 sc_law_book.nd)) (fun _ _ _ _ _ => s_nil) (fun _ _ _ _ _ => (j_call (d_law_list_book T B) (hr.mono (by decide)) (a_cons (j_lc (own := [("_law_piece", 9)]) (T := [9]) rfl sc_law_book.nd (i_list (jv 8)) (blkOk_by (own := [("_law_piece", 9)]) (by rfl)) (fun _ _ _ _ _ => (g_name 9 sc_law_book.nd)) (fun _ _ _ _ _ => s_nil) (fun _ _ _ _ _ => (j_call (d_law_list_book T B) (hr.mono (by decide)) (a_cons (j_lc (own := [("_law_row", 10)]) (T := [10]) rfl sc_law_book.nd (i_list (jv 9)) (blkOk_by (own := [("_law_row", 10)]) (by rfl)) (fun _ _ _ _ _ => (g_name 10 sc_law_book.nd)) (fun _ _ _ _ _ => s_nil) (fun _ _ _ _ _ => (j_add (j_lst (a_cons (j_len T.m_len (a_cons (jv 10) a_nil)) a_nil)) (jv 10))) (by decide) s H) a_nil))) (by decide) s H) a_nil))) (by decide) s H) a_nil))) (b_cons (s_set 6 sc_law_book.nd (j_add (jv 6) (j_call (d_law_list_book T B) (hr.mono (by decide)) (a_cons (j_lc (own := [("_law_claim_here", 11)]) (T := [11]) rfl sc_law_book.nd (i_list (jv 2)) (blkOk_by (own := [("_law_claim_here", 11)]) (N := nm_law_book) (sc := defScope s_law_book) (by decide +kernel)) (fun _ _ _ _ _ => (g_name 11 sc_law_book.nd)) (fun _ _ _ _ _ => s_nil) (fun _ _ _ _ _ => (j_call (d_law_claim_book T B) (hr.mono (by decide)) (a_cons (jv 11) a_nil))) (by decide) s H) a_nil)))) (b_cons (s_for rfl (i_list (j_lst (a_cons (jv 3) (a_cons (jv 4) (a_cons (jv 5) a_nil))))) (g_name 7 sc_law_book.nd) (b_one (s_set 6 sc_law_book.nd (j_add (jv 6) (j_call (d_law_list_book T B) (hr.mono (by decide)) (a_cons (j_lc (own := [("_law_part", 8)]) (T := [8]) rfl sc_law_book.nd (i_list (jv 7)) (blkOk_by (own := [("_law_part", 8)]) (N := nm_law_book) (sc := defScope s_law_book) (by decide +kernel)) (fun _ _ _ _ _ => (g_name 8 sc_law_book.nd)) (fun _ _ _ _ _ => s_nil) (fun _ _ _ _ _ => (j_call (d_law_list_book T B) (hr.mono (by decide)) (a_cons (j_lc (own := [("_law_claim_here", 11)]) (T := [11]) rfl sc_law_book.nd (i_list (jv 8)) (blkOk_by (own := [("_law_claim_here", 11)]) (by rfl)) (fun _ _ _ _ _ => (g_name 11 sc_law_book.nd)) (fun _ _ _ _ _ => s_nil) (fun _ _ _ _ _ => (j_call (d_law_claim_book T B) (hr.mono (by decide)) (a_cons (jv 11) a_nil))) (by decide) s H) a_nil))) (by decide) s H) a_nil)))))) (b_one (s_ret (jv 6)))))))⟩) (fun _ h => nomatch h)
theorem d_law_cell (T : Tx K mg) (B : Bx P base) : Dk P w K [] mg base 41 "_law_cell" 2 g_law_cell := by
 obtain ⟨f, fd, F, hm, hb⟩ := T.F_law_cell
 exact def_ok F hm hb sc_law_cell (by decide) (fun cdv A outer s H E hr => ⟨_, (b_cons (s_if (k_lt (jv 1) (j_len T.m_len (a_cons (jv 0) a_nil))) (b_one (s_ret (j_abs T.m_abs (a_cons (j_intc T.m_int (a_cons (j_ix (jv 0) (jv 1)) a_nil)) a_nil)))) b_nil) (b_one (s_ret j_int)))⟩) (fun _ h => nomatch h)
theorem d_law_digits (T : Tx K mg) (B : Bx P base) : Dk P w K [] mg base 41 "_law_digits" 3 g_law_digits := by
 obtain ⟨f, fd, F, hm, hb⟩ := T.F_law_digits
 exact def_ok F hm hb sc_law_digits (by decide) (fun cdv A outer s H E hr => ⟨_, (b_cons (s_set 3 sc_law_digits.nd (j_lst a_nil)) (b_cons (s_set 4 sc_law_digits.nd (j_ge (jv 0) (j_pow j_int j_int))) (b_cons (s_for rfl (i_r1 T.m_range (a_cons (jv 2) a_nil)) (g_name 5 sc_law_digits.nd) (b_one (s_if (k_tru (jv 4)) (b_cons (s_app 3 (j_mod (j_intc T.m_int (a_cons (jv 0) a_nil)) (jv 1))) (b_one (s_set 0 sc_law_digits.nd (j_fdivP B hr (jv 0) (jv 1))))) (b_one (s_app 3 (j_mod (j_mod (j_intc T.m_int (a_cons (j_add (j_add (j_mul (jv 0) j_int) (j_mul (j_mul (j_add (jv 5) j_int) (j_add (jv 5) j_int)) j_int)) (j_mul (j_fdivP B hr (jv 0) j_int) (jv 5))) a_nil)) j_int) (jv 1))))))) (b_one (s_ret (jv 3))))))⟩) (fun _ h => nomatch h)
theorem d_law_take (T : Tx K mg) (B : Bx P base) : Dk P w K [] mg base 41 "_law_take" 2 g_law_take := by
 obtain ⟨f, fd, F, hm, hb⟩ := T.F_law_take
 exact def_ok (io := [0]) F hm hb sc_law_take (by decide) (fun cdv A outer s H E hr => ⟨_, (b_cons (s_set 2 sc_law_take.nd (j_ix (jv 0) j_int)) (b_cons (s_setIx 0 (j_add (jv 2) j_int) j_int) (b_one (s_ret (j_mod (j_fdivP B hr (j_ix (j_ix (jv 0) j_int) (j_mod (jv 2) (j_len T.m_len (a_cons (j_ix (jv 0) j_int) a_nil)))) (j_add j_int (j_fdivP B hr (jv 2) (j_len T.m_len (a_cons (j_ix (jv 0) j_int) a_nil))))) (jv 1))))))⟩)
theorem d_law_number (T : Tx K mg) (B : Bx P base) : Dk P w K [] mg base 42 "_law_number" 1 g_law_number := by
 obtain ⟨f, fd, F, hm, hb⟩ := T.F_law_number
 exact def_ok (io := [0]) F hm hb sc_law_number (by decide) (fun cdv A outer s H E hr => ⟨_, (b_cons (s_set 1 sc_law_number.nd (j_callIO 0 (d_law_take T B) (hr.mono (by decide)) (a_cons j_int a_nil))) (b_cons (s_if (k_eq hr.units (jv 1) j_int) (b_one (s_ret (j_add (j_pow j_int j_int) (j_callIO 0 (d_law_take T B) (hr.mono (by decide)) (a_cons j_int a_nil))))) b_nil) (b_one (s_ret (j_sub (j_callIO 0 (d_law_take T B) (hr.mono (by decide)) (a_cons j_int a_nil)) (j_ix (j_lst (a_cons j_int (a_cons j_int (a_cons j_int (a_cons j_int a_nil))))) (j_sub (jv 1) j_int)))))))⟩)
theorem d_law_claim (T : Tx K mg) (B : Bx P base) : Dk P w K [] mg base 43 "_law_claim" 2 g_law_claim := by
 obtain ⟨f, fd, F, hm, hb⟩ := T.F_law_claim
 exact def_ok (io := [0]) F hm hb sc_law_claim (by decide) (fun cdv A outer s H E hr => ⟨_, (b_cons (s_set 2 sc_law_claim.nd (j_sub (j_callIO 0 (d_law_take T B) (hr.mono (by decide)) (a_cons j_int a_nil)) j_int)) (b_cons (s_set 3 sc_law_claim.nd (j_lst a_nil)) (b_cons (s_for rfl (i_r1 T.m_range (a_cons (j_callIO 0 (d_law_take T B) (hr.mono (by decide)) (a_cons j_int a_nil)) a_nil)) (g_name 4 sc_law_claim.nd) (b_cons (s_setLc (own := [("_law_k", 6)]) (T := [6]) 5 rfl sc_law_claim.nd (sw_true rfl rfl rfl (by decide +kernel)) (i_r1 T.m_range (a_cons (j_callIO 0 (d_law_take T B) (hr.mono (by decide)) (a_cons j_int a_nil)) a_nil)) (blkOk_by (own := [("_law_k", 6)]) (N := nm_law_claim) (sc := defScope s_law_claim) (by decide +kernel)) (fun _ _ _ _ _ => (g_name 6 sc_law_claim.nd)) (fun _ _ _ _ _ => s_nil) (fun _ _ _ _ _ => (j_callIO 0 (d_law_number T B) (hr.mono (by decide)) a_nil)) (by decide) s H) (b_one (s_app 3 (j_tup (a_cons (j_callIO 0 (d_law_number T B) (hr.mono (by decide)) a_nil) (a_cons (jv 5) a_nil))))))) (b_one (s_ret (j_tup (a_cons (j_if (k_lt (jv 2) j_int) j_non (jv 2)) (a_cons (jv 3) a_nil))))))))⟩)
theorem d_law_certificate (T : Tx K mg) (B : Bx P base) : Dk P w K [] mg base 44 "_law_certificate" 2 g_law_certificate := by
 obtain ⟨f, fd, F, hm, hb⟩ := T.F_law_certificate
 exact def_ok (io := [0]) F hm hb sc_law_certificate (by decide) (fun cdv A outer s H E hr => ⟨_, (b_cons (s_set 2 sc_law_certificate.nd (j_lst a_nil)) (b_cons (s_for rfl (i_r1 T.m_range (a_cons (j_callIO 0 (d_law_take T B) (hr.mono (by decide)) (a_cons j_int a_nil)) a_nil)) (g_name 3 sc_law_certificate.nd) (b_cons (s_set 4 sc_law_certificate.nd (j_lst a_nil)) (b_cons (s_for rfl (i_r1 T.m_range (a_cons (j_callIO 0 (d_law_take T B) (hr.mono (by decide)) (a_cons j_int a_nil)) a_nil)) (g_name 5 sc_law_certificate.nd) (b_one (s_app 4 (j_lc (own := [("_law_row", 8)]) (T := [8]) rfl sc_law_certificate.nd (i_r1 T.m_range (a_cons (j_callIO 0 (d_law_take T B) (hr.mono (by decide)) (a_cons j_int a_nil)) a_nil)) (blkOk_by (own := [("_law_row", 8)]) (N := nm_law_certificate) (sc := defScope s_law_certificate) (by decide +kernel)) (fun _ _ _ _ _ => (g_name 8 sc_law_certificate.nd)) (fun _ _ _ _ _ => s_nil) (fun _ _ _ _ _ => (j_lc (own := [("_law_j", 9)]) (T := [9]) rfl sc_law_certificate.nd (i_r1 T.m_range (a_cons (j_add (jv 1) j_int) a_nil)) (blkOk_by (own := [("_law_j", 9)]) (by rfl)) (fun _ _ _ _ _ => (g_name 9 sc_law_certificate.nd)) (fun _ _ _ _ _ => s_nil) (fun _ _ _ _ _ => (j_callIO 0 (d_law_number T B) (hr.mono (by decide)) a_nil)) (by decide) s H)) (by decide) s H)))) (b_one (s_app 2 (jv 4)))))) (b_cons (s_setLc (own := [("_law_k", 5)]) (T := [5]) 6 rfl sc_law_certificate.nd (sw_true rfl rfl rfl (by decide +kernel)) (i_r1 T.m_range (a_cons (j_callIO 0 (d_law_take T B) (hr.mono (by decide)) (a_cons j_int a_nil)) a_nil)) (blkOk_by (own := [("_law_k", 5)]) (N := nm_law_certificate) (sc := defScope s_law_certificate) (by decide +kernel)) (fun _ _ _ _ _ => (g_name 5 sc_law_certificate.nd)) (fun _ _ _ _ _ => s_nil) (fun _ _ _ _ _ => (j_callIO 0 (d_law_claim T B) (hr.mono (by decide)) (a_cons (jv 1) a_nil))) (by decide) s H) (b_cons (s_set 7 sc_law_certificate.nd (j_lst a_nil)) (b_cons (s_for rfl (i_r1 T.m_range (a_cons j_int a_nil)) (g_name 3 sc_law_certificate.nd) (b_one (s_app 7 (j_lc (own := [("_law_part", 4)]) (T := [4]) rfl sc_law_certificate.nd (i_r1 T.m_range (a_cons (j_callIO 0 (d_law_take T B) (hr.mono (by decide)) (a_cons j_int a_nil)) a_nil)) (blkOk_by (own := [("_law_part", 4)]) (N := nm_law_certificate) (sc := defScope s_law_certificate) (by decide +kernel)) (fun _ _ _ _ _ => (g_name 4 sc_law_certificate.nd)) (fun _ _ _ _ _ => s_nil) (fun _ _ _ _ _ => (j_lc (own := [("_law_k", 5)]) (T := [5]) rfl sc_law_certificate.nd (i_r1 T.m_range (a_cons (j_callIO 0 (d_law_take T B) (hr.mono (by decide)) (a_cons j_int a_nil)) a_nil)) (blkOk_by (own := [("_law_k", 5)]) (by rfl)) (fun _ _ _ _ _ => (g_name 5 sc_law_certificate.nd)) (fun _ _ _ _ _ => s_nil) (fun _ _ _ _ _ => (j_callIO 0 (d_law_claim T B) (hr.mono (by decide)) (a_cons (jv 1) a_nil))) (by decide) s H)) (by decide) s H)))) (b_one (s_ret (j_tup (a_cons (jv 2) (a_cons (jv 6) (a_cons (j_ix (jv 7) j_int) (a_cons (j_ix (jv 7) j_int) (a_cons (j_ix (jv 7) j_int) a_nil)))))))))))))⟩)
theorem d_law_changed (T : Tx K mg) (B : Bx P base) : Dk P w K [] mg base 41 "_law_changed" 2 g_law_changed := by
 obtain ⟨f, fd, F, hm, hb⟩ := T.F_law_changed
 exact def_ok F hm hb sc_law_changed (by decide) (fun cdv A outer s H E hr => ⟨_, (b_cons (s_set 2 sc_law_changed.nd (j_mod (j_fdivP B hr (jv 1) j_int) (j_len T.m_len (a_cons (jv 0) a_nil)))) (b_cons (s_set 3 sc_law_changed.nd (j_ix (j_lst (a_cons (j_sub (j_mod (j_fdivP B hr (jv 1) j_int) j_int) j_int) (a_cons (j_neg j_int) (a_cons (j_add (j_ix (jv 0) (jv 2)) j_int) (a_cons (j_pow j_int j_int) a_nil))))) (j_mod (j_fdivP B hr (jv 1) j_int) j_int))) (b_cons (s_if (k_eq hr.units (j_mod (jv 1) j_int) j_int) (b_one (s_ret (j_add (j_add (j_sl (jv 0) o_none (o_some (jv 2))) (j_lst (a_cons (jv 3) a_nil))) (j_sl (jv 0) (o_some (j_add (jv 2) j_int)) o_none)))) b_nil) (b_cons (s_if (k_eq hr.units (j_mod (jv 1) j_int) j_int) (b_one (s_ret (j_add (j_sl (jv 0) o_none (o_some (jv 2))) (j_sl (jv 0) (o_some (j_add (jv 2) j_int)) o_none)))) b_nil) (b_cons (s_if (k_eq hr.units (j_mod (jv 1) j_int) j_int) (b_one (s_ret (j_add (j_add (j_sl (jv 0) o_none (o_some (jv 2))) (j_lst (a_cons (jv 3) a_nil))) (j_sl (jv 0) (o_some (jv 2)) o_none)))) b_nil) (b_cons (s_if (k_eq hr.units (j_mod (jv 1) j_int) j_int) (b_one (s_ret (j_sl (jv 0) o_none (o_some (jv 2))))) b_nil) (b_one (s_ret (j_add (jv 0) (j_lst (a_cons (jv 3) a_nil)))))))))))⟩) (fun _ h => nomatch h)
theorem d_BookReader___init__ {C f0 : Addr} (T : Tx K mg) (c_BookReader : Ob_BookReader K mg C f0) (B : Bx P base) : Dm P w K [] mg base 41 C ["numbers", "n", "place"] "__init__" 3 g_BookReader___init__ := by
 obtain ⟨f, fd, F, hm, hb⟩ := c_BookReader.F___init__
 exact meth_ok F hm hb sc_BookReader___init__ (by decide) (fun cdv A outer s H E hr => ⟨_, (b_cons (s_putF 0 c_BookReader.oc (jv 1)) (b_cons (s_putF 1 c_BookReader.oc (jv 2)) (b_one (s_putF 2 c_BookReader.oc j_int))))⟩)
theorem d_BookReader_take {C f0 : Addr} (T : Tx K mg) (c_BookReader : Ob_BookReader K mg C f0) (B : Bx P base) : Dm P w K [] mg base 41 C ["numbers", "n", "place"] "take" 1 g_BookReader_take := by
 obtain ⟨f, fd, F, hm, hb⟩ := c_BookReader.F_take
 obtain ⟨C_BadBook, C_FloodError, C_OutOfRange, c⟩ := T.cls
 exact meth_ok F hm hb sc_BookReader_take (by decide) (fun cdv A outer s H E hr => ⟨_, (b_cons (s_if (k_eq hr.units (j_fld 2 c_BookReader.oc) (j_len T.m_len (a_cons (j_fld 0 c_BookReader.oc) a_nil))) (b_one (s_raise rfl (takes_of rfl rfl rfl rfl) c.e_BadBook)) b_nil) (b_cons (s_augF 2 c_BookReader.oc j_int) (b_one (s_ret (j_frz (j_ix (j_fld 0 c_BookReader.oc) (j_sub (j_fld 2 c_BookReader.oc) j_int)))))))⟩)
theorem d_BookReader_size {C f0 : Addr} (T : Tx K mg) (c_BookReader : Ob_BookReader K mg C f0) (B : Bx P base) : Dm P w K [] mg base 42 C ["numbers", "n", "place"] "size" 1 g_BookReader_size := by
 obtain ⟨f, fd, F, hm, hb⟩ := c_BookReader.F_size
 obtain ⟨C_BadBook, C_FloodError, C_OutOfRange, c⟩ := T.cls
 exact meth_ok F hm hb sc_BookReader_size (by decide) (fun cdv A outer s H E hr => ⟨_, (b_cons (s_setX 1 sc_BookReader_size.nd (x_meth0 (takes_of rfl rfl rfl rfl) c_BookReader.oc (d_BookReader_take T c_BookReader B) (hr.mono (by decide)) (hm := (by decide : ("take" : Str) ∉ (["numbers", "n", "place"] : List Str))))) (b_cons (s_if (k_not (k_chain .le .le j_int (jv 1) (j_sub (j_len T.m_len (a_cons (j_fld 0 c_BookReader.oc) a_nil)) (j_fld 2 c_BookReader.oc)))) (b_one (s_raise rfl (takes_of rfl rfl rfl rfl) c.e_BadBook)) b_nil) (b_one (s_ret (j_frz (jv 1))))))⟩)
theorem d_BookReader_claim {C f0 : Addr} (T : Tx K mg) (c_BookReader : Ob_BookReader K mg C f0) (B : Bx P base) : Dm P w K [] mg base 43 C ["numbers", "n", "place"] "claim" 1 g_BookReader_claim := by
 obtain ⟨f, fd, F, hm, hb⟩ := c_BookReader.F_claim
 obtain ⟨C_BadBook, C_FloodError, C_OutOfRange, c⟩ := T.cls
 exact meth_ok F hm hb sc_BookReader_claim (by decide) (fun cdv A outer s H E hr => ⟨_, (b_cons (s_setX 1 sc_BookReader_claim.nd (x_meth0 (takes_of rfl rfl rfl rfl) c_BookReader.oc (d_BookReader_take T c_BookReader B) (hr.mono (by decide)) (hm := (by decide : ("take" : Str) ∉ (["numbers", "n", "place"] : List Str))))) (b_cons (s_if (k_lt (jv 1) (j_neg j_int)) (b_one (s_raise rfl (takes_of rfl rfl rfl rfl) c.e_BadBook)) b_nil) (b_cons (s_set 2 sc_BookReader_claim.nd (j_lst a_nil)) (b_cons (s_forX rfl (ix_r1 T.m_range (jax_cons (x_meth0 (takes_of rfl rfl rfl rfl) c_BookReader.oc (d_BookReader_size T c_BookReader B) (hr.mono (by decide)) (hm := (by decide : ("size" : Str) ∉ (["numbers", "n", "place"] : List Str)))) jax_nil)) (g_name 3 sc_BookReader_claim.nd) (b_cons (s_setX 4 sc_BookReader_claim.nd (x_meth0 (takes_of rfl rfl rfl rfl) c_BookReader.oc (d_BookReader_take T c_BookReader B) (hr.mono (by decide)) (hm := (by decide : ("take" : Str) ∉ (["numbers", "n", "place"] : List Str))))) (b_one (s_appTX 2 (x_tupO (jax_cons (jx_of (jv 4)) (jax_cons (x_lcM (own := [("_", 3)]) (T := [3]) (takes_of rfl rfl rfl rfl) rfl sc_BookReader_claim.nd (ix_r1 T.m_range (jax_cons (x_meth0 (takes_of rfl rfl rfl rfl) c_BookReader.oc (d_BookReader_size T c_BookReader B) (hr.mono (by decide)) (hm := (by decide : ("size" : Str) ∉ (["numbers", "n", "place"] : List Str)))) jax_nil)) (blkOk_by (own := [("_", 3)]) (N := nm_BookReader_claim) (sc := defScope s_BookReader_claim) (by decide +kernel)) (fun _ _ _ _ _ _ => (g_name 3 sc_BookReader_claim.nd)) (fun _ _ _ _ _ _ z0 => (x_meth0 z0 c_BookReader.oc (d_BookReader_take T c_BookReader B) (hr.mono (by decide)) (hm := (by decide : ("take" : Str) ∉ (["numbers", "n", "place"] : List Str))))) (by decide) s H) jax_nil))))))) (b_one (s_ret (j_tupO (a_cons (j_if (k_eq hr.units (jv 1) (j_neg j_int)) j_non (jv 1)) (a_cons (jv 2) a_nil)))))))))⟩)
theorem d_BookReader_claims {C f0 : Addr} (T : Tx K mg) (c_BookReader : Ob_BookReader K mg C f0) (B : Bx P base) : Dm P w K [] mg base 44 C ["numbers", "n", "place"] "claims" 1 g_BookReader_claims := by
 obtain ⟨f, fd, F, hm, hb⟩ := c_BookReader.F_claims
 exact meth_ok F hm hb sc_BookReader_claims (by decide) (fun cdv A outer s H E hr => ⟨_, (b_one (s_retX (x_lcM (own := [("_", 1)]) (T := [1]) (takes_of rfl rfl rfl rfl) rfl sc_BookReader_claims.nd (ix_r1 T.m_range (jax_cons (x_meth0 (takes_of rfl rfl rfl rfl) c_BookReader.oc (d_BookReader_size T c_BookReader B) (hr.mono (by decide)) (hm := (by decide : ("size" : Str) ∉ (["numbers", "n", "place"] : List Str)))) jax_nil)) (blkOk_by (own := [("_", 1)]) (N := nm_BookReader_claims) (sc := defScope s_BookReader_claims) (by decide +kernel)) (fun _ _ _ _ _ _ => (g_name 1 sc_BookReader_claims.nd)) (fun _ _ _ _ _ _ z0 => (x_meth0 z0 c_BookReader.oc (d_BookReader_claim T c_BookReader B) (hr.mono (by decide)) (hm := (by decide : ("claim" : Str) ∉ (["numbers", "n", "place"] : List Str))))) (by decide) s H)))⟩)
theorem d_BookReader_rows_of_claims {C f0 : Addr} (T : Tx K mg) (c_BookReader : Ob_BookReader K mg C f0) (B : Bx P base) : Dm P w K [] mg base 45 C ["numbers", "n", "place"] "rows_of_claims" 1 g_BookReader_rows_of_claims := by
 obtain ⟨f, fd, F, hm, hb⟩ := c_BookReader.F_rows_of_claims
 exact meth_ok F hm hb sc_BookReader_rows_of_claims (by decide) (fun cdv A outer s H E hr => ⟨_, (b_one (s_retX (x_lcM (own := [("_", 1)]) (T := [1]) (takes_of rfl rfl rfl rfl) rfl sc_BookReader_rows_of_claims.nd (ix_r1 T.m_range (jax_cons (x_meth0 (takes_of rfl rfl rfl rfl) c_BookReader.oc (d_BookReader_size T c_BookReader B) (hr.mono (by decide)) (hm := (by decide : ("size" : Str) ∉ (["numbers", "n", "place"] : List Str)))) jax_nil)) (blkOk_by (own := [("_", 1)]) (N := nm_BookReader_rows_of_claims) (sc := defScope s_BookReader_rows_of_claims) (by decide +kernel)) (fun _ _ _ _ _ _ => (g_name 1 sc_BookReader_rows_of_claims.nd)) (fun _ _ _ _ _ _ z0 => (x_meth0 z0 c_BookReader.oc (d_BookReader_claims T c_BookReader B) (hr.mono (by decide)) (hm := (by decide : ("claims" : Str) ∉ (["numbers", "n", "place"] : List Str))))) (by decide) s H)))⟩)
theorem d_BookReader_condition {C f0 : Addr} (T : Tx K mg) (c_BookReader : Ob_BookReader K mg C f0) (B : Bx P base) : Dm P w K [] mg base 43 C ["numbers", "n", "place"] "condition" 1 g_BookReader_condition := by
 obtain ⟨f, fd, F, hm, hb⟩ := c_BookReader.F_condition
 obtain ⟨C_BadBook, C_FloodError, C_OutOfRange, c⟩ := T.cls
 exact meth_ok F hm hb sc_BookReader_condition (by decide) (fun cdv A outer s H E hr => ⟨_, (b_cons (s_setX 1 sc_BookReader_condition.nd (x_meth0 (takes_of rfl rfl rfl rfl) c_BookReader.oc (d_BookReader_size T c_BookReader B) (hr.mono (by decide)) (hm := (by decide : ("size" : Str) ∉ (["numbers", "n", "place"] : List Str))))) (b_cons (s_if (k_ne hr.units (jv 1) (j_add (j_fld 1 c_BookReader.oc) j_int)) (b_one (s_raise rfl (takes_of rfl rfl rfl rfl) c.e_BadBook)) b_nil) (b_one (s_retX (x_lcM (own := [("_", 2)]) (T := [2]) (takes_of rfl rfl rfl rfl) rfl sc_BookReader_condition.nd (ix_r1 T.m_range (jax_cons (jx_of (jv 1)) jax_nil)) (blkOk_by (own := [("_", 2)]) (N := nm_BookReader_condition) (sc := defScope s_BookReader_condition) (by decide +kernel)) (fun _ _ _ _ _ _ => (g_name 2 sc_BookReader_condition.nd)) (fun _ _ _ _ _ _ z0 => (x_meth0 z0 c_BookReader.oc (d_BookReader_take T c_BookReader B) (hr.mono (by decide)) (hm := (by decide : ("take" : Str) ∉ (["numbers", "n", "place"] : List Str))))) (by decide) s H)))))⟩)
theorem d_BookReader_piece {C f0 : Addr} (T : Tx K mg) (c_BookReader : Ob_BookReader K mg C f0) (B : Bx P base) : Dm P w K [] mg base 44 C ["numbers", "n", "place"] "piece" 1 g_BookReader_piece := by
 obtain ⟨f, fd, F, hm, hb⟩ := c_BookReader.F_piece
 exact meth_ok F hm hb sc_BookReader_piece (by decide) (fun cdv A outer s H E hr => ⟨_, (b_one (s_retX (x_lcM (own := [("_", 1)]) (T := [1]) (takes_of rfl rfl rfl rfl) rfl sc_BookReader_piece.nd (ix_r1 T.m_range (jax_cons (x_meth0 (takes_of rfl rfl rfl rfl) c_BookReader.oc (d_BookReader_size T c_BookReader B) (hr.mono (by decide)) (hm := (by decide : ("size" : Str) ∉ (["numbers", "n", "place"] : List Str)))) jax_nil)) (blkOk_by (own := [("_", 1)]) (N := nm_BookReader_piece) (sc := defScope s_BookReader_piece) (by decide +kernel)) (fun _ _ _ _ _ _ => (g_name 1 sc_BookReader_piece.nd)) (fun _ _ _ _ _ _ z0 => (x_meth0 z0 c_BookReader.oc (d_BookReader_condition T c_BookReader B) (hr.mono (by decide)) (hm := (by decide : ("condition" : Str) ∉ (["numbers", "n", "place"] : List Str))))) (by decide) s H)))⟩)
theorem d_read_book (T : Tx K mg) (B : Bx P base) : DkW P w K [] mg base 46 "read_book" "n" g_read_book := by
 obtain ⟨f, fd, F, hm, hb⟩ := T.F_read_book
 obtain ⟨C_BadBook, C_FloodError, C_OutOfRange, c⟩ := T.cls
 obtain ⟨C_BookReader, f0_BookReader, c_BookReader⟩ := T.ob_BookReader
 exact def_okW F hm hb sc_read_book (by decide) (fun cdv A outer s H E hr => ⟨_, (b_new 2 c_BookReader.mkc c_BookReader.mgc (d_BookReader___init__ T c_BookReader B) (hr.mono (by decide)) (a_cons (j_list T.m_list (a_cons (jv 0) a_nil)) (a_cons (jv 1) a_nil)) (b_cons (s_set 3 sc_read_book.nd (j_lst a_nil)) (b_cons (s_forX rfl (ix_r1 T.m_range (jax_cons (x_meth0 (takes_of rfl rfl rfl rfl) (c_BookReader.oc.at 2) (d_BookReader_size T c_BookReader B) (hr.mono (by decide)) (hm := (by decide : ("size" : Str) ∉ (["numbers", "n", "place"] : List Str)))) jax_nil)) (g_name 4 sc_read_book.nd) (b_one (s_appTX 3 (x_lcM (own := [("_", 4)]) (T := [4]) (takes_of rfl rfl rfl rfl) rfl sc_read_book.nd (ix_r1 T.m_range (jax_cons (x_meth0 (takes_of rfl rfl rfl rfl) (c_BookReader.oc.at 2) (d_BookReader_size T c_BookReader B) (hr.mono (by decide)) (hm := (by decide : ("size" : Str) ∉ (["numbers", "n", "place"] : List Str)))) jax_nil)) (blkOk_by (own := [("_", 4)]) (N := nm_read_book) (sc := defScope s_read_book) (by decide +kernel)) (fun _ _ _ _ _ _ => (g_name 4 sc_read_book.nd)) (fun _ _ _ _ _ _ z0 => (x_meth0 z0 (c_BookReader.oc.at 2) (d_BookReader_piece T c_BookReader B) (hr.mono (by decide)) (hm := (by decide : ("piece" : Str) ∉ (["numbers", "n", "place"] : List Str))))) (by decide) s H)))) (b_cons (s_setX 5 sc_read_book.nd (x_meth0 (takes_of rfl rfl rfl rfl) (c_BookReader.oc.at 2) (d_BookReader_claims T c_BookReader B) (hr.mono (by decide)) (hm := (by decide : ("claims" : Str) ∉ (["numbers", "n", "place"] : List Str))))) (b_cons (s_setX 6 sc_read_book.nd (x_meth0 (takes_of rfl rfl rfl rfl) (c_BookReader.oc.at 2) (d_BookReader_rows_of_claims T c_BookReader B) (hr.mono (by decide)) (hm := (by decide : ("rows_of_claims" : Str) ∉ (["numbers", "n", "place"] : List Str))))) (b_cons (s_setX 7 sc_read_book.nd (x_meth0 (takes_of rfl rfl rfl rfl) (c_BookReader.oc.at 2) (d_BookReader_rows_of_claims T c_BookReader B) (hr.mono (by decide)) (hm := (by decide : ("rows_of_claims" : Str) ∉ (["numbers", "n", "place"] : List Str))))) (b_cons (s_setX 8 sc_read_book.nd (x_meth0 (takes_of rfl rfl rfl rfl) (c_BookReader.oc.at 2) (d_BookReader_rows_of_claims T c_BookReader B) (hr.mono (by decide)) (hm := (by decide : ("rows_of_claims" : Str) ∉ (["numbers", "n", "place"] : List Str))))) (b_cons (s_if (k_ne hr.units (j_fld 2 (c_BookReader.oc.at 2)) (j_len T.m_len (a_cons (j_fld 0 (c_BookReader.oc.at 2)) a_nil))) (b_one (s_raise rfl (takes_of rfl rfl rfl rfl) c.e_BadBook)) b_nil) (b_one (s_ret (j_tupO (a_cons (jv 3) (a_cons (jv 5) (a_cons (jv 6) (a_cons (jv 7) (a_cons (jv 8) a_nil))))))))))))))) sc_read_book.nd)⟩)
theorem d_law_told (T : Tx K mg) (B : Bx P base) : Dk P w K [] mg base 47 "_law_told" 2 g_law_told := by
 obtain ⟨f, fd, F, hm, hb⟩ := T.F_law_told
 obtain ⟨C_BadBook, C_FloodError, C_OutOfRange, c⟩ := T.cls
 exact def_ok F hm hb sc_law_told (by decide) (fun cdv A outer s H E hr => ⟨_, (b_one (s_tryRW 2 (takes_of rfl rfl rfl rfl) c.c_BadBook sc_law_told.nd (d_read_book T B) (hr.mono (by decide)) (fun pn0 xe0 => (jv 0)) (fun pn0 xe0 => (jv 1)) (fun a0 oe0 pn0 hz0 hf0 => (b_one (s_ret (j_if (k_w (w_and (k_tru (j_isE 2 c.x_BadBook T.m_isinstance hz0 hf0 c.g_FloodError c.k_BadBook_FloodError)) (w_and1 (k_not (k_tru (j_isE 2 c.x_BadBook T.m_isinstance hz0 hf0 c.g_OutOfRange c.k_BadBook_OutOfRange)))))) j_non j_str))))))⟩) (fun _ h => nomatch h)
theorem d_put_list (T : Tx K mg) (B : Bx P base) : Dk P w K [] mg base 41 "put_list" 1 g_put_list := by
 obtain ⟨f, fd, F, hm, hb⟩ := T.F_put_list
 exact def_ok F hm hb sc_put_list (by decide) (fun cdv A outer s H E hr => ⟨_, (b_cons (s_set 1 sc_put_list.nd (j_lst (a_cons (j_len T.m_len (a_cons (jv 0) a_nil)) a_nil))) (b_cons (s_for rfl (i_list (jv 0)) (g_name 2 sc_put_list.nd) (b_one (s_set 1 sc_put_list.nd (j_add (jv 1) (jv 2))))) (b_one (s_ret (jv 1)))))⟩) (fun _ h => nomatch h)
theorem d_put_numbers (T : Tx K mg) (B : Bx P base) : Dk P w K [] mg base 41 "put_numbers" 1 g_put_numbers := by
 obtain ⟨f, fd, F, hm, hb⟩ := T.F_put_numbers
 exact def_ok F hm hb sc_put_numbers (by decide) (fun cdv A outer s H E hr => ⟨_, (b_one (s_ret (j_add (j_lst (a_cons (j_len T.m_len (a_cons (jv 0) a_nil)) a_nil)) (j_list T.m_list (a_cons (jv 0) a_nil)))))⟩) (fun _ h => nomatch h)
theorem d_put_claim (T : Tx K mg) (B : Bx P base) : Dk P w K [] mg base 42 "put_claim" 1 g_put_claim := by
 obtain ⟨f, fd, F, hm, hb⟩ := T.F_put_claim
 exact def_ok F hm hb sc_put_claim (by decide) (fun cdv A outer s H E hr => ⟨_, (b_cons (s_asg (jv 0) (g_tup rfl (gs_cons (g_name 1 sc_put_claim.nd) (gs_cons (g_name 2 sc_put_claim.nd) gs_nil)))) (b_cons (s_setLc (own := [("scale", 4), ("factors", 5)]) (T := [4, 5]) 3 rfl sc_put_claim.nd (sw_true rfl rfl rfl (by decide +kernel)) (i_list (jv 2)) (blkOk_by (own := [("scale", 4), ("factors", 5)]) (N := nm_put_claim) (sc := defScope s_put_claim) (by decide +kernel)) (fun _ _ _ _ _ => (g_tup rfl (gs_cons (g_name 4 sc_put_claim.nd) (gs_cons (g_name 5 sc_put_claim.nd) gs_nil)))) (fun _ _ _ _ _ => s_nil) (fun _ _ _ _ _ => (j_add (j_lst (a_cons (jv 4) a_nil)) (j_call (d_put_numbers T B) (hr.mono (by decide)) (a_cons (jv 5) a_nil)))) (by decide) s H) (b_one (s_ret (j_add (j_lst (a_cons (j_if (k_isN (jv 1) j_non) (j_neg j_int) (jv 1)) a_nil)) (j_call (d_put_list T B) (hr.mono (by decide)) (a_cons (jv 3) a_nil)))))))⟩) (fun _ h => nomatch h)
theorem d_put_claims (T : Tx K mg) (B : Bx P base) : Dk P w K [] mg base 43 "put_claims" 1 g_put_claims := by
 obtain ⟨f, fd, F, hm, hb⟩ := T.F_put_claims
 exact def_ok F hm hb sc_put_claims (by decide) (fun cdv A outer s H E hr => ⟨_, (b_one (s_ret (j_call (d_put_list T B) (hr.mono (by decide)) (a_cons (j_lc (own := [("claim", 1)]) (T := [1]) rfl sc_put_claims.nd (i_list (jv 0)) (blkOk_by (own := [("claim", 1)]) (N := nm_put_claims) (sc := defScope s_put_claims) (by decide +kernel)) (fun _ _ _ _ _ => (g_name 1 sc_put_claims.nd)) (fun _ _ _ _ _ => s_nil) (fun _ _ _ _ _ => (j_call (d_put_claim T B) (hr.mono (by decide)) (a_cons (jv 1) a_nil))) (by decide) s H) a_nil))))⟩) (fun _ h => nomatch h)
theorem d_write_book (T : Tx K mg) (B : Bx P base) : Dk P w K [] mg base 44 "write_book" 1 g_write_book := by
 obtain ⟨f, fd, F, hm, hb⟩ := T.F_write_book
 exact def_ok F hm hb sc_write_book (by decide) (fun cdv A outer s H E hr => ⟨_, (b_cons (s_asg (jv 0) (g_tup rfl (gs_cons (g_name 1 sc_write_book.nd) (gs_cons (g_name 2 sc_write_book.nd) (gs_cons (g_name 3 sc_write_book.nd) (gs_cons (g_name 4 sc_write_book.nd) (gs_cons (g_name 5 sc_write_book.nd) gs_nil))))))) (b_cons (s_set 6 sc_write_book.nd (j_lst a_nil)) (b_cons (s_for rfl (i_list (jv 1)) (g_name 7 sc_write_book.nd) (b_one (s_app 6 (j_call (d_put_list T B) (hr.mono (by decide)) (a_cons (j_lc (own := [("piece", 10)]) (T := [10]) rfl sc_write_book.nd (i_list (jv 7)) (blkOk_by (own := [("piece", 10)]) (N := nm_write_book) (sc := defScope s_write_book) (by decide +kernel)) (fun _ _ _ _ _ => (g_name 10 sc_write_book.nd)) (fun _ _ _ _ _ => s_nil) (fun _ _ _ _ _ => (j_call (d_put_list T B) (hr.mono (by decide)) (a_cons (j_lc (own := [("one", 11)]) (T := [11]) rfl sc_write_book.nd (i_list (jv 10)) (blkOk_by (own := [("one", 11)]) (by rfl)) (fun _ _ _ _ _ => (g_name 11 sc_write_book.nd)) (fun _ _ _ _ _ => s_nil) (fun _ _ _ _ _ => (j_call (d_put_numbers T B) (hr.mono (by decide)) (a_cons (jv 11) a_nil))) (by decide) s H) a_nil))) (by decide) s H) a_nil))))) (b_cons (s_set 8 sc_write_book.nd (j_add (j_call (d_put_list T B) (hr.mono (by decide)) (a_cons (jv 6) a_nil)) (j_call (d_put_claims T B) (hr.mono (by decide)) (a_cons (jv 2) a_nil)))) (b_cons (s_for rfl (i_tup (j_tup (a_cons (jv 3) (a_cons (jv 4) (a_cons (jv 5) a_nil))))) (g_name 9 sc_write_book.nd) (b_one (s_set 8 sc_write_book.nd (j_add (jv 8) (j_call (d_put_list T B) (hr.mono (by decide)) (a_cons (j_lc (own := [("claims", 12)]) (T := [12]) rfl sc_write_book.nd (i_list (jv 9)) (blkOk_by (own := [("claims", 12)]) (N := nm_write_book) (sc := defScope s_write_book) (by decide +kernel)) (fun _ _ _ _ _ => (g_name 12 sc_write_book.nd)) (fun _ _ _ _ _ => s_nil) (fun _ _ _ _ _ => (j_call (d_put_claims T B) (hr.mono (by decide)) (a_cons (jv 12) a_nil))) (by decide) s H) a_nil)))))) (b_one (s_ret (jv 8))))))))⟩) (fun _ h => nomatch h)
theorem d_law_is_integer (T : Tx K mg) (B : Bx P base) : Dk P w K [] mg base 41 "_law_is_integer" 1 g_law_is_integer := by
 obtain ⟨f, fd, F, hm, hb⟩ := T.F_law_is_integer
 exact def_ok F hm hb sc_law_is_integer (by decide) (fun cdv A outer s H E hr => ⟨_, (b_one (s_ret (j_and (j_isi (n := "int") T.m_isinstance T.m_int (jv 0)) (j_one (j_not (j_isi (n := "bool") T.m_isinstance T.m_bool (jv 0)))))))⟩) (fun _ h => nomatch h)
theorem d_law_is_claims (T : Tx K mg) (B : Bx P base) : Dk P w K [] mg base 42 "_law_is_claims" 1 g_law_is_claims := by
 obtain ⟨f, fd, F, hm, hb⟩ := T.F_law_is_claims
 exact def_ok F hm hb sc_law_is_claims (by decide) (fun cdv A outer s H E hr => ⟨_, (b_cons (s_for rfl (i_list (jv 0)) (g_name 1 sc_law_is_claims.nd) (b_cons (s_if (k_w (w_or (k_not (k_tru (j_isi (n := "tuple") T.m_isinstance T.m_tuple (jv 1)))) (w_or (k_ne hr.units (j_len T.m_len (a_cons (jv 1) a_nil)) j_int) (w_or1 (k_not (k_tru (j_isi (n := "list") T.m_isinstance T.m_list (j_ix (jv 1) j_int)))))))) (b_one (s_ret j_bl)) b_nil) (b_cons (s_if (k_w (w_and (k_notN (j_ix (jv 1) j_int) j_non) (w_and1 (k_not (k_w (w_and (k_tru (j_call (d_law_is_integer T B) (hr.mono (by decide)) (a_cons (j_ix (jv 1) j_int) a_nil))) (w_and1 (k_ne hr.units (j_ix (jv 1) j_int) (j_neg j_int))))))))) (b_one (s_ret j_bl)) b_nil) (b_one (s_for rfl (i_list (j_ix (jv 1) j_int)) (g_name 2 sc_law_is_claims.nd) (b_one (s_if (k_w (w_or (k_not (k_tru (j_isi (n := "tuple") T.m_isinstance T.m_tuple (jv 2)))) (w_or (k_ne hr.units (j_len T.m_len (a_cons (jv 2) a_nil)) j_int) (w_or (k_not (k_tru (j_call (d_law_is_integer T B) (hr.mono (by decide)) (a_cons (j_ix (jv 2) j_int) a_nil)))) (w_or1 (k_not (k_tru (j_isi (n := "list") T.m_isinstance T.m_list (j_ix (jv 2) j_int))))))))) (b_one (s_ret j_bl)) b_nil))))))) (b_one (s_ret j_bl)))⟩) (fun _ h => nomatch h)
theorem d_law_is_certificate (T : Tx K mg) (B : Bx P base) : Dk P w K [] mg base 43 "_law_is_certificate" 2 g_law_is_certificate := by
 obtain ⟨f, fd, F, hm, hb⟩ := T.F_law_is_certificate
 exact def_ok F hm hb sc_law_is_certificate (by decide) (fun cdv A outer s H E hr => ⟨_, (b_cons (s_if (k_w (w_or (k_not (k_tru (j_isi (n := "tuple") T.m_isinstance T.m_tuple (jv 0)))) (w_or (k_ne hr.units (j_len T.m_len (a_cons (jv 0) a_nil)) j_int) (w_or1 (k_gt (j_len T.m_len (a_cons (j_lc (own := [("_law_part", 2)]) (T := [2]) rfl sc_law_is_certificate.nd (i_tup (jv 0)) (blkOk_by (own := [("_law_part", 2)]) (N := nm_law_is_certificate) (sc := defScope s_law_is_certificate) (by decide +kernel)) (fun _ _ _ _ _ => (g_name 2 sc_law_is_certificate.nd)) (fun _ _ _ _ _ => (s_one (k_not (k_tru (j_isi (n := "list") T.m_isinstance T.m_list (jv 2)))))) (fun _ _ _ _ _ => (jv 2)) (by decide) s H) a_nil)) j_int))))) (b_one (s_ret j_bl)) b_nil) (b_cons (s_for rfl (i_list (j_ix (jv 0) j_int)) (g_name 2 sc_law_is_certificate.nd) (b_one (s_for rfl (i_list (jv 2)) (g_name 3 sc_law_is_certificate.nd) (b_one (s_for rfl (i_list (jv 3)) (g_name 4 sc_law_is_certificate.nd) (b_one (s_if (k_w (w_or (k_not (k_tru (j_isi (n := "list") T.m_isinstance T.m_list (jv 4)))) (w_or1 (k_ne hr.units (j_len T.m_len (a_cons (jv 4) a_nil)) (j_add (jv 1) j_int))))) (b_one (s_ret j_bl)) b_nil))))))) (b_cons (s_set 5 sc_law_is_certificate.nd (j_add (j_add (j_add (j_lst (a_cons (j_ix (jv 0) j_int) a_nil)) (j_ix (jv 0) j_int)) (j_ix (jv 0) j_int)) (j_ix (jv 0) j_int))) (b_one (s_ret (j_eq hr.units (j_len T.m_len (a_cons (j_lc (own := [("_law_part", 2)]) (T := [2]) rfl sc_law_is_certificate.nd (i_list (jv 5)) (blkOk_by (own := [("_law_part", 2)]) (N := nm_law_is_certificate) (sc := defScope s_law_is_certificate) (by decide +kernel)) (fun _ _ _ _ _ => (g_name 2 sc_law_is_certificate.nd)) (fun _ _ _ _ _ => (s_one (k_not (k_tru (j_call (d_law_is_claims T B) (hr.mono (by decide)) (a_cons (jv 2) a_nil)))))) (fun _ _ _ _ _ => (jv 2)) (by decide) s H) a_nil)) j_int))))))⟩) (fun _ h => nomatch h)
theorem d_law (T : Tx K mg) (B : Bx P base) (f : Addr) (cdv : Value) (A : Around) (outer : List Env) (s : Shared) (H : Hp) (E : XK) (hr : Room 47 (A.deeper (PyProof.Rows.envOfC "law" (defScope s_law) s.heap.objs.size f cdv))) (hA : (A.deeper (PyProof.Rows.envOfC "law" (defScope s_law) s.heap.objs.size f cdv)).guards = some []) :
 ∃ t T, JB ⟨K, [], none, nm_law.length, none⟩ (cxOf CX0 P w K mg base nm_law "law" (defScope s_law) f cdv A outer s H E).nox (Zf mg) T (defBody s_law) t fb_law := by
 exact ⟨_, _, (b_cons (s_for rfl (i_r1 T.m_range (a_cons (j_min2 rfl T.m_min (a_cons (j_add j_int (j_len T.m_len (a_cons (jv 0) a_nil))) (a_cons j_int a_nil))) a_nil)) (g_name 1 sc_law.nd) (b_cons (s_set 2 sc_law.nd (j_add (j_call (d_law_cell T B) (hr.mono (by decide)) (a_cons (jv 0) (a_cons (jv 1) a_nil))) (j_mul j_int (jv 1)))) (b_cons (s_set 3 sc_law.nd (j_mod (jv 2) j_int)) (b_cons (s_set 4 sc_law.nd (j_lst (a_cons (j_call (d_law_digits T B) (hr.mono (by decide)) (a_cons (j_fdivP B hr (jv 2) j_int) (a_cons j_int (a_cons j_int a_nil)))) (a_cons j_int a_nil)))) (b_cons (s_set 5 sc_law.nd (j_call (d_law_book T B) (hr.mono (by decide)) (a_cons (j_callIO 4 (d_law_certificate T B) (hr.mono (by decide)) (a_cons (jv 3) a_nil)) a_nil))) (b_cons (s_set 6 sc_law.nd (j_lst (a_cons (jv 5) (a_cons (j_call (d_law_changed T B) (hr.mono (by decide)) (a_cons (jv 5) (a_cons (j_fdivP B hr (jv 2) j_int) a_nil))) (a_cons (j_call (d_law_changed T B) (hr.mono (by decide)) (a_cons (jv 5) (a_cons (j_add (j_fdivP B hr (jv 2) j_int) j_int) a_nil))) a_nil))))) (b_cons (s_app 6 (j_lc (own := [("_law_digit", 12)]) (T := [12]) rfl sc_law.nd (i_list (j_call (d_law_digits T B) (hr.mono (by decide)) (a_cons (j_add (j_fdivP B hr (jv 2) j_int) j_int) (a_cons j_int (a_cons (j_mod (j_fdivP B hr (jv 2) j_int) j_int) a_nil))))) (blkOk_by (own := [("_law_digit", 12)]) (N := nm_law) (sc := defScope s_law) (by decide +kernel)) (fun _ _ _ _ _ => (g_name 12 sc_law.nd)) (fun _ _ _ _ _ => s_nil) (fun _ _ _ _ _ => (j_sub (j_mod (jv 12) j_int) (j_mul (j_fdivP B hr (j_mod (j_fdivP B hr (jv 12) j_int) j_int) j_int) j_int))) (by decide) s H)) (b_cons (s_app 6 (j_mul (j_lst (a_cons j_int a_nil)) (j_mod (j_fdivP B hr (jv 2) j_int) j_int))) (b_one (s_for rfl (i_r1 T.m_range (a_cons (j_len T.m_len (a_cons (jv 6) a_nil)) a_nil)) (g_name 7 sc_law.nd) (b_cons (s_set 8 sc_law.nd (j_ix (jv 6) (jv 7))) (b_cons (s_set 9 sc_law.nd (j_list T.m_list (a_cons (jv 8) a_nil))) (b_one (s_for rfl (i_list (j_lst (a_cons (jv 3) (a_cons (j_mod (j_add (j_add (jv 3) j_int) (j_mod (j_fdivP B hr (jv 2) j_int) j_int)) j_int) a_nil)))) (g_name 10 sc_law.nd) (b_cons (s_set 11 sc_law.nd (j_call (d_law_told T B) (hr.mono (by decide)) (a_cons (jv 8) (a_cons (jv 10) a_nil)))) (b_cons (s_bor 11 [5, 6] [4] [] (s_if (k_w (w_or (k_ne hr.units (jv 8) (jv 9)) (w_or1 (k_w (w_and (k_eq hr.units (jv 7) j_int) (w_and (k_eq hr.units (jv 10) (jv 3)) (w_and1 (k_isN (jv 11) j_non)))))))) (b_one (s_ret j_bl)) b_nil)) (b_cons (s_bor 11 [] [] [] (s_if (k_w (w_and (k_notN (jv 11) j_non) (w_and1 (k_w (w_or (k_not (k_tru (j_call (d_law_is_certificate T B) (hr.mono (by decide)) (a_cons (jv 11) (a_cons (jv 10) a_nil))))) (w_or1 (k_ne hr.units (j_call (d_law_book T B) (hr.mono (by decide)) (a_cons (jv 11) a_nil)) (jv 8)))))))) (b_one (s_ret j_bl)) b_nil)) (b_one (s_bor 11 [] [] [] (s_if (k_w (w_and (k_notN (jv 11) j_non) (w_and1 (k_ne hr.units (j_call (d_write_book T B) (hr.mono (by decide)) (a_cons (jv 11) a_nil)) (jv 8))))) (b_one (s_ret j_bl)) b_nil)))))))))))))))))))) (b_one (s_ret j_bl)))⟩
end
end Lw
set_option Elab.async false
set_option linter.all false
set_option maxRecDepth 100000
set_option maxHeartbeats 4000000
namespace Lw
open PySem PySem.Spec L2 Fx
abbrev Ps (R : Type) := List Int → Option (R × List Int)
def pTake : Ps Int
 | [] => none
 | x :: xs => some (x, xs)
def pSize : Ps Nat
 | [] => none
 | c :: xs => if 0 ≤ c ∧ c ≤ (xs.length : Int) then some (c.toNat, xs) else none
def pMany {R : Type} (P : Ps R) : Nat → Ps (List R)
 | 0, xs => some ([], xs)
 | k + 1, xs => (P xs).bind fun p => (pMany P k p.2).map fun q => (p.1 :: q.1, q.2)
def pList {R : Type} (P : Ps R) : Ps (List R) := fun xs => (pSize xs).bind fun p => pMany P p.1 p.2
def pCond (n : Int) : Ps (List Int) := fun xs => (pSize xs).bind fun p => if (p.1 : Int) = n + 1 then pMany pTake p.1 p.2 else none
def pRow : Ps (Int × List Int) := fun xs => (pTake xs).bind fun p => (pList pTake p.2).map fun q => ((p.1, q.1), q.2)
abbrev Cl := Int × List (Int × List Int)
def pClaim : Ps Cl := fun xs => (pTake xs).bind fun p => if p.1 < -1 then none else (pList pRow p.2).map fun q => ((p.1, q.1), q.2)
theorem pTake_le : ∀ {xs : List Int} {r ys}, pTake xs = some (r, ys) → xs = [r] ++ ys
 | x :: xs, _, _, h => by cases h; rfl
theorem bS {α β : Type} (a : α) (f : α → Option β) : (some a).bind f = f a := rfl
abbrev iD (x : Int) : D := PyData.int x
def lI (xs : List Int) : D := .list (xs.map PyData.int)
def RF (xs : List Int) (n p : Int) : DS := [some (.sh (lI xs)), some (.sh (.int n)), some (.sh (.int p))]
def St0 (L : DS) (xs : List Int) (n : Int) (p : Nat) : DS := L ++ RF xs n (p : Int)
theorem st_set {L : DS} {xs : List Int} {n : Int} {p k : Nat} {x : Option OV} (hk : k < L.length) : (St0 L xs n p).set k x = St0 (L.set k x) xs n p := by
 unfold St0; rw [List.set_append_left _ _ hk]
theorem st_get {L : DS} {xs : List Int} {n : Int} {p k : Nat} (hk : k < L.length) : (St0 L xs n p)[k]? = L[k]? := by
 unfold St0; rw [List.getElem?_append_left hk]
theorem eqv_ii (x y : Int) : gEqX (.int x) (.int y) = some (.bool (decide (x = y))) := by
 have h : PyData.eqv (.int x) (.int y) = decide (x = y) := by
  by_cases z : x = y <;> simp [PyData.eqv, z]
 show gEq (.int x) (.int y) = _
 unfold gEq
 rw [h]; rfl
theorem nev_ii (x y : Int) : gNeX (.int x) (.int y) = some (.bool (!decide (x = y))) := by
 have h : PyData.eqv (.int x) (.int y) = decide (x = y) := by
  by_cases z : x = y <;> simp [PyData.eqv, z]
 show gNe (.int x) (.int y) = _
 unfold gNe
 rw [h]; rfl
theorem sml {c : Nat} (h : c ≤ 1000000) : small62 (c : Int) = true := yes_of (by omega)
theorem rng_len (c : Nat) : (rangeD 0 (c : Int)).length = c := by
 unfold rangeD
 simp
theorem atI_mid {pre post : List Int} {x : Int} : atI ((pre ++ x :: post).map PyData.int) (pre.length : Int) = some (.int x) := by
 have h : (pre.length : Int) < (((pre ++ x :: post).map PyData.int).length : Int) := by simp; omega
 unfold atI ixN
 rw [if_pos (by omega), if_pos h]
 show ((pre ++ x :: post).map PyData.int)[(pre.length : Int).toNat]? = _
 have e : (pre.length : Int).toNat = pre.length := by omega
 rw [e, List.getElem?_map]
 simp
structure RdP {R : Type} (g : DS → Option DR) (n : Int) (P : Ps R) (d : R → D) : Prop where
 no : ∀ pre rest, (pre ++ rest).length ≤ 1000000 → P rest = none → ∃ ds', g (none :: RF (pre ++ rest) n (pre.length : Int)) = some (.ex "BadBook" ds')
 yes : ∀ pre rest r ys, (pre ++ rest).length ≤ 1000000 → P rest = some (r, ys) → ∃ pre', pre ++ rest = pre' ++ ys ∧ g (none :: RF (pre ++ rest) n (pre.length : Int)) = some (.ret (nrm (d r)) (none :: RF (pre ++ rest) n (pre'.length : Int)))
structure XpP {R : Type} (f : DS → Option ((RV × DS) ⊕ (Str × DS))) (L : DS) (xs : List Int) (n : Int) (P : Ps R) (o : R → OV) : Prop where
 no : ∀ pre rest, xs = pre ++ rest → P rest = none → ∃ ds', f (St0 L xs n pre.length) = some (.inr ("BadBook", ds'))
 yes : ∀ pre rest r ys, xs = pre ++ rest → P rest = some (r, ys) → ∃ pre', xs = pre' ++ ys ∧ f (St0 L xs n pre.length) = some (.inl (.ov (o r), St0 L xs n pre'.length))
structure IpP (f : DS → Option ((List D × DS) ⊕ (Str × DS))) (L : DS) (xs : List Int) (n : Int) (P : Ps Nat) : Prop where
 no : ∀ pre rest, xs = pre ++ rest → P rest = none → ∃ ds', f (St0 L xs n pre.length) = some (.inr ("BadBook", ds'))
 yes : ∀ pre rest k ys, xs = pre ++ rest → P rest = some (k, ys) → k ≤ 1000000 ∧ ∃ pre', xs = pre' ++ ys ∧ f (St0 L xs n pre.length) = some (.inl (rangeD 0 (k : Int), St0 L xs n pre'.length))
section
variable {R : Type} {n : Int} {P : Ps R} {d : R → D} {g : DS → Option DR} {xs : List Int} {L : DS} {N k : Nat}
theorem meth_p (h : RdP g n P d) (hL : L.length = N) (hl : xs.length ≤ 1000000) : XpP (fMethX N 1 g fNil) L xs n P fun r => nrm (d r) := by
 have hd : ∀ p : Nat, (St0 L xs n p).drop N = RF xs n (p : Int) := fun p => by unfold St0; rw [← hL, List.drop_left]
 have ht : ∀ p : Nat, (St0 L xs n p).take N = L := fun p => by unfold St0; rw [← hL, List.take_left]
 refine ⟨fun pre rest e hP => ?_, fun pre rest r ys e hP => ?_⟩
 ·obtain ⟨ds', hg⟩ := h.no pre rest (e ▸ hl) hP
  rw [← e] at hg
  exact ⟨_, by simp only [fMethX, fNil, frzs, bS, List.length_nil, Nat.zero_add, if_true, shs, List.map_nil, List.nil_append, hd, ht, hg, Option.map_some]; rfl⟩
 ·obtain ⟨pre', e', hg⟩ := h.yes pre rest r ys (e ▸ hl) hP
  rw [← e] at e' hg
  exact ⟨pre', e', by simp only [fMethX, fNil, frzs, bS, List.length_nil, Nat.zero_add, if_true, shs, List.map_nil, List.nil_append, hd, ht, hg, Option.map_some]; rfl⟩
theorem r1_p {f : DS → Option ((RV × DS) ⊕ (Str × DS))} (h : XpP f L xs n pSize fun k => .sh (.int (k : Int))) (hl : xs.length ≤ 1000000) : IpP (fiR1X (fConsX f fNilX)) L xs n pSize := by
 refine ⟨fun pre rest e hP => ?_, fun pre rest k ys e hP => ?_⟩
 ·obtain ⟨ds', hf⟩ := h.no pre rest e hP
  exact ⟨ds', by simp only [fiR1X, fConsX, hf, bS]⟩
 ·obtain ⟨pre', e', hf⟩ := h.yes pre rest k ys e hP
  have hk : k ≤ 1000000 := by
   cases rest with
   | nil => cases hP
   | cons c rest =>
    simp only [pSize] at hP
    split at hP
    ·cases hP
     rw [e] at hl
     simp at hl
     omega
    ·cases hP
  refine ⟨hk, pre', e', ?_⟩
  have s1 := sml hk
  simp only [fiR1X, fConsX, hf, bS, fNilX, Option.map_some, fiR1, inlP, sees, see, OV.view, s1, if_true]
theorem turn_p {fe : DS → Option ((RV × DS) ⊕ (Str × DS))} (hk : k < L.length) (h : ∀ i, XpP fe (L.set k (some (.sh i))) xs n P fun r => nrm (d r)) (i : D) :
  (∀ pre rest, xs = pre ++ rest → P rest = none → ∃ ds', turnMX (fgName k) fe [k] i (St0 (L.set k none) xs n pre.length) = some (.inr ("BadBook", ds'))) ∧
  ∀ pre rest r ys, xs = pre ++ rest → P rest = some (r, ys) → ∃ pre', xs = pre' ++ ys ∧ turnMX (fgName k) fe [k] i (St0 (L.set k none) xs n pre.length) = some (.inl (some (d r), St0 (L.set k none) xs n pre'.length)) := by
 have hk2 : k < (L.set k none).length := by rw [List.length_set]; exact hk
 have hk3 : k < (L.set k (some (OV.sh i))).length := by rw [List.length_set]; exact hk
 refine ⟨fun pre rest e hP => ?_, fun pre rest r ys e hP => ?_⟩
 ·obtain ⟨ds', hf⟩ := (h i).no pre rest e hP
  exact ⟨_, by simp only [turnMX, fgName, bS, st_set hk2, List.set_set, hf]; rfl⟩
 ·obtain ⟨pre', e', hf⟩ := (h i).yes pre rest r ys e hP
  refine ⟨pre', e', ?_⟩
  have o : Fx.own (.ov (nrm (d r))) = some (d r) := nrm_own _
  have w2 : wipeD (St0 (L.set k (some (.sh i))) xs n pre'.length) [k] = St0 (L.set k none) xs n pre'.length := by
   show (St0 (L.set k (some (.sh i))) xs n pre'.length).set k none = _
   rw [st_set hk3, List.set_set]
  simp only [turnMX, fgName, bS, st_set hk2, List.set_set, hf, o, Option.map_some, w2]
theorem lcF_p {L0 : DS} {τ : D → DS → Option ((Option D × DS) ⊕ (Str × DS))} (h : ∀ i, (∀ pre rest, xs = pre ++ rest → P rest = none → ∃ ds', τ i (St0 L0 xs n pre.length) = some (.inr ("BadBook", ds'))) ∧
  ∀ pre rest r ys, xs = pre ++ rest → P rest = some (r, ys) → ∃ pre', xs = pre' ++ ys ∧ τ i (St0 L0 xs n pre.length) = some (.inl (some (d r), St0 L0 xs n pre'.length))) : ∀ (l acc : List D) (pre rest : List Int), xs = pre ++ rest →
  (pMany P l.length rest = none → ∃ ds', lcFX τ l (St0 L0 xs n pre.length) acc = some (.inr ("BadBook", ds'))) ∧
  ∀ rs ys, pMany P l.length rest = some (rs, ys) → ∃ pre', xs = pre' ++ ys ∧ lcFX τ l (St0 L0 xs n pre.length) acc = some (.inl (acc ++ rs.map d, St0 L0 xs n pre'.length))
 | [], acc, pre, rest, e => ⟨fun hP => by simp [pMany] at hP, fun rs ys hP => by
  simp only [List.length_nil, pMany, Option.some.injEq, Prod.mk.injEq] at hP
  obtain ⟨rfl, rfl⟩ := hP
  exact ⟨pre, e, by simp [lcFX]⟩⟩
 | i :: l, acc, pre, rest, e => by
  cases hP : P rest with
  | none =>
   obtain ⟨ds', ht⟩ := (h i).1 pre rest e hP
   refine ⟨fun _ => ⟨ds', by simp only [lcFX, ht, bS]⟩, fun rs ys hm => ?_⟩
   simp only [List.length_cons, pMany, hP, Option.bind_none] at hm
   cases hm
  | some q =>
   obtain ⟨r, zs⟩ := q
   obtain ⟨pre1, e1, ht⟩ := (h i).2 pre rest r zs e hP
   obtain ⟨h1, h2⟩ := lcF_p h l (acc ++ [d r]) pre1 zs e1
   refine ⟨fun hm => ?_, fun rs ys hm => ?_⟩
   ·simp only [List.length_cons, pMany, hP, bS, Option.map_eq_none_iff] at hm
    obtain ⟨ds', h3⟩ := h1 hm
    exact ⟨ds', by simp only [lcFX, ht, bS, Option.toList, h3]⟩
   ·simp only [List.length_cons, pMany, hP, bS, Option.map_eq_some_iff] at hm
    obtain ⟨⟨rs', ys'⟩, h3, h4⟩ := hm
    cases h4
    obtain ⟨pre', e', h5⟩ := h2 rs' ys' h3
    exact ⟨pre', e', by simp only [lcFX, ht, bS, Option.toList, h5]; simp⟩
theorem lc_p {fi : DS → Option ((List D × DS) ⊕ (Str × DS))} {fe : DS → Option ((RV × DS) ⊕ (Str × DS))} {Pk : Ps Nat} (hk : k < L.length) (hs : shB L[k]? = true) (hi : IpP fi L xs n Pk) (h : ∀ i, XpP fe (L.set k (some (.sh i))) xs n P fun r => nrm (d r)) :
  XpP (fLcMX fi (fgName k) fe [k]) L xs n (fun ys => (Pk ys).bind fun p => pMany P p.1 p.2) fun rs => nrm (.list (rs.map d)) := by
 have hk2 : k < (L.set k none).length := by rw [List.length_set]; exact hk
 have w : ∀ p, wipeD (St0 L xs n p) [k] = St0 (L.set k none) xs n p := fun p => st_set hk
 have m : ∀ p q, mend (St0 L xs n p) (St0 (L.set k none) xs n q) [k] = St0 L xs n q := fun p q => by
  show (St0 (L.set k none) xs n q).set k (((St0 L xs n p)[k]?).getD none) = _
  rw [st_set hk2, st_get hk, List.set_set, List.getElem?_eq_getElem hk, Option.getD_some, List.set_getElem_self]
 have run := fun l acc pre rest e => lcF_p (L0 := L.set k none) (τ := turnMX (fgName k) fe [k]) (fun i => turn_p hk h i) l acc pre rest e
 have c : ∀ (p : Nat) (l : List D), l.length ≤ 1000000 → (([k].all fun i => shB (St0 L xs n p)[i]?) && decide (l.length ≤ 1000000)) = true := fun p l hl => by
  simp only [List.all_cons, List.all_nil, Bool.and_true, st_get hk, hs, decide_eq_true hl]
 refine ⟨fun pre rest e hP => ?_, fun pre rest rs ys e hP => ?_⟩
 ·cases hq : Pk rest with
  | none =>
   obtain ⟨ds', hf⟩ := hi.no pre rest e hq
   exact ⟨ds', by simp only [fLcMX, hf, bS]⟩
  | some q =>
   obtain ⟨j, zs⟩ := q
   obtain ⟨hj, pre1, e1, hf⟩ := hi.yes pre rest j zs e hq
   rw [hq] at hP
   obtain ⟨ds', h1⟩ := (run (rangeD 0 (j : Int)) [] pre1 zs e1).1 (by rw [rng_len]; exact hP)
   exact ⟨_, by simp only [fLcMX, hf, bS, c _ _ (by rw [rng_len]; exact hj), if_true, w, h1, Option.map_some]; rfl⟩
 ·cases hq : Pk rest with
  | none => rw [hq] at hP; cases hP
  | some q =>
   obtain ⟨j, zs⟩ := q
   obtain ⟨hj, pre1, e1, hf⟩ := hi.yes pre rest j zs e hq
   rw [hq] at hP
   obtain ⟨pre', e', h1⟩ := (run (rangeD 0 (j : Int)) [] pre1 zs e1).2 rs ys (by rw [rng_len]; exact hP)
   exact ⟨pre', e', by simp only [fLcMX, hf, bS, c _ _ (by rw [rng_len]; exact hj), if_true, w, h1, Option.map_some, List.nil_append, m]⟩
theorem funO_no {fb : DS → Option Out} {p : Nat} (hN : 1 ≤ N) (h : ∃ ds', fb (St0 (List.replicate N none) xs n p) = some (.ex "BadBook" ds')) : ∃ ds', funO [] 1 N fb (none :: RF xs n (p : Int)) = some (.ex "BadBook" ds') := by
 obtain ⟨M, rfl⟩ : ∃ M, N = M + 1 := ⟨N - 1, by omega⟩
 have e1 : padD 1 (M + 1) (none :: RF xs n (p : Int)) = St0 (List.replicate (M + 1) none) xs n p := by
  unfold padD St0
  rw [List.replicate_succ]
  rfl
 obtain ⟨ds', h⟩ := h
 exact ⟨_, by simp only [funO, e1, h]; rfl⟩
theorem funO_rd {fb : DS → Option Out} {p p' : Nat} {o : OV} {L' : DS} (hN : 1 ≤ N) (hL : L'.length = N) (h : fb (St0 (List.replicate N none) xs n p) = some (.ret o (St0 L' xs n p'))) : funO [] 1 N fb (none :: RF xs n (p : Int)) = some (.ret o (none :: RF xs n (p' : Int))) := by
 obtain ⟨M, rfl⟩ : ∃ M, N = M + 1 := ⟨N - 1, by omega⟩
 have e1 : padD 1 (M + 1) (none :: RF xs n (p : Int)) = St0 (List.replicate (M + 1) none) xs n p := by
  unfold padD St0
  rw [List.replicate_succ]
  rfl
 have e2 : cutO [] 1 (M + 1) (St0 L' xs n p') = none :: RF xs n (p' : Int) := by
  unfold cutO St0
  rw [← hL, List.drop_left]
  rfl
 simp only [funO, e1, h, e2]
theorem ret_p {f : DS → Option ((RV × DS) ⊕ (Str × DS))} (hN : 1 ≤ N) (h : ∀ xs, xs.length ≤ 1000000 → XpP f (List.replicate N none) xs n P fun r => nrm (d r)) : RdP (funO [] 1 N (fRetX f)) n P d := by
 refine ⟨fun pre rest hl hP => ?_, fun pre rest r ys hl hP => ?_⟩
 ·obtain ⟨ds', hf⟩ := (h _ hl).no pre rest rfl hP
  exact funO_no hN ⟨ds', by simp only [fRetX, hf, bS]⟩
 ·obtain ⟨pre', e', hf⟩ := (h _ hl).yes pre rest r ys rfl hP
  exact ⟨pre', e', funO_rd (L' := List.replicate N none) hN (by simp) (by simp only [fRetX, hf, bS, mov, Option.map_some])⟩
end
section
variable {n : Int}
theorem take_p : RdP g_BookReader_take n pTake iD := by
  have len : ∀ xs : List Int, ((xs.map PyData.int).length : Int) = (xs.length : Int) := fun xs => by rw [List.length_map]
  refine ⟨fun pre rest hl hP => ?_, fun pre rest r ys hl hP => ?_⟩
  · cases rest with
    | cons x rest => cases hP
    | nil =>
      have d1 : decide ((pre.length : Int) = (((pre ++ ([] : List Int)).map PyData.int).length : Int)) = true := decide_eq_true (by simp)
      generalize hL : (pre ++ ([] : List Int)).map PyData.int = Ls at d1
      have hR : RF (pre ++ []) n (pre.length : Int) = [some (.sh (.list Ls)), some (.sh (.int n)), some (.sh (.int (pre.length : Int)))] := by
        unfold RF lI; rw [hL]
      rw [hR]
      exact ⟨_, by
       simp only [g_BookReader_take, funO, padD, fb_BookReader_take, fSeq, fIfS, fBool, fOp, fFld, fCa, fCons, fNil, fRaise, List.take, List.drop, List.replicate, List.append_eq, List.nil_append, List.cons_append, Nat.sub_self, List.getElem?_cons_zero, List.getElem?_cons_succ, bS, Option.map_some, see, sees, OV.view, gLen, List.set_cons_zero, List.set_cons_succ, eqv_ii, d1, if_true, cutO]
       rfl⟩
  · cases rest with
    | nil => cases hP
    | cons x rest =>
      cases hP
      refine ⟨pre ++ [r], by simp, ?_⟩
      have ne : decide ((pre.length : Int) = (((pre ++ r :: ys).map PyData.int).length : Int)) = false := decide_eq_false (by simp; omega)
      have e1 : (pre.length : Int) + 1 - 1 = (pre.length : Int) := by omega
      have e2 : (pre.length : Int) + 1 = ((pre ++ [r]).length : Int) := by simp
      have at0 := atI_mid (pre := pre) (post := ys) (x := r)
      generalize hL : (pre ++ r :: ys).map PyData.int = Ls at ne at0
      have hR : ∀ p, RF (pre ++ r :: ys) n p = [some (.sh (.list Ls)), some (.sh (.int n)), some (.sh (.int p))] := fun p => by
        unfold RF lI; rw [hL]
      rw [hR, hR, ← e2]
      simp only [g_BookReader_take, funO, padD, fb_BookReader_take, fSeq, fIfS, fBool, fOp, fFld, fCa, fCons, fNil, fRet, fFrz, fIx, fC, fNext, fAugF, fRaise, List.take, List.drop, List.replicate, List.append_eq, List.nil_append, List.cons_append, Nat.sub_self, List.getElem?_cons_zero, List.getElem?_cons_succ, bS, Option.map_some, see, sees, OV.view, gLen, List.set_cons_zero, List.set_cons_succ, eqv_ii, ne, Bool.false_eq_true, if_false, gI, cT, if_true, e1, at0, isSc, frz, mov, cutO]
      rfl
theorem size_p : RdP g_BookReader_size n pSize fun k => iD (k : Int) := by
 have key : ∀ pre (c : Int) rest, (pre ++ c :: rest).length ≤ 1000000 → g_BookReader_size (none :: RF (pre ++ c :: rest) n (pre.length : Int)) = if 0 ≤ c ∧ c ≤ (rest.length : Int) then some (.ret (.sh (.int c)) (none :: RF (pre ++ c :: rest) n ((pre ++ [c]).length : Int))) else some (.ex "BadBook" (none :: RF (pre ++ c :: rest) n ((pre ++ [c]).length : Int))) := fun pre c rest hl => by
  obtain ⟨pre', e', m⟩ := (meth_p (take_p (n := n)) (L := [none, none]) (N := 2) rfl hl).yes pre (c :: rest) c rest rfl rfl
  have lp : pre'.length = pre.length + 1 := by have := congrArg List.length e'; simp at this; omega
  have l2 : ((pre ++ [c]).length : Int) = ((pre.length + 1 : Nat) : Int) := by simp
  rw [lp] at m
  rw [l2]
  have hxl : (((pre ++ c :: rest).map PyData.int).length : Int) - ((pre.length + 1 : Nat) : Int) = (rest.length : Int) := by simp; omega
  have m : fMethX 2 1 g_BookReader_take fNil (none :: none :: RF (pre ++ c :: rest) n (pre.length : Int)) = some (.inl (.ov (.sh (.int c)), none :: none :: RF (pre ++ c :: rest) n ((pre.length + 1 : Nat) : Int))) := m
  simp only [RF, lI] at m ⊢
  by_cases z1 : 0 ≤ c
  ·by_cases z2 : c ≤ (rest.length : Int)
   ·have d1 : decide (0 ≤ c) = true := decide_eq_true z1
    have d2 : decide (c ≤ (((pre ++ c :: rest).map PyData.int).length : Int) - ((pre.length + 1 : Nat) : Int)) = true := decide_eq_true (by rw [hxl]; exact z2)
    rw [if_pos ⟨z1, z2⟩]
    simp only [g_BookReader_size, funO, padD, fb_BookReader_size, fSeq, fSetX, List.take, List.drop, List.replicate, List.append_eq, List.nil_append, List.cons_append, Nat.sub_self, Nat.add_one_sub_one, m, bS, List.set_cons_zero, List.set_cons_succ, fIfS, fNotT, fBool, fCh, fC, fVar, fOp, fFld, fCa, fCons, fNil, List.getElem?_cons_zero, List.getElem?_cons_succ, see, sees, OV.view, gLen, gI, cT, if_true, d1, d2, Option.map_some, Bool.not_true, Bool.false_eq_true, if_false, fNext, fRet, fFrz, frz, mov, cutO]
    rfl
   ·have d1 : decide (0 ≤ c) = true := decide_eq_true z1
    have d2 : decide (c ≤ (((pre ++ c :: rest).map PyData.int).length : Int) - ((pre.length + 1 : Nat) : Int)) = false := decide_eq_false (by rw [hxl]; exact z2)
    rw [if_neg fun h => z2 h.2]
    simp only [g_BookReader_size, funO, padD, fb_BookReader_size, fSeq, fSetX, List.take, List.drop, List.replicate, List.append_eq, List.nil_append, List.cons_append, Nat.sub_self, Nat.add_one_sub_one, m, bS, List.set_cons_zero, List.set_cons_succ, fIfS, fNotT, fBool, fCh, fC, fVar, fOp, fFld, fCa, fCons, fNil, List.getElem?_cons_zero, List.getElem?_cons_succ, see, sees, OV.view, gLen, gI, cT, if_true, d1, d2, Option.map_some, Bool.not_false, fRaise, cutO]
    rfl
  ·have d1 : decide (0 ≤ c) = false := decide_eq_false z1
   rw [if_neg fun h => z1 h.1]
   simp only [g_BookReader_size, funO, padD, fb_BookReader_size, fSeq, fSetX, List.take, List.drop, List.replicate, List.append_eq, List.nil_append, List.cons_append, Nat.sub_self, Nat.add_one_sub_one, m, bS, List.set_cons_zero, List.set_cons_succ, fIfS, fNotT, fBool, fCh, fC, fVar, fOp, fFld, fCa, fCons, fNil, List.getElem?_cons_zero, List.getElem?_cons_succ, see, sees, OV.view, gLen, gI, cT, if_true, d1, Option.map_some, Bool.not_false, Bool.false_eq_true, if_false, fRaise, cutO]
   rfl
 refine ⟨fun pre rest hl hP => ?_, fun pre rest r ys hl hP => ?_⟩
 ·cases rest with
  | nil =>
   obtain ⟨ds', m⟩ := (meth_p (take_p (n := n)) (L := [none, none]) (N := 2) rfl hl).no pre [] rfl rfl
   have m : fMethX 2 1 g_BookReader_take fNil (St0 (List.replicate 2 none) (pre ++ []) n pre.length) = some (.inr ("BadBook", ds')) := m
   exact funO_no (N := 2) (by decide) ⟨ds', by simp only [fb_BookReader_size, fSeq, fSetX, m, bS]⟩
  | cons c rest =>
   rw [key pre c rest hl]
   simp only [pSize] at hP
   split at hP
   ·cases hP
   ·rename_i h
    rw [if_neg h]
    exact ⟨_, rfl⟩
 ·cases rest with
  | nil => cases hP
  | cons c rest =>
   simp only [pSize] at hP
   split at hP
   ·rename_i h
    cases hP
    refine ⟨pre ++ [c], by simp, ?_⟩
    rw [key pre c ys hl, if_pos h]
    have e : ((c.toNat : Nat) : Int) = c := by omega
    show _ = some (DR.ret (.sh (.int ((c.toNat : Nat) : Int))) _)
    rw [e]
   ·cases hP
end
end Lw
set_option Elab.async false
set_option linter.all false
set_option maxRecDepth 100000
set_option maxHeartbeats 4000000
namespace Lw
open PySem PySem.Spec L2 Fx
section
variable {R : Type} {n : Int} {P : Ps R} {d : R → D} {g : DS → Option DR} {xs : List Int} {L : DS} {N k : Nat}
theorem many_p (h : RdP g n P d) : RdP (funO [] 1 2 (fRetX (fLcMX (fiR1X (fConsX (fMethX 2 1 g_BookReader_size fNil) fNilX)) (fgName 1) (fMethX 2 1 g fNil) [1]))) n (pList P) fun rs => .list (rs.map d) :=
 ret_p (P := pList P) (d := fun rs => .list (rs.map d)) (N := 2) (by decide) fun xs hl => lc_p (k := 1) (L := [none, none]) (by decide) rfl (r1_p (meth_p (size_p (n := n)) rfl hl) hl) fun i => meth_p h rfl hl
theorem condition_p : RdP g_BookReader_condition n (pCond n) lI := by
 have sz := fun {xs : List Int} (hl : xs.length ≤ 1000000) => meth_p (size_p (n := n)) (L := [none, none, none]) (N := 3) rfl hl
 have it : ∀ {xs : List Int} (c : Nat), c ≤ 1000000 → IpP (fiR1X (fConsX (inlE (fVar 1)) fNilX)) [none, some (.sh (.int (c : Int))), none] xs n fun ys => some (c, ys) := fun {xs} c hc => ⟨fun pre rest e hP => (nomatch hP), fun pre rest k ys e hP => by
  cases hP
  have s1 := sml hc
  refine ⟨hc, pre, e, ?_⟩
  have v : fVar 1 (St0 [none, some (.sh (.int (c : Int))), none] xs n pre.length) = some (.ov (.sh (.int (c : Int))), St0 [none, some (.sh (.int (c : Int))), none] xs n pre.length) := rfl
  simp only [fiR1X, fConsX, inlE, v, Option.map_some, bS, fNilX, fiR1, inlP, sees, see, OV.view, s1, if_true]⟩
 have lc := fun {xs : List Int} (hl : xs.length ≤ 1000000) (c : Nat) (hc : c ≤ 1000000) => lc_p (P := pTake) (d := iD) (k := 2) (L := [none, some (.sh (.int (c : Int))), none]) (show 2 < 3 by decide) rfl (it (xs := xs) c hc) fun i => meth_p (take_p (n := n)) (L := [none, some (.sh (.int (c : Int))), some (.sh i)]) (N := 3) rfl hl
 have cle : ∀ {rest : List Int} {c ys}, pSize rest = some (c, ys) → c ≤ rest.length := fun {rest c ys} h => by
  cases rest with
  | nil => cases h
  | cons x rest =>
   simp only [pSize] at h
   split at h
   ·cases h; simp; omega
   ·cases h
 have v1 : ∀ (xs : List Int) (c : Nat) (p : Nat), (St0 [none, some (.sh (.int (c : Int))), none] xs n p)[1]? = some (some (.sh (.int (c : Int)))) := fun _ _ _ => rfl
 have v4 : ∀ (xs : List Int) (c : Nat) (p : Nat), (St0 [none, some (.sh (.int (c : Int))), none] xs n p)[4]? = some (some (.sh (.int n))) := fun _ _ _ => rfl
 have v5 : ∀ (xs : List Int) (c : Nat) (p : Nat), (St0 [none, some (.sh (.int (c : Int))), none] xs n p).set 4 (some (.sh (.int n))) = St0 [none, some (.sh (.int (c : Int))), none] xs n p := fun _ _ _ => rfl
 refine ⟨fun pre rest hl hP => ?_, fun pre rest r ys hl hP => ?_⟩
 ·refine funO_no (N := 3) (by decide) ?_
  cases hq : pSize rest with
  | none =>
   obtain ⟨ds', m⟩ := (sz hl).no pre rest rfl hq
   have m : fMethX 3 1 g_BookReader_size fNil (St0 (List.replicate 3 none) (pre ++ rest) n pre.length) = some (.inr ("BadBook", ds')) := m
   exact ⟨ds', by simp only [fb_BookReader_condition, fSeq, fSetX, m, bS]⟩
  | some q =>
   obtain ⟨c, zs⟩ := q
   have hc : c ≤ 1000000 := by have := cle hq; simp at hl; omega
   obtain ⟨pre1, e1, m⟩ := (sz hl).yes pre rest c zs rfl hq
   have m : fMethX 3 1 g_BookReader_size fNil (St0 (List.replicate 3 none) (pre ++ rest) n pre.length) = some (.inl (.ov (.sh (.int (c : Int))), St0 [none, none, none] (pre ++ rest) n pre1.length)) := m
   simp only [pCond, hq, bS] at hP
   by_cases z : (c : Int) = n + 1
   ·rw [if_pos z] at hP
    obtain ⟨ds', h1⟩ := (lc hl c hc).no pre1 zs e1 hP
    have ne : decide ((c : Int) = n + 1) = true := decide_eq_true z
    exact ⟨ds', by simp only [fb_BookReader_condition, fSeq, fSetX, m, bS, st_set (show 1 < ([none, none, none] : DS).length by decide), List.set_cons_zero, List.set_cons_succ, fIfS, fBool, fOp, fVar, fAdd, fFld, fC, v1, v4, v5, see, OV.view, nev_ii, ne, Bool.not_true, Bool.false_eq_true, if_false, Option.map_some, fNext, fRetX, h1]⟩
   ·have ne : decide ((c : Int) = n + 1) = false := decide_eq_false z
    exact ⟨_, by simp only [fb_BookReader_condition, fSeq, fSetX, m, bS, st_set (show 1 < ([none, none, none] : DS).length by decide), List.set_cons_zero, List.set_cons_succ, fIfS, fBool, fOp, fVar, fAdd, fFld, fC, v1, v4, v5, see, OV.view, nev_ii, ne, Bool.not_false, if_true, Option.map_some, fRaise]; rfl⟩
 ·cases hq : pSize rest with
  | none => simp only [pCond, hq, Option.bind_none] at hP; cases hP
  | some q =>
   obtain ⟨c, zs⟩ := q
   have hc : c ≤ 1000000 := by have := cle hq; simp at hl; omega
   obtain ⟨pre1, e1, m⟩ := (sz hl).yes pre rest c zs rfl hq
   have m : fMethX 3 1 g_BookReader_size fNil (St0 (List.replicate 3 none) (pre ++ rest) n pre.length) = some (.inl (.ov (.sh (.int (c : Int))), St0 [none, none, none] (pre ++ rest) n pre1.length)) := m
   simp only [pCond, hq, bS] at hP
   by_cases z : (c : Int) = n + 1
   ·rw [if_pos z] at hP
    obtain ⟨pre', e', h1⟩ := (lc hl c hc).yes pre1 zs r ys e1 hP
    have ne : decide ((c : Int) = n + 1) = true := decide_eq_true z
    refine ⟨pre', e', funO_rd (L' := [none, some (.sh (.int (c : Int))), none]) (N := 3) (by decide) rfl ?_⟩
    simp only [fb_BookReader_condition, fSeq, fSetX, m, bS, st_set (show 1 < ([none, none, none] : DS).length by decide), List.set_cons_zero, List.set_cons_succ, fIfS, fBool, fOp, fVar, fAdd, fFld, fC, v1, v4, v5, see, OV.view, nev_ii, ne, Bool.not_true, Bool.false_eq_true, if_false, Option.map_some, fNext, fRetX, h1, mov]
    rfl
   ·rw [if_neg z] at hP; cases hP
theorem piece_p : RdP g_BookReader_piece n (pList (pCond n)) fun rs => .list (rs.map lI) := many_p condition_p
theorem loop_p {dd : R → D} {I : List D → DS → Prop} {body : DS → Option Out} (step : ∀ i acc L, I acc L → acc.length ≤ 1000000 → ∃ L1, (∀ p, fgName k i (St0 L xs n p) = some (St0 L1 xs n p)) ∧ (∀ pre rest, xs = pre ++ rest → P rest = none → ∃ ds', body (St0 L1 xs n pre.length) = some (.ex "BadBook" ds')) ∧
      ∀ pre rest r ys, xs = pre ++ rest → P rest = some (r, ys) → ∃ pre' L2, xs = pre' ++ ys ∧ I (acc ++ [dd r]) L2 ∧ body (St0 L1 xs n pre.length) = some (.nx (St0 L2 xs n pre'.length))) :
    ∀ (l acc : List D) (L : DS) (pre rest : List Int), xs = pre ++ rest → I acc L → acc.length + l.length ≤ 1000000 →
      (pMany P l.length rest = none → ∃ ds', loopF (fgName k) body l (St0 L xs n pre.length) = some (.ex "BadBook" ds')) ∧
      ∀ rs ys, pMany P l.length rest = some (rs, ys) → ∃ pre' L2, xs = pre' ++ ys ∧ I (acc ++ rs.map dd) L2 ∧ loopF (fgName k) body l (St0 L xs n pre.length) = some (.nx (St0 L2 xs n pre'.length))
  | [], acc, L, pre, rest, e, hI, _ => ⟨fun hP => by simp [pMany] at hP, fun rs ys hP => by
    simp only [List.length_nil, pMany, Option.some.injEq, Prod.mk.injEq] at hP
    obtain ⟨rfl, rfl⟩ := hP
    exact ⟨pre, L, e, by simpa using hI, by simp [loopF]⟩⟩
  | i :: l, acc, L, pre, rest, e, hI, hl => by
    rw [List.length_cons] at hl
    obtain ⟨L1, hg, s1, s2⟩ := step i acc L hI (by omega)
    cases hP : P rest with
    | none =>
      obtain ⟨ds', hb⟩ := s1 pre rest e hP
      refine ⟨fun _ => ⟨ds', by simp only [loopF, hg, bS, hb]⟩, fun rs ys hm => ?_⟩
      simp only [List.length_cons, pMany, hP, Option.bind_none] at hm
      cases hm
    | some q =>
      obtain ⟨r, zs⟩ := q
      obtain ⟨pre1, L2, e1, hI2, hb⟩ := s2 pre rest r zs e hP
      obtain ⟨h1, h2⟩ := loop_p step l (acc ++ [dd r]) L2 pre1 zs e1 hI2 (by rw [List.length_append, List.length_singleton]; omega)
      refine ⟨fun hm => ?_, fun rs ys hm => ?_⟩
      · simp only [List.length_cons, pMany, hP, bS, Option.map_eq_none_iff] at hm
        obtain ⟨ds', h3⟩ := h1 hm
        exact ⟨ds', by simp only [loopF, hg, bS, hb, h3]⟩
      · simp only [List.length_cons, pMany, hP, bS, Option.map_eq_some_iff] at hm
        obtain ⟨⟨rs', ys'⟩, h3, h4⟩ := hm
        cases h4
        obtain ⟨pre', L3, e', hI3, h5⟩ := h2 rs' ys' h3
        exact ⟨pre', L3, e', by simpa using hI3, by simp only [loopF, hg, bS, hb, h5]⟩
theorem for_p {dd : R → D} {I : List D → DS → Prop} {body : DS → Option Out} {fi : DS → Option ((List D × DS) ⊕ (Str × DS))} {acc : List D} (hi : IpP fi L xs n pSize) (hI : I acc L) (ha : acc = []) (step : ∀ i acc L, I acc L → acc.length ≤ 1000000 → ∃ L1, (∀ p, fgName k i (St0 L xs n p) = some (St0 L1 xs n p)) ∧ (∀ pre rest, xs = pre ++ rest → P rest = none → ∃ ds', body (St0 L1 xs n pre.length) = some (.ex "BadBook" ds')) ∧
      ∀ pre rest r ys, xs = pre ++ rest → P rest = some (r, ys) → ∃ pre' L2, xs = pre' ++ ys ∧ I (acc ++ [dd r]) L2 ∧ body (St0 L1 xs n pre.length) = some (.nx (St0 L2 xs n pre'.length))) (pre rest : List Int) (e : xs = pre ++ rest) :
      (pList P rest = none → ∃ ds', fForX fi (fgName k) body (St0 L xs n pre.length) = some (.ex "BadBook" ds')) ∧
      ∀ rs ys, pList P rest = some (rs, ys) → ∃ pre' L2, xs = pre' ++ ys ∧ I (rs.map dd) L2 ∧ fForX fi (fgName k) body (St0 L xs n pre.length) = some (.nx (St0 L2 xs n pre'.length)) := by
  subst ha
  cases hq : pSize rest with
  | none =>
    obtain ⟨ds', hf⟩ := hi.no pre rest e hq
    refine ⟨fun _ => ⟨ds', by simp only [fForX, hf, bS]⟩, fun rs ys hm => ?_⟩
    simp only [pList, hq, Option.bind_none] at hm
    cases hm
  | some q =>
    obtain ⟨j, zs⟩ := q
    obtain ⟨hj, pre1, e1, hf⟩ := hi.yes pre rest j zs e hq
    obtain ⟨h1, h2⟩ := loop_p step (rangeD 0 (j : Int)) [] L pre1 zs e1 hI (by rw [rng_len]; simpa using hj)
    rw [rng_len] at h1 h2
    simp only [pList, hq, bS]
    refine ⟨fun hm => ?_, fun rs ys hm => ?_⟩
    · obtain ⟨ds', h3⟩ := h1 hm
      exact ⟨ds', by simp only [fForX, hf, bS, fFor, inlP, h3]⟩
    · obtain ⟨pre', L2, e', hI2, h3⟩ := h2 rs ys hm
      exact ⟨pre', L2, e', by simpa using hI2, by simp only [fForX, hf, bS, fFor, inlP, h3]⟩
theorem var_nl {i : Nat} {ds : DS} {l : List D} (h : ds[i]? = some (some (nrm (.list l)))) : fVar i ds = some (.loc i, ds) := by
 have e : nrm (.list l) = if l.all isSc = true then .flat l else .tree (.list l) := nrm_list
 unfold fVar
 rw [h, e]
 split
 ·rename_i h2
  split at h2 <;> cases h2
 ·rfl
 ·rename_i h1 h2
  exact absurd rfl (h2 _)
theorem app_p {f : DS → Option ((RV × DS) ⊕ (Str × DS))} {acc : List D} (hk : k < L.length) (hL : L[k]? = some (some (nrm (.list acc)))) (ha : acc.length ≤ 1000000) (h : XpP f L xs n P fun r => nrm (d r)) :
  (∀ pre rest, xs = pre ++ rest → P rest = none → ∃ ds', fAppTX k f (St0 L xs n pre.length) = some (.ex "BadBook" ds')) ∧
  ∀ pre rest r ys, xs = pre ++ rest → P rest = some (r, ys) → ∃ pre', xs = pre' ++ ys ∧ fAppTX k f (St0 L xs n pre.length) = some (.nx (St0 (L.set k (some (nrm (.list (acc ++ [d r]))))) xs n pre'.length)) := by
 have g : ∀ p, (St0 L xs n p)[k]? = some (some (nrm (.list acc))) := fun p => by rw [st_get hk]; exact hL
 have o1 : (nrm (.list acc)).own? = some (.list acc) := nrm_own _
 refine ⟨fun pre rest e hP => ?_, fun pre rest r ys e hP => ?_⟩
 ·obtain ⟨ds', hf⟩ := h.no pre rest e hP
  exact ⟨ds', by simp only [fAppTX, g, o1, hf, bS]⟩
 ·obtain ⟨pre', e', hf⟩ := h.yes pre rest r ys e hP
  have o2 : (nrm (d r)).own? = some (d r) := nrm_own _
  exact ⟨pre', e', by simp only [fAppTX, g, o1, hf, bS, fAppT, inlP, ownR, o2, Option.map_some, ha, if_true, st_set hk]⟩
end
section
variable {n : Int}
def dr (t : Int × List Int) : D := .tuple [.int t.1, lI t.2]
def ixD (c : Int) : D := if c = -1 then .none else .int c
def dc (t : Cl) : D := .tuple [ixD t.1, .list (t.2.map dr)]
noncomputable def cbody : DS → Option Out := fSeq (fSetX 4 (fMethX 5 1 g_BookReader_take fNil)) (fAppTX 2 (fTupOX (fConsX (inlE (fVar 4)) (fConsX (fLcMX (fiR1X (fConsX (fMethX 5 1 g_BookReader_size fNil) fNilX)) (fgName 3) (fMethX 5 1 g_BookReader_take fNil) [3]) fNilX))))
theorem cbody_p {xs : List Int} {a1 : Option OV} {acc : List D} {i : D} {a4 : Option OV} (hl : xs.length ≤ 1000000) (ha : acc.length ≤ 1000000) :
  (∀ pre rest, xs = pre ++ rest → pRow rest = none → ∃ ds', cbody (St0 [none, a1, some (nrm (.list acc)), some (.sh i), a4] xs n pre.length) = some (.ex "BadBook" ds')) ∧
  ∀ pre rest r ys, xs = pre ++ rest → pRow rest = some (r, ys) → ∃ pre', xs = pre' ++ ys ∧ cbody (St0 [none, a1, some (nrm (.list acc)), some (.sh i), a4] xs n pre.length) = some (.nx (St0 [none, a1, some (nrm (.list (acc ++ [dr r]))), some (.sh i), some (.sh (.int r.1))] xs n pre'.length)) := by
 have tk := meth_p (take_p (n := n)) (L := [none, a1, some (nrm (.list acc)), some (.sh i), a4]) (N := 5) rfl hl
 have lc := fun s : Int => lc_p (P := pTake) (d := iD) (k := 3) (L := [none, a1, some (nrm (.list acc)), some (.sh i), some (.sh (.int s))]) (show 3 < 5 by decide) rfl (r1_p (meth_p (size_p (n := n)) (L := [none, a1, some (nrm (.list acc)), some (.sh i), some (.sh (.int s))]) (N := 5) rfl hl) hl) fun j => meth_p (take_p (n := n)) (L := [none, a1, some (nrm (.list acc)), some (.sh j), some (.sh (.int s))]) (N := 5) rfl hl
 have tup : ∀ s : Int, XpP (fTupOX (fConsX (inlE (fVar 4)) (fConsX (fLcMX (fiR1X (fConsX (fMethX 5 1 g_BookReader_size fNil) fNilX)) (fgName 3) (fMethX 5 1 g_BookReader_take fNil) [3]) fNilX))) [none, a1, some (nrm (.list acc)), some (.sh i), some (.sh (.int s))] xs n (pList pTake) fun f => nrm (dr (s, f)) := fun s => by
  have v4 : ∀ p, fVar 4 (St0 [none, a1, some (nrm (.list acc)), some (.sh i), some (.sh (.int s))] xs n p) = some (.ov (.sh (.int s)), St0 [none, a1, some (nrm (.list acc)), some (.sh i), some (.sh (.int s))] xs n p) := fun p => rfl
  refine ⟨fun pre rest e hP => ?_, fun pre rest r ys e hP => ?_⟩
  ·obtain ⟨ds', hf⟩ := (lc s).no pre rest e hP
   exact ⟨ds', by simp only [fTupOX, fConsX, inlE, v4, Option.map_some, bS, hf]⟩
  ·obtain ⟨pre', e', hf⟩ := (lc s).yes pre rest r ys e hP
   have o2 : (nrm (.list (r.map iD))).own? = some (.list (r.map iD)) := nrm_own _
   have o3 : OV.own? (.sh (.int s)) = some (.int s) := rfl
   exact ⟨pre', e', by
    simp only [fTupOX, fConsX, inlE, v4, Option.map_some, bS, hf, fNilX, fTupO, inlP, ownRs, ownR, o2, o3, List.length_cons, List.length_nil]
    rfl⟩
 refine ⟨fun pre rest e hP => ?_, fun pre rest r ys e hP => ?_⟩
 ·cases hq : pTake rest with
  | none =>
   obtain ⟨ds', m⟩ := tk.no pre rest e hq
   exact ⟨ds', by simp only [cbody, fSeq, fSetX, m, bS]⟩
  | some q =>
   obtain ⟨s, zs⟩ := q
   obtain ⟨pre1, e1, m⟩ := tk.yes pre rest s zs e hq
   simp only [pRow, hq, bS, Option.map_eq_none_iff] at hP
   obtain ⟨ds', h1⟩ := (app_p (k := 2) (L := [none, a1, some (nrm (.list acc)), some (.sh i), some (.sh (.int s))]) (P := pList pTake) (d := fun f => dr (s, f)) (show 2 < 5 by decide) rfl ha (tup s)).1 pre1 zs e1 hP
   have m : fMethX 5 1 g_BookReader_take fNil (St0 [none, a1, some (nrm (.list acc)), some (.sh i), a4] xs n pre.length) = some (.inl (.ov (.sh (.int s)), St0 [none, a1, some (nrm (.list acc)), some (.sh i), a4] xs n pre1.length)) := m
   exact ⟨ds', by simp only [cbody, fSeq, fSetX, m, bS, st_set (show 4 < ([none, a1, some (nrm (.list acc)), some (.sh i), a4] : DS).length by simp), List.set_cons_zero, List.set_cons_succ, h1]⟩
 ·cases hq : pTake rest with
  | none => simp only [pRow, hq, Option.bind_none] at hP; cases hP
  | some q =>
   obtain ⟨s, zs⟩ := q
   obtain ⟨pre1, e1, m⟩ := tk.yes pre rest s zs e hq
   simp only [pRow, hq, bS, Option.map_eq_some_iff] at hP
   obtain ⟨⟨f, ys'⟩, h2, h3⟩ := hP
   cases h3
   obtain ⟨pre', e', h1⟩ := (app_p (k := 2) (L := [none, a1, some (nrm (.list acc)), some (.sh i), some (.sh (.int s))]) (P := pList pTake) (d := fun f => dr (s, f)) (show 2 < 5 by decide) rfl ha (tup s)).2 pre1 zs f ys' e1 h2
   have m : fMethX 5 1 g_BookReader_take fNil (St0 [none, a1, some (nrm (.list acc)), some (.sh i), a4] xs n pre.length) = some (.inl (.ov (.sh (.int s)), St0 [none, a1, some (nrm (.list acc)), some (.sh i), a4] xs n pre1.length)) := m
   exact ⟨pre', e', by
    simp only [cbody, fSeq, fSetX, m, bS, st_set (show 4 < ([none, a1, some (nrm (.list acc)), some (.sh i), a4] : DS).length by simp), List.set_cons_zero, List.set_cons_succ, h1]⟩
theorem claim_fb : fb_BookReader_claim = fSeq (fSetX 1 (fMethX 5 1 g_BookReader_take fNil)) (fSeq (fIfS (fBool (fOp (gCmp fun i j => decide (i < j)) (fVar 1) (fUn gNeg (fC (.int 1))))) (fRaise "BadBook") fNext) (fSeq (fSet 2 (fLst fNil)) (fSeq (fForX (fiR1X (fConsX (fMethX 5 1 g_BookReader_size fNil) fNilX)) (fgName 3) cbody) (fRet (fTupO (fCons (fIf (fBool (fOp gEqX (fVar 1) (fUn gNeg (fC (.int 1))))) (fC .none) (fVar 1)) (fCons (fVar 2) fNil))))))) := rfl
theorem claim_p : RdP g_BookReader_claim n pClaim dc := by
 have run : ∀ pre rest, (pre ++ rest).length ≤ 1000000 → (pClaim rest = none → ∃ ds', fb_BookReader_claim (St0 (List.replicate 5 none) (pre ++ rest) n pre.length) = some (.ex "BadBook" ds')) ∧
   ∀ r ys, pClaim rest = some (r, ys) → ∃ pre' L2, L2.length = 5 ∧ pre ++ rest = pre' ++ ys ∧ fb_BookReader_claim (St0 (List.replicate 5 none) (pre ++ rest) n pre.length) = some (.ret (nrm (dc r)) (St0 L2 (pre ++ rest) n pre'.length)) := fun pre rest hl => by
  generalize hx : pre ++ rest = xs at hl
  have tk := meth_p (take_p (n := n)) (L := [none, none, none, none, none]) (N := 5) rfl hl
  rw [claim_fb]
  cases hq : pTake rest with
  | none =>
   obtain ⟨ds', m⟩ := tk.no pre rest hx.symm hq
   have m : fMethX 5 1 g_BookReader_take fNil (St0 (List.replicate 5 none) xs n pre.length) = some (.inr ("BadBook", ds')) := m
   refine ⟨fun _ => ⟨ds', by simp only [fSeq, fSetX, m, bS]⟩, fun r ys hP => ?_⟩
   simp only [pClaim, hq, Option.bind_none] at hP
   cases hP
  | some q =>
   obtain ⟨c, zs⟩ := q
   obtain ⟨pre1, e1, m⟩ := tk.yes pre rest c zs hx.symm hq
   have m : fMethX 5 1 g_BookReader_take fNil (St0 (List.replicate 5 none) xs n pre.length) = some (.inl (.ov (.sh (.int c)), St0 [none, none, none, none, none] xs n pre1.length)) := m
   have g1 : ∀ (o2 o3 o4 : Option OV) p, (St0 [none, some (.sh (.int c)), o2, o3, o4] xs n p)[1]? = some (some (.sh (.int c))) := fun _ _ _ _ => rfl
   simp only [pClaim, hq, bS]
   by_cases z : c < -1
   ·rw [if_pos z]
    have lt : decide (c < -1) = true := decide_eq_true z
    refine ⟨fun _ => ⟨_, by
     simp only [fSeq, fSetX, m, bS, st_set (show 1 < ([none, none, none, none, none] : DS).length by simp), List.set_cons_zero, List.set_cons_succ, fIfS, fBool, fOp, fVar, g1, fUn, fC, see, OV.view, gNeg, gCmp, gI, cT, if_true, Option.map_some, lt, fRaise]
     rfl⟩, fun r ys hP => nomatch hP⟩
   ·rw [if_neg z]
    have lt : decide (c < -1) = false := decide_eq_false z
    have fp := for_p (P := pRow) (dd := dr) (k := 3) (I := fun acc L => ∃ a3 a4, L = [none, some (.sh (.int c)), some (nrm (.list acc)), a3, a4]) (body := cbody) (xs := xs) (acc := []) (L := [none, some (.sh (.int c)), some (.flat []), none, none])
     (r1_p (meth_p (size_p (n := n)) (L := [none, some (.sh (.int c)), some (.flat []), none, none]) (N := 5) rfl hl) hl) ⟨none, none, rfl⟩ rfl (fun i acc L hI ha => by
      obtain ⟨a3, a4, rfl⟩ := hI
      obtain ⟨b1, b2⟩ := cbody_p (n := n) (a1 := some (.sh (.int c))) (acc := acc) (i := i) (a4 := a4) hl ha
      refine ⟨[none, some (.sh (.int c)), some (nrm (.list acc)), some (.sh i), a4], fun p => ?_, b1, fun pre rest r ys e hP => ?_⟩
      ·simp only [fgName, st_set (show 3 < ([none, some (.sh (.int c)), some (nrm (.list acc)), a3, a4] : DS).length by simp), List.set_cons_zero, List.set_cons_succ]
      ·obtain ⟨pre', e', h⟩ := b2 pre rest r ys e hP
       exact ⟨pre', _, e', ⟨_, _, rfl⟩, h⟩) pre1 zs e1
    obtain ⟨h1, h2⟩ := fp
    refine ⟨fun hP => ?_, fun r ys hP => ?_⟩
    ·rw [Option.map_eq_none_iff] at hP
     obtain ⟨ds', h3⟩ := h1 hP
     exact ⟨ds', by
      simp only [fSeq, fSetX, fSet, m, bS, st_set (show 1 < ([none, none, none, none, none] : DS).length by simp), List.set_cons_zero, List.set_cons_succ, fIfS, fBool, fOp, fVar, g1, fUn, fC, see, OV.view, gNeg, gCmp, gI, cT, if_true, Option.map_some, lt, Bool.false_eq_true, if_false, fNext, fLst, fNil, frzs, List.length_nil, Nat.zero_le, st_set (show 2 < ([none, some (.sh (.int c)), none, none, none] : DS).length by simp), h3]⟩
    ·rw [Option.map_eq_some_iff] at hP
     obtain ⟨⟨rows, ys'⟩, h4, h5⟩ := hP
     cases h5
     obtain ⟨pre', L2, e', ⟨b3, b4, rfl⟩, h3⟩ := h2 rows ys' h4
     have v2 : ∀ p, fVar 2 (St0 [none, some (.sh (.int c)), some (nrm (.list (rows.map dr))), b3, b4] xs n p) = some (.loc 2, St0 [none, some (.sh (.int c)), some (nrm (.list (rows.map dr))), b3, b4] xs n p) := fun p => var_nl rfl
     have g2 : ∀ p, (St0 [none, some (.sh (.int c)), some (nrm (.list (rows.map dr))), b3, b4] xs n p)[2]? = some (some (nrm (.list (rows.map dr)))) := fun p => rfl
     have ix : ∀ p, fIf (fBool (fOp gEqX (fVar 1) (fUn gNeg (fC (.int 1))))) (fC .none) (fVar 1) (St0 [none, some (.sh (.int c)), some (nrm (.list (rows.map dr))), b3, b4] xs n p) = some (.ov (.sh (ixD c)), St0 [none, some (.sh (.int c)), some (nrm (.list (rows.map dr))), b3, b4] xs n p) := fun p => by
      simp only [fIf, fBool, fOp, fVar, g1, bS, fUn, fC, see, OV.view, gNeg, Option.map_some, eqv_ii]
      unfold ixD
      by_cases z : c = -1
      ·simp [z]
      ·simp [z]
     have o1 : OV.own? (.sh (ixD c)) = some (ixD c) := by
      unfold ixD; split <;> rfl
     have o2 : (nrm (.list (rows.map dr))).own? = some (.list (rows.map dr)) := nrm_own _
     refine ⟨pre', [none, some (.sh (.int c)), none, b3, b4], rfl, e', ?_⟩
     simp only [fSeq, fSetX, fSet, m, bS, st_set (show 1 < ([none, none, none, none, none] : DS).length by simp), List.set_cons_zero, List.set_cons_succ, fIfS, fBool, fOp, fVar, g1, fUn, fC, see, OV.view, gNeg, gCmp, gI, cT, if_true, Option.map_some, lt, Bool.false_eq_true, if_false, fNext, fLst, fNil, frzs, List.length_nil, Nat.zero_le, st_set (show 2 < ([none, some (.sh (.int c)), none, none, none] : DS).length by simp), h3]
     simp only [fRet, fTupO, fCons, ix, bS, v2, fNil, Option.map_some, ownRs, ownR, o1, o2, g2, List.length_cons, List.length_nil]
     rfl
 refine ⟨fun pre rest hl hP => funO_no (N := 5) (by decide) ((run pre rest hl).1 hP), fun pre rest r ys hl hP => ?_⟩
 obtain ⟨pre', L2, l2, e', h⟩ := (run pre rest hl).2 r ys hP
 exact ⟨pre', e', funO_rd (N := 5) (by decide) l2 h⟩
theorem claims_p : RdP g_BookReader_claims n (pList pClaim) fun cs => .list (cs.map dc) := many_p claim_p
theorem rows_p : RdP g_BookReader_rows_of_claims n (pList (pList pClaim)) fun css => .list (css.map fun cs => .list (cs.map dc)) := many_p claims_p
end
end Lw
set_option Elab.async false
set_option linter.all false
set_option maxRecDepth 100000
set_option maxHeartbeats 4000000
namespace Lw
open PySem PySem.Spec L2 Fx
abbrev Pcs := List (List (List (List Int)))
abbrev Ct := Pcs × List Cl × List (List Cl) × List (List Cl) × List (List Cl)
def pPiece (n : Int) : Ps (List (List Int)) := pList (pCond n)
def pTail : List Int → Option (List Cl × List (List Cl) × List (List Cl) × List (List Cl)) := fun xs =>
 (pList pClaim xs).bind fun b => (pList (pList pClaim) b.2).bind fun c => (pList (pList pClaim) c.2).bind fun d => (pList (pList pClaim) d.2).bind fun e => if e.2 = [] then some (b.1, c.1, d.1, e.1) else none
def pBook (n : Int) : List Int → Option Ct := fun xs => (pList (pList (pPiece n)) xs).bind fun a => (pTail a.2).map fun t => (a.1, t)
def dpiece (rs : List (List Int)) : D := .list (rs.map lI)
def dthere (ps : List (List (List Int))) : D := .list (ps.map dpiece)
def dclaims (cs : List Cl) : D := .list (cs.map dc)
def drows (css : List (List Cl)) : D := .list (css.map dclaims)
def dct (c : Ct) : D := .tuple [.list (c.1.map dthere), dclaims c.2.1, drows c.2.2.1, drows c.2.2.2.1, drows c.2.2.2.2]
noncomputable def rt4 : DS → Option Out := fSeq (fIfS (fBool (fOp gNeX (fFld 11) (fCa gLen (fCons (fFld 9) fNil)))) (fRaise "BadBook") fNext) (fRet (fTupO (fCons (fVar 3) (fCons (fVar 5) (fCons (fVar 6) (fCons (fVar 7) (fCons (fVar 8) fNil)))))))
noncomputable def rt3 : DS → Option Out := fSeq (fSetX 8 (fMethX 9 1 g_BookReader_rows_of_claims fNil)) rt4
noncomputable def rt2 : DS → Option Out := fSeq (fSetX 7 (fMethX 9 1 g_BookReader_rows_of_claims fNil)) rt3
noncomputable def rt1 : DS → Option Out := fSeq (fSetX 6 (fMethX 9 1 g_BookReader_rows_of_claims fNil)) rt2
noncomputable def rtail : DS → Option Out := fSeq (fSetX 5 (fMethX 9 1 g_BookReader_claims fNil)) rt1
noncomputable def pbody : DS → Option Out := fAppTX 3 (fLcMX (fiR1X (fConsX (fMethX 9 1 g_BookReader_size fNil) fNilX)) (fgName 4) (fMethX 9 1 g_BookReader_piece fNil) [4])
noncomputable def rbody : DS → Option Out := fSeq (fSet 3 (fLst fNil)) (fSeq (fForX (fiR1X (fConsX (fMethX 9 1 g_BookReader_size fNil) fNilX)) (fgName 4) pbody) rtail)
theorem read_fb : fb_read_book = fNewO 9 2 3 3 g_BookReader___init__ (fCons (fListOf (fCons (fVar 0) fNil)) (fCons (fVar 1) fNil)) rbody := rfl
section
variable {R : Type} {n : Int} {P : Ps R} {d : R → D} {g : DS → Option DR} {xs : List Int} {L : DS} {N k : Nat}
theorem setX_p {f : DS → Option Out} (h : RdP g n P d) (hL : L.length = N) (hk : k < N) (hl : xs.length ≤ 1000000) (pre rest : List Int) (e : xs = pre ++ rest) :
  (P rest = none → ∃ ds', fSeq (fSetX k (fMethX N 1 g fNil)) f (St0 L xs n pre.length) = some (.ex "BadBook" ds')) ∧
  ∀ r ys, P rest = some (r, ys) → ∃ pre', xs = pre' ++ ys ∧ fSeq (fSetX k (fMethX N 1 g fNil)) f (St0 L xs n pre.length) = f (St0 (L.set k (some (nrm (d r)))) xs n pre'.length) := by
 have m := meth_p h hL hl
 refine ⟨fun hP => ?_, fun r ys hP => ?_⟩
 ·obtain ⟨ds', h1⟩ := m.no pre rest e hP
  exact ⟨ds', by simp only [fSeq, fSetX, h1, bS]⟩
 ·obtain ⟨pre', e', h1⟩ := m.yes pre rest r ys e hP
  exact ⟨pre', e', by simp only [fSeq, fSetX, h1, bS, st_set (show k < List.length L by omega)]⟩
end
section
variable {n : Int} {xs : List Int}
theorem rtail_p {a0 a1 a4 : Option OV} {A : List D} (hl : xs.length ≤ 1000000) (pre rest : List Int) (e : xs = pre ++ rest) :
  (pTail rest = none → ∃ ds', rtail (St0 [a0, a1, none, some (nrm (.list A)), a4, none, none, none, none] xs n pre.length) = some (.ex "BadBook" ds')) ∧
  ∀ t, pTail rest = some t → ∃ ds', rtail (St0 [a0, a1, none, some (nrm (.list A)), a4, none, none, none, none] xs n pre.length) = some (.ret (nrm (.tuple [.list A, dclaims t.1, drows t.2.1, drows t.2.2.1, drows t.2.2.2])) ds') := by
 unfold rtail pTail
 cases h1 : pList pClaim rest with
 | none => exact ⟨fun _ => (setX_p (claims_p (n := n)) (L := [a0, a1, none, some (nrm (.list A)), a4, none, none, none, none]) (N := 9) (k := 5) rfl (by decide) hl pre rest e).1 h1, fun t hP => (nomatch hP)⟩
 | some b =>
 obtain ⟨st, r1⟩ := b
 obtain ⟨p1, e1, m1⟩ := (setX_p (f := rt1) (claims_p (n := n)) (L := [a0, a1, none, some (nrm (.list A)), a4, none, none, none, none]) (N := 9) (k := 5) rfl (by decide) hl pre rest e).2 st r1 h1
 rw [m1]
 simp only [bS]
 unfold rt1
 have q1 : ([a0, a1, none, some (nrm (.list A)), a4, none, none, none, none] : DS).set 5 (some (nrm (.list (st.map dc)))) = [a0, a1, none, some (nrm (.list A)), a4, some (nrm (dclaims st)), none, none, none] := rfl
 rw [q1]
 cases h2 : pList (pList pClaim) r1 with
 | none => exact ⟨fun _ => (setX_p (rows_p (n := n)) (L := [a0, a1, none, some (nrm (.list A)), a4, some (nrm (dclaims st)), none, none, none]) (N := 9) (k := 6) rfl (by decide) hl p1 r1 e1).1 h2, fun t hP => (nomatch hP)⟩
 | some c =>
 obtain ⟨wa, r2⟩ := c
 obtain ⟨p2, e2, m2⟩ := (setX_p (f := rt2) (rows_p (n := n)) (L := [a0, a1, none, some (nrm (.list A)), a4, some (nrm (dclaims st)), none, none, none]) (N := 9) (k := 6) rfl (by decide) hl p1 r1 e1).2 wa r2 h2
 rw [m2]
 simp only [bS]
 unfold rt2
 have q2 : ([a0, a1, none, some (nrm (.list A)), a4, some (nrm (dclaims st)), none, none, none] : DS).set 6 (some (nrm (.list (wa.map fun cs => .list (cs.map dc))))) = [a0, a1, none, some (nrm (.list A)), a4, some (nrm (dclaims st)), some (nrm (drows wa)), none, none] := rfl
 rw [q2]
 cases h3 : pList (pList pClaim) r2 with
 | none => exact ⟨fun _ => (setX_p (rows_p (n := n)) (L := [a0, a1, none, some (nrm (.list A)), a4, some (nrm (dclaims st)), some (nrm (drows wa)), none, none]) (N := 9) (k := 7) rfl (by decide) hl p2 r2 e2).1 h3, fun t hP => (nomatch hP)⟩
 | some c =>
 obtain ⟨ju, r3⟩ := c
 obtain ⟨p3, e3, m3⟩ := (setX_p (f := rt3) (rows_p (n := n)) (L := [a0, a1, none, some (nrm (.list A)), a4, some (nrm (dclaims st)), some (nrm (drows wa)), none, none]) (N := 9) (k := 7) rfl (by decide) hl p2 r2 e2).2 ju r3 h3
 rw [m3]
 simp only [bS]
 unfold rt3
 have q3 : ([a0, a1, none, some (nrm (.list A)), a4, some (nrm (dclaims st)), some (nrm (drows wa)), none, none] : DS).set 7 (some (nrm (.list (ju.map fun cs => .list (cs.map dc))))) = [a0, a1, none, some (nrm (.list A)), a4, some (nrm (dclaims st)), some (nrm (drows wa)), some (nrm (drows ju)), none] := rfl
 rw [q3]
 cases h4 : pList (pList pClaim) r3 with
 | none => exact ⟨fun _ => (setX_p (rows_p (n := n)) (L := [a0, a1, none, some (nrm (.list A)), a4, some (nrm (dclaims st)), some (nrm (drows wa)), some (nrm (drows ju)), none]) (N := 9) (k := 8) rfl (by decide) hl p3 r3 e3).1 h4, fun t hP => (nomatch hP)⟩
 | some c =>
 obtain ⟨en, r4⟩ := c
 obtain ⟨p4, e4, m4⟩ := (setX_p (f := rt4) (rows_p (n := n)) (L := [a0, a1, none, some (nrm (.list A)), a4, some (nrm (dclaims st)), some (nrm (drows wa)), some (nrm (drows ju)), none]) (N := 9) (k := 8) rfl (by decide) hl p3 r3 e3).2 en r4 h4
 rw [m4]
 simp only [bS]
 unfold rt4
 have q4 : ([a0, a1, none, some (nrm (.list A)), a4, some (nrm (dclaims st)), some (nrm (drows wa)), some (nrm (drows ju)), none] : DS).set 8 (some (nrm (.list (en.map fun cs => .list (cs.map dc))))) = [a0, a1, none, some (nrm (.list A)), a4, some (nrm (dclaims st)), some (nrm (drows wa)), some (nrm (drows ju)), some (nrm (drows en))] := rfl
 rw [q4]
 have fin : (St0 [a0, a1, none, some (nrm (.list A)), a4, some (nrm (dclaims st)), some (nrm (drows wa)), some (nrm (drows ju)), some (nrm (drows en))] xs n p4.length) = [a0, a1, none, some (nrm (.list A)), a4, some (nrm (dclaims st)), some (nrm (drows wa)), some (nrm (drows ju)), some (nrm (drows en)), some (.sh (.list (xs.map PyData.int))), some (.sh (.int n)), some (.sh (.int (p4.length : Int)))] := rfl
 have hx : ((xs.map PyData.int).length : Int) = (xs.length : Int) := by rw [List.length_map]
 have hx2 : (xs.length : Int) = (p4.length : Int) + (r4.length : Int) := by rw [e4, List.length_append]; omega
 rw [fin]
 by_cases z : r4 = []
 ·rw [if_pos z]
  refine ⟨fun hP => (nomatch hP), fun t hP => ?_⟩
  cases hP
  have ne : decide ((p4.length : Int) = ((xs.map PyData.int).length : Int)) = true := decide_eq_true (by rw [hx, hx2, z]; simp)
  have o : ∀ l, (nrm (.list l)).own? = some (.list l) := fun l => nrm_own _
  have v3 := var_nl (i := 3) (ds := [a0, a1, none, some (nrm (.list A)), a4, some (nrm (dclaims st)), some (nrm (drows wa)), some (nrm (drows ju)), some (nrm (drows en)), some (.sh (.list (xs.map PyData.int))), some (.sh (.int n)), some (.sh (.int (p4.length : Int)))]) (l := A) rfl
  have v5 := var_nl (i := 5) (ds := [a0, a1, none, some (nrm (.list A)), a4, some (nrm (dclaims st)), some (nrm (drows wa)), some (nrm (drows ju)), some (nrm (drows en)), some (.sh (.list (xs.map PyData.int))), some (.sh (.int n)), some (.sh (.int (p4.length : Int)))]) (l := st.map dc) rfl
  have v6 := var_nl (i := 6) (ds := [a0, a1, none, some (nrm (.list A)), a4, some (nrm (dclaims st)), some (nrm (drows wa)), some (nrm (drows ju)), some (nrm (drows en)), some (.sh (.list (xs.map PyData.int))), some (.sh (.int n)), some (.sh (.int (p4.length : Int)))]) (l := wa.map dclaims) rfl
  have v7 := var_nl (i := 7) (ds := [a0, a1, none, some (nrm (.list A)), a4, some (nrm (dclaims st)), some (nrm (drows wa)), some (nrm (drows ju)), some (nrm (drows en)), some (.sh (.list (xs.map PyData.int))), some (.sh (.int n)), some (.sh (.int (p4.length : Int)))]) (l := ju.map dclaims) rfl
  have v8 := var_nl (i := 8) (ds := [a0, a1, none, some (nrm (.list A)), a4, some (nrm (dclaims st)), some (nrm (drows wa)), some (nrm (drows ju)), some (nrm (drows en)), some (.sh (.list (xs.map PyData.int))), some (.sh (.int n)), some (.sh (.int (p4.length : Int)))]) (l := en.map dclaims) rfl
  have o5 : (nrm (dclaims st)).own? = some (dclaims st) := nrm_own _
  have o6 : (nrm (drows wa)).own? = some (drows wa) := nrm_own _
  have o7 : (nrm (drows ju)).own? = some (drows ju) := nrm_own _
  have o8 : (nrm (drows en)).own? = some (drows en) := nrm_own _
  exact ⟨_, by
   simp only [fSeq, fIfS, fBool, fOp, fFld, fCa, fCons, fNil, List.getElem?_cons_zero, List.getElem?_cons_succ, bS, see, sees, OV.view, gLen, List.set_cons_zero, List.set_cons_succ, nev_ii, ne, Bool.not_true, Bool.false_eq_true, if_false, Option.map_some, fNext, fRet, fTupO, v3, v5, v6, v7, v8, ownRs, ownR, o, o5, o6, o7, o8, List.length_cons, List.length_nil, mov]
   rfl⟩
 ·rw [if_neg z]
  have rl : 0 < r4.length := List.length_pos_iff.mpr z
  have ne : decide ((p4.length : Int) = ((xs.map PyData.int).length : Int)) = false := decide_eq_false (by rw [hx, hx2]; omega)
  exact ⟨fun _ => ⟨_, by
   simp only [fSeq, fIfS, fBool, fOp, fFld, fCa, fCons, fNil, List.getElem?_cons_zero, List.getElem?_cons_succ, bS, see, sees, OV.view, gLen, List.set_cons_zero, List.set_cons_succ, nev_ii, ne, Bool.not_false, if_true, Option.map_some, fRaise]
   rfl⟩, fun t hP => (nomatch hP)⟩
theorem rbody_p {a0 a1 : Option OV} (hl : xs.length ≤ 1000000) :
  (pBook n xs = none → ∃ ds', rbody (St0 [a0, a1, none, none, none, none, none, none, none] xs n 0) = some (.ex "BadBook" ds')) ∧
  ∀ c, pBook n xs = some c → ∃ ds', rbody (St0 [a0, a1, none, none, none, none, none, none, none] xs n 0) = some (.ret (nrm (dct c)) ds') := by
 have fp := for_p (P := pList (pPiece n)) (dd := dthere) (k := 4) (I := fun acc L => ∃ a4, L = [a0, a1, none, some (nrm (.list acc)), a4, none, none, none, none]) (body := pbody) (xs := xs) (acc := []) (L := [a0, a1, none, some (.flat []), none, none, none, none, none])
  (r1_p (meth_p (size_p (n := n)) (L := [a0, a1, none, some (.flat []), none, none, none, none, none]) (N := 9) rfl hl) hl) ⟨none, rfl⟩ rfl (fun i acc L hI ha => by
   obtain ⟨a4, rfl⟩ := hI
   have lc := lc_p (P := pPiece n) (d := dpiece) (k := 4) (L := [a0, a1, none, some (nrm (.list acc)), some (.sh i), none, none, none, none]) (show 4 < 9 by decide) rfl (r1_p (meth_p (size_p (n := n)) (L := [a0, a1, none, some (nrm (.list acc)), some (.sh i), none, none, none, none]) (N := 9) rfl hl) hl) fun j => meth_p (piece_p (n := n)) (L := [a0, a1, none, some (nrm (.list acc)), some (.sh j), none, none, none, none]) (N := 9) rfl hl
   obtain ⟨b1, b2⟩ := app_p (k := 3) (P := pList (pPiece n)) (d := dthere) (L := [a0, a1, none, some (nrm (.list acc)), some (.sh i), none, none, none, none]) (show 3 < 9 by decide) rfl ha lc
   refine ⟨[a0, a1, none, some (nrm (.list acc)), some (.sh i), none, none, none, none], fun p => ?_, b1, fun pre rest r ys e hP => ?_⟩
   ·simp only [fgName, st_set (show 4 < ([a0, a1, none, some (nrm (.list acc)), a4, none, none, none, none] : DS).length by simp), List.set_cons_zero, List.set_cons_succ]
   ·obtain ⟨pre', e', h⟩ := b2 pre rest r ys e hP
    exact ⟨pre', _, e', ⟨_, rfl⟩, h⟩) [] xs rfl
 obtain ⟨h1, h2⟩ := fp
 have fb : ∀ f, rbody (St0 [a0, a1, none, none, none, none, none, none, none] xs n 0) = f → fSeq (fForX (fiR1X (fConsX (fMethX 9 1 g_BookReader_size fNil) fNilX)) (fgName 4) pbody) rtail (St0 [a0, a1, none, some (.flat []), none, none, none, none, none] xs n ([] : List Int).length) = f := fun f h => h
 have fb : rbody (St0 [a0, a1, none, none, none, none, none, none, none] xs n 0) = fSeq (fForX (fiR1X (fConsX (fMethX 9 1 g_BookReader_size fNil) fNilX)) (fgName 4) pbody) rtail (St0 [a0, a1, none, some (.flat []), none, none, none, none, none] xs n ([] : List Int).length) := (fb _ rfl).symm
 rw [fb]
 unfold pBook
 cases hq : pList (pList (pPiece n)) xs with
 | none =>
  obtain ⟨ds', h3⟩ := h1 hq
  exact ⟨fun _ => ⟨ds', by simp only [fSeq, h3, bS]⟩, fun c hP => (nomatch hP)⟩
 | some a =>
  obtain ⟨A, ys⟩ := a
  obtain ⟨pre', L2, e', ⟨a4, rfl⟩, h3⟩ := h2 A ys hq
  obtain ⟨t1, t2⟩ := rtail_p (n := n) (a0 := a0) (a1 := a1) (a4 := a4) (A := A.map dthere) hl pre' ys e'
  simp only [bS, fSeq, h3]
  refine ⟨fun hP => t1 (Option.map_eq_none_iff.mp hP), fun c hP => ?_⟩
  obtain ⟨t, ht, rfl⟩ := Option.map_eq_some_iff.mp hP
  exact t2 t ht
theorem read_p (hl : xs.length ≤ 1000000) :
  (pBook n xs = none → ∃ ds', g_read_book [some (.sh (lI xs)), some (.sh (.int n))] = some (.ex "BadBook" ds')) ∧
  ∀ c, pBook n xs = some c → ∃ ds', g_read_book [some (.sh (lI xs)), some (.sh (.int n))] = some (.ret (nrm (dct c)) ds') := by
 obtain ⟨r1, r2⟩ := rbody_p (n := n) (xs := xs) (a0 := some (.sh (lI xs))) (a1 := some (.sh (.int n))) hl
 have hin : g_BookReader___init__ (none :: (shs [lI xs, .int n] ++ List.replicate 3 none)) = some (.ret (.sh .none) [none, none, none, some (.sh (lI xs)), some (.sh (.int n)), some (.sh (.int 0))]) := by
  simp only [g_BookReader___init__, funO, padD, shs, List.map_cons, List.map_nil, List.take, List.drop, List.replicate, List.append_eq, List.nil_append, List.cons_append, List.append_nil, Nat.sub_self, fb_BookReader___init__, fSeq, fPutF, fVar, fC, List.getElem?_cons_zero, List.getElem?_cons_succ, bS, List.set_cons_zero, List.set_cons_succ, Option.map_some, cutO]
  rfl
 have pd : padD 2 9 [some (.sh (lI xs)), some (.sh (.int n))] = [some (.sh (lI xs)), some (.sh (.int n)), none, none, none, none, none, none, none] := rfl
 have hfa : fCons (fListOf (fCons (fVar 0) fNil)) (fCons (fVar 1) fNil) [some (.sh (lI xs)), some (.sh (.int n)), none, none, none, none, none, none, none] = some ([.ov (.flat (xs.map PyData.int)), .ov (.sh (.int n))], [some (.sh (lI xs)), some (.sh (.int n)), none, none, none, none, none, none, none]) := by
  simp only [fCons, fListOf, fVar, fNil, List.getElem?_cons_zero, List.getElem?_cons_succ, bS, Option.map_some, items, OV.view, lI]
 have hfz : ∀ ds, frzs [.ov (.flat (xs.map PyData.int)), .ov (.sh (.int n))] ds = some ([lI xs, .int n], ds) := fun ds => rfl
 have st : (([some (.sh (lI xs)), some (.sh (.int n)), none, none, none, none, none, none, none] : DS).set 2 none ++ ([none, none, none, some (.sh (lI xs)), some (.sh (.int n)), some (.sh (.int 0))] : DS).drop 3) = St0 [some (.sh (lI xs)), some (.sh (.int n)), none, none, none, none, none, none, none] xs n 0 := rfl
 refine ⟨fun hP => ?_, fun c hP => ?_⟩
 ·obtain ⟨ds', h⟩ := r1 hP
  have hfb : fb_read_book [some (.sh (lI xs)), some (.sh (.int n)), none, none, none, none, none, none, none] = some (.ex "BadBook" (ds'.take 9)) := by
   rw [read_fb]
   simp only [fNewO, hfa, bS, hfz, List.length_cons, List.length_nil, Nat.zero_add, Nat.reduceAdd, if_true, hin]
   rw [st, h]
   rfl
  exact ⟨cutO [] 2 9 (ds'.take 9), by simp only [g_read_book, funO, pd, hfb]⟩
 ·obtain ⟨ds', h⟩ := r2 c hP
  have hfb : fb_read_book [some (.sh (lI xs)), some (.sh (.int n)), none, none, none, none, none, none, none] = some (.ret (nrm (dct c)) (ds'.take 9)) := by
   rw [read_fb]
   simp only [fNewO, hfa, bS, hfz, List.length_cons, List.length_nil, Nat.zero_add, Nat.reduceAdd, if_true, hin]
   rw [st, h]
   rfl
  exact ⟨cutO [] 2 9 (ds'.take 9), by simp only [g_read_book, funO, pd, hfb]⟩
theorem told_p (hl : xs.length ≤ 1000000) : ∃ ds', g_law_told [some (.sh (lI xs)), some (.sh (.int n))] = some (.ret (match pBook n xs with | some c => nrm (dct c) | none => .sh .none) ds') := by
 obtain ⟨r1, r2⟩ := read_p (n := n) (xs := xs) hl
 have pd : padD 2 3 [some (.sh (lI xs)), some (.sh (.int n))] = [some (.sh (lI xs)), some (.sh (.int n)), none] := rfl
 have hfa : fCons (fVar 0) (fCons (fVar 1) fNil) [some (.sh (lI xs)), some (.sh (.int n)), none] = some ([.ov (.sh (lI xs)), .ov (.sh (.int n))], [some (.sh (lI xs)), some (.sh (.int n)), none]) := rfl
 have hfz : ∀ ds, frzs [.ov (.sh (lI xs)), .ov (.sh (.int n))] ds = some ([lI xs, .int n], ds) := fun ds => rfl
 cases hq : pBook n xs with
 | none =>
  obtain ⟨ds', h⟩ := r1 hq
  have h : g_read_book (shs [lI xs, .int n]) = some (.ex "BadBook" ds') := h
  exact ⟨_, by
   simp only [g_law_told, funO, pd, fb_law_told, fTry, fRetX, fCallX, hfa, bS, hfz, List.length_cons, List.length_nil, Nat.zero_add, Nat.reduceAdd, if_true, h, Option.map_some]
   rfl⟩
 | some c =>
  obtain ⟨ds', h⟩ := r2 c hq
  have h : g_read_book (shs [lI xs, .int n]) = some (.ret (nrm (dct c)) ds') := h
  exact ⟨_, by
   simp only [g_law_told, funO, pd, fb_law_told, fTry, fRetX, fCallX, hfa, bS, hfz, List.length_cons, List.length_nil, Nat.zero_add, Nat.reduceAdd, if_true, h, Option.map_some, mov]
   rfl⟩
end
end Lw
set_option Elab.async false
set_option linter.all false
set_option maxRecDepth 100000
set_option maxHeartbeats 2000000
namespace Lw
open PySem
structure Wr {R : Type} (P : Ps R) (w : R → List Int) (ok : R → Prop) : Prop where
 sound : ∀ {xs r ys}, P xs = some (r, ys) → ok r ∧ xs = w r ++ ys
 compl : ∀ {r} ys, ok r → P (w r ++ ys) = some (r, ys)
 pos : ∀ r, 1 ≤ (w r).length
section
variable {R : Type} {P : Ps R} {w : R → List Int} {ok : R → Prop}
def wls (w : R → List Int) (rs : List R) : List Int := (rs.length : Int) :: (rs.map w).flatten
theorem Wr.many (h : Wr P w ok) : ∀ {k xs rs ys}, pMany P k xs = some (rs, ys) → rs.length = k ∧ (∀ r ∈ rs, ok r) ∧ xs = (rs.map w).flatten ++ ys
 | 0, xs, rs, ys, e => by
  simp only [pMany, Option.some.injEq, Prod.mk.injEq] at e
  obtain ⟨rfl, rfl⟩ := e
  exact ⟨rfl, by simp, by simp⟩
 | k + 1, xs, rs, ys, e => by
  simp only [pMany, Option.bind_eq_some_iff, Option.map_eq_some_iff] at e
  obtain ⟨⟨r, zs⟩, e1, ⟨rs', ys'⟩, e2, e3⟩ := e
  cases e3
  obtain ⟨o1, e1⟩ := h.sound e1
  obtain ⟨l2, o2, e2⟩ := h.many e2
  refine ⟨by simp [l2], fun x hx => ?_, ?_⟩
  ·rcases List.mem_cons.mp hx with rfl | hx
   ·exact o1
   ·exact o2 x hx
  ·rw [e1]
   have e2 : zs = _ := e2
   rw [e2]
   simp
theorem Wr.many' (h : Wr P w ok) : ∀ {rs : List R} (ys : List Int), (∀ r ∈ rs, ok r) → pMany P rs.length ((rs.map w).flatten ++ ys) = some (rs, ys)
 | [], ys, _ => by simp [pMany]
 | r :: rs, ys, o => by
  have e : ((r :: rs).map w).flatten ++ ys = w r ++ ((rs.map w).flatten ++ ys) := by simp
  have m := h.many' (rs := rs) ys fun x hx => o x (List.mem_cons_of_mem _ hx)
  rw [e, List.length_cons]
  simp only [pMany, h.compl _ (o r (by simp)), Option.bind_some, m, Option.map_some]
theorem cnt_le (h : ∀ r, 1 ≤ (w r).length) : ∀ rs : List R, rs.length ≤ ((rs.map w).flatten).length
 | [] => by simp
 | r :: rs => by
  have h1 := h r
  have h2 := cnt_le h rs
  simp only [List.map_cons, List.flatten_cons, List.length_append, List.length_cons]
  omega
theorem mem_le {r : R} : ∀ {rs : List R}, r ∈ rs → (w r).length ≤ ((rs.map w).flatten).length
 | x :: rs, h => by
  simp only [List.map_cons, List.flatten_cons, List.length_append]
  rcases List.mem_cons.mp h with rfl | h
  ·omega
  ·have := mem_le (rs := rs) h; omega
theorem pSize_some {xs : List Int} {k : Nat} {ys : List Int} (h : pSize xs = some (k, ys)) : xs = (k : Int) :: ys ∧ k ≤ ys.length := by
 cases xs with
 | nil => cases h
 | cons c xs =>
  simp only [pSize] at h
  split at h
  ·cases h
   exact ⟨by congr 1; omega, by omega⟩
  ·cases h
theorem pSize_of {k : Nat} {ys : List Int} (h : k ≤ ys.length) : pSize ((k : Int) :: ys) = some (k, ys) := by
 simp only [pSize]
 rw [if_pos ⟨by omega, by omega⟩]
 rfl
theorem Wr.list (h : Wr P w ok) : Wr (pList P) (wls w) fun rs => ∀ r ∈ rs, ok r := by
 refine ⟨fun {xs rs ys} e => ?_, fun {rs} ys o => ?_, fun rs => by simp [wls]⟩
 ·simp only [pList, Option.bind_eq_some_iff] at e
  obtain ⟨⟨k, zs⟩, e1, e2⟩ := e
  obtain ⟨e3, _⟩ := pSize_some e1
  obtain ⟨l, o, e4⟩ := h.many e2
  have e4 : zs = _ := e4
  refine ⟨o, ?_⟩
  have l : rs.length = k := l
  rw [e3, e4, wls, l]
  rfl
 ·have := cnt_le h.pos rs
  have e : wls w rs ++ ys = (rs.length : Int) :: ((rs.map w).flatten ++ ys) := rfl
  simp only [pList, e, pSize_of (k := rs.length) (ys := (rs.map w).flatten ++ ys) (by rw [List.length_append]; omega), Option.bind_some]
  exact h.many' ys o
end
theorem flat1 : ∀ r : List Int, (r.map fun x => [x]).flatten = r
 | [] => rfl
 | x :: r => by simp [flat1 r]
theorem wr_take : Wr pTake (fun x => [x]) fun _ => True := ⟨fun {xs r ys} e => ⟨trivial, pTake_le e⟩, fun ys _ => rfl, fun _ => by simp⟩
def wcond (r : List Int) : List Int := (r.length : Int) :: r
theorem wr_cond {n : Int} : Wr (pCond n) wcond fun r => (r.length : Int) = n + 1 := by
 refine ⟨fun {xs r ys} e => ?_, fun {r} ys o => ?_, fun r => by simp [wcond]⟩
 ·simp only [pCond, Option.bind_eq_some_iff] at e
  obtain ⟨⟨k, zs⟩, e1, e2⟩ := e
  obtain ⟨e3, _⟩ := pSize_some e1
  split at e2
  ·rename_i hk
   obtain ⟨l, _, e4⟩ := wr_take.many e2
   rw [flat1] at e4
   have e4 : zs = _ := e4
   have l : r.length = k := l
   have hk : (k : Int) = n + 1 := hk
   exact ⟨by omega, by rw [e3, e4, wcond, l]; rfl⟩
  ·cases e2
 ·have e : wcond r ++ ys = (r.length : Int) :: (r ++ ys) := rfl
  have m := wr_take.many' (rs := r) ys fun _ _ => trivial
  rw [flat1] at m
  simp only [pCond, e, pSize_of (k := r.length) (ys := r ++ ys) (by simp), Option.bind_some]
  rw [if_pos o]
  exact m
def wr (t : Int × List Int) : List Int := t.1 :: wcond t.2
theorem wls_take (r : List Int) : wls (fun x => [x]) r = wcond r := by unfold wls wcond; rw [flat1]
theorem wr_row : Wr pRow wr fun _ => True := by
 refine ⟨fun {xs r ys} e => ?_, fun {r} ys _ => ?_, fun r => by simp [wr]⟩
 ·simp only [pRow, Option.bind_eq_some_iff, Option.map_eq_some_iff] at e
  obtain ⟨⟨s, zs⟩, e1, ⟨f, ys'⟩, e2, e3⟩ := e
  cases e3
  have e1 := (wr_take.sound e1).2
  have e2 := (wr_take.list.sound e2).2
  rw [wls_take] at e2
  have e2 : zs = _ := e2
  exact ⟨trivial, by rw [e1, e2]; rfl⟩
 ·obtain ⟨s, f⟩ := r
  have e1 := wr_take.compl (r := s) (wcond f ++ ys) trivial
  have e2 := wr_take.list.compl (r := f) ys fun _ _ => trivial
  rw [wls_take] at e2
  have e : wr (s, f) ++ ys = [s] ++ (wcond f ++ ys) := rfl
  rw [e]
  simp only [pRow, e1, Option.bind_some, e2, Option.map_some]
def wc (t : Cl) : List Int := t.1 :: wls wr t.2
theorem wr_claim : Wr pClaim wc fun t => -1 ≤ t.1 := by
 refine ⟨fun {xs r ys} e => ?_, fun {r} ys o => ?_, fun r => by simp [wc]⟩
 ·simp only [pClaim, Option.bind_eq_some_iff] at e
  obtain ⟨⟨s, zs⟩, e1, e2⟩ := e
  split at e2
  ·cases e2
  ·rename_i hs
   obtain ⟨⟨f, ys'⟩, e4, e3⟩ := Option.map_eq_some_iff.mp e2
   cases e3
   have e1 := (wr_take.sound e1).2
   have e2 := (wr_row.list.sound e4).2
   have e2 : zs = _ := e2
   have hs : ¬ s < -1 := hs
   exact ⟨by show -1 ≤ s; omega, by rw [e1, e2]; rfl⟩
 ·obtain ⟨s, f⟩ := r
  have o : -1 ≤ s := o
  have e1 := wr_take.compl (r := s) (wls wr f ++ ys) trivial
  have e2 := wr_row.list.compl (r := f) ys fun _ _ => trivial
  have e : wc (s, f) ++ ys = [s] ++ (wls wr f ++ ys) := rfl
  rw [e]
  simp only [pClaim, e1, Option.bind_some]
  rw [if_neg (by omega)]
  simp only [e2, Option.map_some]
abbrev wpiece : List (List Int) → List Int := wls wcond
abbrev wthere : List (List (List Int)) → List Int := wls wpiece
abbrev wclaims : List Cl → List Int := wls wc
abbrev wrows : List (List Cl) → List Int := wls wclaims
structure Good (n : Int) (c : Ct) : Prop where
 pc : ∀ ps ∈ c.1, ∀ rs ∈ ps, ∀ r ∈ rs, (r.length : Int) = n + 1
 st : ∀ t ∈ c.2.1, -1 ≤ t.1
 wa : ∀ cs ∈ c.2.2.1, ∀ t ∈ cs, -1 ≤ t.1
 ju : ∀ cs ∈ c.2.2.2.1, ∀ t ∈ cs, -1 ≤ t.1
 en : ∀ cs ∈ c.2.2.2.2, ∀ t ∈ cs, -1 ≤ t.1
def book (c : Ct) : List Int := wls wthere c.1 ++ wclaims c.2.1 ++ wrows c.2.2.1 ++ wrows c.2.2.2.1 ++ wrows c.2.2.2.2
theorem book_sound {n : Int} {xs : List Int} {c : Ct} (h : pBook n xs = some c) : Good n c ∧ xs = book c := by
 simp only [pBook, pTail, Option.bind_eq_some_iff, Option.map_eq_some_iff] at h
 obtain ⟨⟨A, r0⟩, h0, t, ⟨⟨st, r1⟩, h1, ⟨wa, r2⟩, h2, ⟨ju, r3⟩, h3, ⟨en, r4⟩, h4, h5⟩, rfl⟩ := h
 split at h5
 ·rename_i z
  cases h5
  obtain ⟨o0, e0⟩ := (wr_cond (n := n)).list.list.list.sound h0
  obtain ⟨o1, e1⟩ := wr_claim.list.sound h1
  obtain ⟨o2, e2⟩ := wr_claim.list.list.sound h2
  obtain ⟨o3, e3⟩ := wr_claim.list.list.sound h3
  obtain ⟨o4, e4⟩ := wr_claim.list.list.sound h4
  have e1 : r0 = _ := e1
  have e2 : r1 = _ := e2
  have e3 : r2 = _ := e3
  have e4 : r3 = _ := e4
  have z : r4 = [] := z
  refine ⟨⟨o0, o1, o2, o3, o4⟩, ?_⟩
  rw [e0, e1, e2, e3, e4, z]
  simp [book]
 ·cases h5
theorem book_compl {n : Int} {c : Ct} (g : Good n c) : pBook n (book c) = some c := by
 obtain ⟨A, st, wa, ju, en⟩ := c
 obtain ⟨g0, g1, g2, g3, g4⟩ := g
 have e : book (A, st, wa, ju, en) = wls wthere A ++ (wclaims st ++ (wrows wa ++ (wrows ju ++ (wrows en ++ [])))) := by simp [book]
 have h0 := (wr_cond (n := n)).list.list.list.compl (r := A) (wclaims st ++ (wrows wa ++ (wrows ju ++ (wrows en ++ [])))) g0
 have h1 := wr_claim.list.compl (r := st) (wrows wa ++ (wrows ju ++ (wrows en ++ []))) g1
 have h2 := wr_claim.list.list.compl (r := wa) (wrows ju ++ (wrows en ++ [])) g2
 have h3 := wr_claim.list.list.compl (r := ju) (wrows en ++ []) g3
 have h4 := wr_claim.list.list.compl (r := en) [] g4
 have h0 : pList (pList (pPiece n)) (book (A, st, wa, ju, en)) = some (A, wclaims st ++ (wrows wa ++ (wrows ju ++ (wrows en ++ [])))) := by rw [e]; exact h0
 unfold pBook
 rw [h0]
 simp only [Option.bind_some, pTail, h1, h2, h3, h4, if_true, Option.map_some]
end Lw
set_option Elab.async false
set_option linter.all false
set_option maxRecDepth 100000
set_option maxHeartbeats 2000000
namespace Lw
open PySem PySem.Spec L2 Fx
theorem loopI {I : DS → Prop} {g : D → DS → Option DS} {body : DS → Option Out} : ∀ {l : List D}, (∀ d ∈ l, ∀ ds, I ds → ∃ d1 d2, g d ds = some d1 ∧ body d1 = some (.nx d2) ∧ I d2) → ∀ ds, I ds → ∃ d2, loopF g body l ds = some (.nx d2) ∧ I d2
 | [], _, ds, h => ⟨ds, rfl, h⟩
 | d :: l, step, ds, h => by
  obtain ⟨d1, d2, h1, h2, h3⟩ := step d (by simp) ds h
  obtain ⟨d3, h4, h5⟩ := loopI (l := l) (fun e he => step e (List.mem_cons_of_mem _ he)) d2 h3
  exact ⟨d3, by simp only [loopF, h1, bS, h2, h4], h5⟩
theorem lc_none {k : Nat} {fi : DS → Option (List D × DS)} {ft : DS → Option (Bool × DS)} {fe : DS → Option (RV × DS)} {ds ds1 : DS} {l : List D} (hi : fi ds = some (l, ds1)) (hl : l.length ≤ 1000000) (hk : k < ds1.length) (hs : shB ds1[k]? = true) (ht : ∀ d ∈ l, ft (ds1.set k (some (.sh d))) = some (false, ds1.set k (some (.sh d)))) :
  fLc fi (fgName k) ft fe [k] ds = some (.ov (.flat []), ds1) := by
 have loop : ∀ (m : List D), (∀ d ∈ m, d ∈ l) → lcF (turnC (fgName k) ft fe [k]) m (ds1.set k none) [] = some ([], ds1.set k none) := by
  intro m
  induction m with
  | nil => exact fun _ => rfl
  | cons d m ih =>
   intro hm
   have h1 := ht d (hm d (by simp))
   have w : wipeD (ds1.set k (some (.sh d))) [k] = ds1.set k none := by
    show (ds1.set k (some (.sh d))).set k none = _
    rw [List.set_set]
   have t : turnC (fgName k) ft fe [k] d (ds1.set k none) = some (none, ds1.set k none) := by
    simp only [turnC, fgName, bS, List.set_set, h1, Bool.false_eq_true, if_false, w]
   simp only [lcF, t, bS, Option.toList, List.append_nil]
   exact ih fun e he => hm e (by simp [he])
 have w : wipeD ds1 [k] = ds1.set k none := rfl
 have c : (([k].all fun i => shB ds1[i]?) && decide (l.length ≤ 1000000)) = true := by
  simp only [List.all_cons, List.all_nil, Bool.and_true, hs, decide_eq_true hl]
 have mm : mend ds1 (ds1.set k none) [k] = ds1 := by
  show (ds1.set k none).set k ((ds1[k]?).getD none) = _
  rw [List.set_set, List.getElem?_eq_getElem hk, Option.getD_some, List.set_getElem_self]
 simp only [fLc, fLcG, hi, bS, c, if_true, w, loop l fun _ h => h, Option.map_some, mm]
theorem y_int (i : Int) : g_law_is_integer [some (.sh (.int i))] = some (.ret (.sh (.bool true)) [none]) := rfl
noncomputable def c3 : DS → Option Out := fIfS (fOrT (fNotT (fTru (fIsi "tuple" (fVar 2)))) (fOrT (fBool (fOp gNeX (fCa gLen (fCons (fVar 2) fNil)) (fC (.int 2)))) (fOrT (fNotT (fTru (fCall 1 g_law_is_integer (fCons (fIx (fVar 2) (fC (.int 0))) fNil)))) (fNotT (fTru (fIsi "list" (fIx (fVar 2) (fC (.int 1))))))))) (fRet (fC (.bool false))) fNext
theorem y_row (C : D) (T : D) (r : Int × List Int) : c3 [some (.sh C), some (.sh T), some (.sh (dr r))] = some (.nx [some (.sh C), some (.sh T), some (.sh (dr r))]) := by
 have h1 : fIsi "tuple" (fVar 2) [some (.sh C), some (.sh T), some (.sh (dr r))] = some (.ov (.sh (.bool true)), [some (.sh C), some (.sh T), some (.sh (dr r))]) := rfl
 have h2 : fOp gNeX (fCa gLen (fCons (fVar 2) fNil)) (fC (.int 2)) [some (.sh C), some (.sh T), some (.sh (dr r))] = some (.ov (.sh (.bool false)), [some (.sh C), some (.sh T), some (.sh (dr r))]) := rfl
 have h3 : fIx (fVar 2) (fC (.int 0)) [some (.sh C), some (.sh T), some (.sh (dr r))] = some (.ov (.sh (.int r.1)), [some (.sh C), some (.sh T), some (.sh (dr r))]) := rfl
 have h4 : fIsi "list" (fIx (fVar 2) (fC (.int 1))) [some (.sh C), some (.sh T), some (.sh (dr r))] = some (.ov (.sh (.bool true)), [some (.sh C), some (.sh T), some (.sh (dr r))]) := rfl
 have h5 : fCall 1 g_law_is_integer (fCons (fIx (fVar 2) (fC (.int 0))) fNil) [some (.sh C), some (.sh T), some (.sh (dr r))] = some (.ov (.sh (.bool true)), [some (.sh C), some (.sh T), some (.sh (dr r))]) := by
  have i : g_law_is_integer (shs [.int r.1]) = _ := y_int r.1
  simp only [fCall, fCons, h3, bS, fNil, Option.map_some, sees, see, OV.view, List.length_cons, List.length_nil, Nat.zero_add, if_true, i, frzs, frz, ite_self]
 simp only [c3, fIfS, fOrT, fNotT, fTru, fBool, h1, h2, h4, h5, bS, see, OV.view, truD, Option.map_some, Bool.not_true, Bool.false_eq_true, if_false, fNext]
noncomputable def c1 : DS → Option Out := fSeq (fIfS (fOrT (fNotT (fTru (fIsi "tuple" (fVar 1)))) (fOrT (fBool (fOp gNeX (fCa gLen (fCons (fVar 1) fNil)) (fC (.int 2)))) (fNotT (fTru (fIsi "list" (fIx (fVar 1) (fC (.int 1)))))))) (fRet (fC (.bool false))) fNext) (fSeq (fIfS (fAndT (fBool (fOp gNotN2 (fIx (fVar 1) (fC (.int 0))) (fC .none))) (fNotT (fAndT (fTru (fCall 1 g_law_is_integer (fCons (fIx (fVar 1) (fC (.int 0))) fNil))) (fBool (fOp gNeX (fIx (fVar 1) (fC (.int 0))) (fUn gNeg (fC (.int 1)))))))) (fRet (fC (.bool false))) fNext) (fFor (fiList (fIx (fVar 1) (fC (.int 1)))) (fgName 2) c3))
theorem y_fb : fb_law_is_claims = fSeq (fFor (fiList (fVar 0)) (fgName 1) c1) (fRet (fC (.bool true))) := rfl
theorem y_claim (C : D) (t : Cl) (x2 : Option OV) : ∃ y, c1 [some (.sh C), some (.sh (dc t)), x2] = some (.nx [some (.sh C), some (.sh (dc t)), y]) := by
 obtain ⟨c, rows⟩ := t
 have h1 : fIsi "tuple" (fVar 1) [some (.sh C), some (.sh (dc (c, rows))), x2] = some (.ov (.sh (.bool true)), [some (.sh C), some (.sh (dc (c, rows))), x2]) := rfl
 have h2 : fOp gNeX (fCa gLen (fCons (fVar 1) fNil)) (fC (.int 2)) [some (.sh C), some (.sh (dc (c, rows))), x2] = some (.ov (.sh (.bool false)), [some (.sh C), some (.sh (dc (c, rows))), x2]) := rfl
 have a1 : atI [ixD c, PyData.list (rows.map dr)] (1 : Int) = some (.list (rows.map dr)) := rfl
 have a0 : atI [ixD c, PyData.list (rows.map dr)] (0 : Int) = some (ixD c) := rfl
 have sl : isSc (.list (rows.map dr)) = false := rfl
 have sx : isSc (ixD c) = true := by unfold ixD; split <;> rfl
 have v : fVar 1 [some (.sh C), some (.sh (dc (c, rows))), x2] = some (.ov (.sh (.tuple [ixD c, .list (rows.map dr)])), [some (.sh C), some (.sh (dc (c, rows))), x2]) := rfl
 have i1 : fIx (fVar 1) (fC (.int 1)) [some (.sh C), some (.sh (dc (c, rows))), x2] = some (.ov (.sh (.list (rows.map dr))), [some (.sh C), some (.sh (dc (c, rows))), x2]) := by
  simp only [fIx, v, fC, bS, see, OV.view, a1, sl, Bool.false_eq_true, if_false, items, Option.map_some]
 have i0 : fIx (fVar 1) (fC (.int 0)) [some (.sh C), some (.sh (dc (c, rows))), x2] = some (.ov (.sh (ixD c)), [some (.sh C), some (.sh (dc (c, rows))), x2]) := by
  simp only [fIx, v, fC, bS, see, OV.view, a0, sx, if_true]
 have h4 : fIsi "list" (fIx (fVar 1) (fC (.int 1))) [some (.sh C), some (.sh (dc (c, rows))), x2] = some (.ov (.sh (.bool true)), [some (.sh C), some (.sh (dc (c, rows))), x2]) := by
  have k : (tyD (.list (rows.map dr))).bind (fun t => (kitB t "list").map fun b => (RV.ov (.sh (.bool b)), ([some (.sh C), some (.sh (dc (c, rows))), x2] : DS))) = some (.ov (.sh (.bool true)), [some (.sh C), some (.sh (dc (c, rows))), x2]) := rfl
  simp only [fIsi, i1, bS, see, OV.view]
  exact k
 have t1 : fAndT (fBool (fOp gNotN2 (fIx (fVar 1) (fC (.int 0))) (fC .none))) (fNotT (fAndT (fTru (fCall 1 g_law_is_integer (fCons (fIx (fVar 1) (fC (.int 0))) fNil))) (fBool (fOp gNeX (fIx (fVar 1) (fC (.int 0))) (fUn gNeg (fC (.int 1))))))) [some (.sh C), some (.sh (dc (c, rows))), x2] = some (false, [some (.sh C), some (.sh (dc (c, rows))), x2]) := by
  by_cases z : c = -1
  ·have e : ixD c = .none := by unfold ixD; rw [if_pos z]
   rw [e] at i0
   simp only [fAndT, fBool, fOp, i0, fC, bS, see, OV.view, gNotN2, isNd, Option.map_some, Bool.not_true, Bool.false_eq_true, if_false]
  ·have e : ixD c = .int c := by unfold ixD; rw [if_neg z]
   rw [e] at i0
   have i : g_law_is_integer (shs [.int c]) = _ := y_int c
   have ne : decide (c = -1) = false := decide_eq_false z
   simp only [fAndT, fBool, fOp, i0, fC, bS, see, OV.view, gNotN2, isNd, Option.map_some, Bool.not_false, if_true, fNotT, fTru, fCall, fCons, fNil, sees, List.length_cons, List.length_nil, Nat.zero_add, i, frzs, frz, ite_self, truD, fUn, gNeg, nev_ii, ne, Bool.not_true]
 obtain ⟨d2, l1, y, rfl⟩ := loopI (I := fun ds => ∃ y, ds = [some (.sh C), some (.sh (dc (c, rows))), y]) (g := fgName 2) (body := c3) (l := rows.map dr) (fun d hd ds ⟨y, e⟩ => by
  subst e
  obtain ⟨r, _, rfl⟩ := List.mem_map.mp hd
  exact ⟨_, _, rfl, y_row C (dc (c, rows)) r, _, rfl⟩) [some (.sh C), some (.sh (dc (c, rows))), x2] ⟨x2, rfl⟩
 refine ⟨y, ?_⟩
 simp only [c1, fSeq, fIfS, fOrT, fNotT, fTru, fBool, h1, h2, h4, t1, bS, see, OV.view, truD, Option.map_some, Bool.not_true, Bool.false_eq_true, if_false, fNext, fFor, fiList, i1, frz]
 exact l1
theorem y_claims (cs : List Cl) : ∃ d, g_law_is_claims [some (.sh (dclaims cs))] = some (.ret (.sh (.bool true)) d) := by
 have pd : padD 1 3 [some (.sh (dclaims cs))] = [some (.sh (dclaims cs)), none, none] := rfl
 obtain ⟨d2, l1, y, z, rfl⟩ := loopI (I := fun ds => ∃ y z, ds = [some (.sh (dclaims cs)), y, z]) (g := fgName 1) (body := c1) (l := cs.map dc) (fun d hd ds ⟨y, z, e⟩ => by
  subst e
  obtain ⟨t, _, rfl⟩ := List.mem_map.mp hd
  obtain ⟨w, h⟩ := y_claim (dclaims cs) t z
  exact ⟨_, _, rfl, h, _, _, rfl⟩) [some (.sh (dclaims cs)), none, none] ⟨none, none, rfl⟩
 have f1 : fFor (fiList (fVar 0)) (fgName 1) c1 [some (.sh (dclaims cs)), none, none] = some (.nx [some (.sh (dclaims cs)), y, z]) := l1
 exact ⟨_, by
  simp only [g_law_is_claims, funO, pd, y_fb, fSeq, f1, bS, fRet, fC, mov, Option.map_some]
  rfl⟩
noncomputable def q4 : DS → Option Out := fIfS (fOrT (fNotT (fTru (fIsi "list" (fVar 4)))) (fBool (fOp gNeX (fCa gLen (fCons (fVar 4) fNil)) (fAdd (fVar 1) (fC (.int 1)))))) (fRet (fC (.bool false))) fNext
theorem y_cond {C : D} {n : Int} {r : List Int} (h : (r.length : Int) = n + 1) {x2 x3 : Option OV} : q4 [some (.sh C), some (.sh (.int n)), x2, x3, some (.sh (lI r)), none] = some (.nx [some (.sh C), some (.sh (.int n)), x2, x3, some (.sh (lI r)), none]) := by
 have h1 : fIsi "list" (fVar 4) [some (.sh C), some (.sh (.int n)), x2, x3, some (.sh (lI r)), none] = some (.ov (.sh (.bool true)), [some (.sh C), some (.sh (.int n)), x2, x3, some (.sh (lI r)), none]) := rfl
 have v4 : fVar 4 [some (.sh C), some (.sh (.int n)), x2, x3, some (.sh (lI r)), none] = some (.ov (.sh (.list (r.map PyData.int))), [some (.sh C), some (.sh (.int n)), x2, x3, some (.sh (lI r)), none]) := rfl
 have v1 : fVar 1 [some (.sh C), some (.sh (.int n)), x2, x3, some (.sh (lI r)), none] = some (.ov (.sh (.int n)), [some (.sh C), some (.sh (.int n)), x2, x3, some (.sh (lI r)), none]) := rfl
 have ne : decide (((r.map PyData.int).length : Int) = n + 1) = true := decide_eq_true (by rw [List.length_map]; exact h)
 simp only [q4, fIfS, fOrT, fNotT, fTru, fBool, h1, fOp, fCa, fCons, v4, fNil, Option.map_some, sees, see, OV.view, gLen, fAdd, v1, fC, bS, nev_ii, ne, truD, Bool.not_true, Bool.false_eq_true, if_false, fNext]
theorem y_cert : fb_law_is_certificate = fSeq (fIfS (fOrT (fNotT (fTru (fIsi "tuple" (fVar 0)))) (fOrT (fBool (fOp gNeX (fCa gLen (fCons (fVar 0) fNil)) (fC (.int 5)))) (fBool (fOp (gCmp fun i j => decide (j < i)) (fCa gLen (fCons (fLc (fiTup (fVar 0)) (fgName 2) (fNotT (fTru (fIsi "list" (fVar 2)))) (fVar 2) [2]) fNil)) (fC (.int 0)))))) (fRet (fC (.bool false))) fNext) (fSeq (fFor (fiList (fIx (fVar 0) (fC (.int 0)))) (fgName 2) (fFor (fiList (fVar 2)) (fgName 3) (fFor (fiList (fVar 3)) (fgName 4) q4))) (fSeq (fSet 5 (fAdd (fAdd (fAdd (fLst (fCons (fIx (fVar 0) (fC (.int 1))) fNil)) (fIx (fVar 0) (fC (.int 2)))) (fIx (fVar 0) (fC (.int 3)))) (fIx (fVar 0) (fC (.int 4))))) (fRet (fOp gEqX (fCa gLen (fCons (fLc (fiList (fVar 5)) (fgName 2) (fNotT (fTru (fCall 1 g_law_is_claims (fCons (fVar 2) fNil)))) (fVar 2) [2]) fNil)) (fC (.int 0)))))) := rfl
theorem add_ls {fa fb : DS → Option (RV × DS)} {ds : DS} {l m : List D} (ha : fa ds = some (.ov (.flat l), ds)) (hb : fb ds = some (.ov (.sh (.list m)), ds)) (h : l.length + m.length ≤ 1000000) : fAdd fa fb ds = some (.ov (.flat (l ++ m)), ds) := by
 have i1 : isT (.ov (.flat l)) ds = false := rfl
 have i2 : isT (.ov (.sh (.list m))) ds = false := rfl
 have d : decide (1000000 < l.length + m.length) = false := decide_eq_false (by omega)
 simp only [fAdd, ha, hb, bS, see, OV.view, fCat, items, i1, i2, d, Bool.or_self, Bool.false_eq_true, if_false]
theorem is_cert {n : Int} {c : Ct} (g : Good n c) (hl : c.2.2.1.length + c.2.2.2.1.length + c.2.2.2.2.length ≤ 900000) : ∃ d, g_law_is_certificate [some (.sh (dct c)), some (.sh (.int n))] = some (.ret (.sh (.bool true)) d) := by
 obtain ⟨A, st, wa, ju, en⟩ := c
 have hl : wa.length + ju.length + en.length ≤ 900000 := hl
 have hp : ∀ ps ∈ A, ∀ rs ∈ ps, ∀ r ∈ rs, (r.length : Int) = n + 1 := g.pc
 have pd : padD 2 6 [some (.sh (dct (A, st, wa, ju, en))), some (.sh (.int n))] = [some (.sh (dct (A, st, wa, ju, en))), some (.sh (.int n)), none, none, none, none] := rfl
 have hC : dct (A, st, wa, ju, en) = .tuple [.list (A.map dthere), dclaims st, drows wa, drows ju, drows en] := rfl
 generalize hCC : dct (A, st, wa, ju, en) = C at pd hC ⊢
 have h1 : fIsi "tuple" (fVar 0) [some (.sh C), some (.sh (.int n)), none, none, none, none] = some (.ov (.sh (.bool true)), [some (.sh C), some (.sh (.int n)), none, none, none, none]) := by rw [hC]; rfl
 have h2 : fOp gNeX (fCa gLen (fCons (fVar 0) fNil)) (fC (.int 5)) [some (.sh C), some (.sh (.int n)), none, none, none, none] = some (.ov (.sh (.bool false)), [some (.sh C), some (.sh (.int n)), none, none, none, none]) := by rw [hC]; rfl
 have it : fiTup (fVar 0) [some (.sh C), some (.sh (.int n)), none, none, none, none] = some ([.list (A.map dthere), dclaims st, drows wa, drows ju, drows en], [some (.sh C), some (.sh (.int n)), none, none, none, none]) := by rw [hC]; rfl
 have lc1 := lc_none (k := 2) (fe := fVar 2) (ft := fNotT (fTru (fIsi "list" (fVar 2)))) it (show 5 ≤ 1000000 by decide) (show 2 < 6 by decide) rfl (fun d hd => by
  simp only [List.mem_cons, List.not_mem_nil, or_false] at hd
  rcases hd with rfl | rfl | rfl | rfl | rfl <;> rfl)
 have h3 : fOp (gCmp fun i j => decide (j < i)) (fCa gLen (fCons (fLc (fiTup (fVar 0)) (fgName 2) (fNotT (fTru (fIsi "list" (fVar 2)))) (fVar 2) [2]) fNil)) (fC (.int 0)) [some (.sh C), some (.sh (.int n)), none, none, none, none] = some (.ov (.sh (.bool false)), [some (.sh C), some (.sh (.int n)), none, none, none, none]) := by
  have d0 : decide ((0 : Int) < (([] : List D).length : Int)) = false := rfl
  simp only [fOp, fCa, fCons, lc1, fNil, bS, Option.map_some, sees, see, OV.view, gLen, fC, gCmp, gI, cT, if_true, d0]
 have a0 : ∀ x2 x3 x4 x5 : Option OV, fIx (fVar 0) (fC (.int 0)) [some (.sh C), some (.sh (.int n)), x2, x3, x4, x5] = some (.ov (.sh (.list (A.map dthere))), [some (.sh C), some (.sh (.int n)), x2, x3, x4, x5]) := fun x2 x3 x4 x5 => by rw [hC]; rfl
 have a1 : ∀ x2 x3 x4 x5 : Option OV, fIx (fVar 0) (fC (.int 1)) [some (.sh C), some (.sh (.int n)), x2, x3, x4, x5] = some (.ov (.sh (dclaims st)), [some (.sh C), some (.sh (.int n)), x2, x3, x4, x5]) := fun x2 x3 x4 x5 => by rw [hC]; rfl
 have a2 : ∀ x2 x3 x4 x5 : Option OV, fIx (fVar 0) (fC (.int 2)) [some (.sh C), some (.sh (.int n)), x2, x3, x4, x5] = some (.ov (.sh (.list (wa.map dclaims))), [some (.sh C), some (.sh (.int n)), x2, x3, x4, x5]) := fun x2 x3 x4 x5 => by rw [hC]; rfl
 have a3 : ∀ x2 x3 x4 x5 : Option OV, fIx (fVar 0) (fC (.int 3)) [some (.sh C), some (.sh (.int n)), x2, x3, x4, x5] = some (.ov (.sh (.list (ju.map dclaims))), [some (.sh C), some (.sh (.int n)), x2, x3, x4, x5]) := fun x2 x3 x4 x5 => by rw [hC]; rfl
 have a4 : ∀ x2 x3 x4 x5 : Option OV, fIx (fVar 0) (fC (.int 4)) [some (.sh C), some (.sh (.int n)), x2, x3, x4, x5] = some (.ov (.sh (.list (en.map dclaims))), [some (.sh C), some (.sh (.int n)), x2, x3, x4, x5]) := fun x2 x3 x4 x5 => by rw [hC]; rfl
 have L4 : ∀ (rs : List (List Int)) x2 x4, (∀ r ∈ rs, (r.length : Int) = n + 1) → ∃ y, fFor (fiList (fVar 3)) (fgName 4) q4 [some (.sh C), some (.sh (.int n)), x2, some (.sh (dpiece rs)), x4, none] = some (.nx [some (.sh C), some (.sh (.int n)), x2, some (.sh (dpiece rs)), y, none]) := fun rs x2 x4 h => by
  obtain ⟨d2, l1, y, rfl⟩ := loopI (I := fun ds => ∃ y, ds = [some (.sh C), some (.sh (.int n)), x2, some (.sh (dpiece rs)), y, none]) (g := fgName 4) (body := q4) (l := rs.map lI) (fun d hd ds ⟨y, e⟩ => by
   subst e
   obtain ⟨r, hr, rfl⟩ := List.mem_map.mp hd
   exact ⟨_, _, rfl, y_cond (h r hr), _, rfl⟩) _ ⟨x4, rfl⟩
  exact ⟨y, l1⟩
 have L3 : ∀ (ps : List (List (List Int))) x3 x4, (∀ rs ∈ ps, ∀ r ∈ rs, (r.length : Int) = n + 1) → ∃ y z, fFor (fiList (fVar 2)) (fgName 3) (fFor (fiList (fVar 3)) (fgName 4) q4) [some (.sh C), some (.sh (.int n)), some (.sh (dthere ps)), x3, x4, none] = some (.nx [some (.sh C), some (.sh (.int n)), some (.sh (dthere ps)), y, z, none]) := fun ps x3 x4 h => by
  obtain ⟨d2, l1, y, z, rfl⟩ := loopI (I := fun ds => ∃ y z, ds = [some (.sh C), some (.sh (.int n)), some (.sh (dthere ps)), y, z, none]) (g := fgName 3) (body := fFor (fiList (fVar 3)) (fgName 4) q4) (l := ps.map dpiece) (fun d hd ds ⟨y, z, e⟩ => by
   subst e
   obtain ⟨rs, hr, rfl⟩ := List.mem_map.mp hd
   obtain ⟨w, hw⟩ := L4 rs (some (.sh (dthere ps))) z (h rs hr)
   exact ⟨_, _, rfl, hw, _, _, rfl⟩) _ ⟨x3, x4, rfl⟩
  exact ⟨y, z, l1⟩
 obtain ⟨d2, l2, y2, y3, y4, hy, rfl⟩ := loopI (I := fun ds => ∃ x y z, shB (some x) = true ∧ ds = [some (.sh C), some (.sh (.int n)), x, y, z, none]) (g := fgName 2) (body := fFor (fiList (fVar 2)) (fgName 3) (fFor (fiList (fVar 3)) (fgName 4) q4)) (l := A.map dthere) (fun d hd ds ⟨x, y, z, _, e⟩ => by
  subst e
  obtain ⟨ps, hr, rfl⟩ := List.mem_map.mp hd
  obtain ⟨w, v, hw⟩ := L3 ps y z (hp ps hr)
  exact ⟨_, _, rfl, hw, _, _, _, rfl, rfl⟩) [some (.sh C), some (.sh (.int n)), none, none, none, none] ⟨none, none, none, rfl, rfl⟩
 have f1 : fFor (fiList (fIx (fVar 0) (fC (.int 0)))) (fgName 2) (fFor (fiList (fVar 2)) (fgName 3) (fFor (fiList (fVar 3)) (fgName 4) q4)) [some (.sh C), some (.sh (.int n)), none, none, none, none] = some (.nx [some (.sh C), some (.sh (.int n)), y2, y3, y4, none]) := by
  simp only [fFor, fiList, a0, bS, frz, OV.view]
  exact l2
 generalize hG : [dclaims st] ++ wa.map dclaims ++ ju.map dclaims ++ en.map dclaims = G
 have gl : G.length ≤ 1000000 := by rw [← hG]; simp; omega
 have gm : ∀ d ∈ G, ∃ cs, d = dclaims cs := fun d hd => by
  rw [← hG] at hd
  simp only [List.mem_append, List.mem_cons, List.not_mem_nil, or_false, List.mem_map] at hd
  rcases hd with ((rfl | ⟨cs, _, rfl⟩) | ⟨cs, _, rfl⟩) | ⟨cs, _, rfl⟩ <;> exact ⟨_, rfl⟩
 have dis : ∀ (r : RV) (ds : DS), isT r ds = isT r ds := fun _ _ => rfl
 have s5 : fAdd (fAdd (fAdd (fLst (fCons (fIx (fVar 0) (fC (.int 1))) fNil)) (fIx (fVar 0) (fC (.int 2)))) (fIx (fVar 0) (fC (.int 3)))) (fIx (fVar 0) (fC (.int 4))) [some (.sh C), some (.sh (.int n)), y2, y3, y4, none] = some (.ov (.flat G), [some (.sh C), some (.sh (.int n)), y2, y3, y4, none]) := by
  have sA : fLst (fCons (fIx (fVar 0) (fC (.int 1))) fNil) [some (.sh C), some (.sh (.int n)), y2, y3, y4, none] = some (.ov (.flat [dclaims st]), [some (.sh C), some (.sh (.int n)), y2, y3, y4, none]) := by
   simp only [fLst, fCons, a1, fNil, bS, Option.map_some, frzs, frz, OV.view, List.length_cons, List.length_nil, Nat.zero_add, Nat.reduceLeDiff, if_true]
  have sB := add_ls sA (a2 y2 y3 y4 none) (by simp; omega)
  have sC := add_ls sB (a3 y2 y3 y4 none) (by simp; omega)
  have sD := add_ls sC (a4 y2 y3 y4 none) (by simp; omega)
  rw [hG] at sD
  exact sD
 have ok : ∀ d ∈ G, (fNotT (fTru (fCall 1 g_law_is_claims (fCons (fVar 2) fNil)))) (([some (.sh C), some (.sh (.int n)), y2, y3, y4, some (.sh (.list G))] : DS).set 2 (some (.sh d))) = some (false, ([some (.sh C), some (.sh (.int n)), y2, y3, y4, some (.sh (.list G))] : DS).set 2 (some (.sh d))) := fun d hd => by
  obtain ⟨cs, rfl⟩ := gm d hd
  obtain ⟨d', h⟩ := y_claims cs
  have h : g_law_is_claims (shs [dclaims cs]) = _ := h
  have v : fVar 2 (([some (.sh C), some (.sh (.int n)), y2, y3, y4, some (.sh (.list G))] : DS).set 2 (some (.sh (dclaims cs)))) = some (.ov (.sh (dclaims cs)), ([some (.sh C), some (.sh (.int n)), y2, y3, y4, some (.sh (.list G))] : DS).set 2 (some (.sh (dclaims cs)))) := rfl
  simp only [fNotT, fTru, fCall, fCons, v, bS, fNil, Option.map_some, sees, see, OV.view, List.length_cons, List.length_nil, Nat.zero_add, if_true, h, frzs, frz, ite_self, truD, Bool.not_true]
 have lc2 := lc_none (k := 2) (fe := fVar 2) (ft := fNotT (fTru (fCall 1 g_law_is_claims (fCons (fVar 2) fNil)))) (fi := fiList (fVar 5)) (ds := [some (.sh C), some (.sh (.int n)), y2, y3, y4, some (.flat G)]) (ds1 := [some (.sh C), some (.sh (.int n)), y2, y3, y4, some (.sh (.list G))]) rfl gl (show 2 < 6 by decide) hy ok
 have d0 : decide ((([] : List D).length : Int) = 0) = true := rfl
 have t1 : fOrT (fNotT (fTru (fIsi "tuple" (fVar 0)))) (fOrT (fBool (fOp gNeX (fCa gLen (fCons (fVar 0) fNil)) (fC (.int 5)))) (fBool (fOp (gCmp fun i j => decide (j < i)) (fCa gLen (fCons (fLc (fiTup (fVar 0)) (fgName 2) (fNotT (fTru (fIsi "list" (fVar 2)))) (fVar 2) [2]) fNil)) (fC (.int 0))))) [some (.sh C), some (.sh (.int n)), none, none, none, none] = some (false, [some (.sh C), some (.sh (.int n)), none, none, none, none]) := by
  simp only [fOrT, fNotT, fTru, fBool, h1, h2, h3, bS, see, OV.view, truD, Option.map_some, Bool.not_true, Bool.false_eq_true, if_false]
 have t2 : fOp gEqX (fCa gLen (fCons (fLc (fiList (fVar 5)) (fgName 2) (fNotT (fTru (fCall 1 g_law_is_claims (fCons (fVar 2) fNil)))) (fVar 2) [2]) fNil)) (fC (.int 0)) [some (.sh C), some (.sh (.int n)), y2, y3, y4, some (.flat G)] = some (.ov (.sh (.bool true)), [some (.sh C), some (.sh (.int n)), y2, y3, y4, some (.sh (.list G))]) := by
  simp only [fOp, fCa, fCons, lc2, fNil, bS, Option.map_some, sees, see, OV.view, gLen, fC, eqv_ii, d0]
 exact ⟨_, by
  simp only [g_law_is_certificate, funO, pd, y_cert, fSeq, fIfS, t1, bS, Bool.false_eq_true, if_false, fNext, f1, fSet, s5, List.set_cons_zero, List.set_cons_succ, fRet, t2, mov, Option.map_some]
  rfl⟩
end Lw
set_option Elab.async false
set_option linter.all false
set_option maxRecDepth 100000
set_option maxHeartbeats 4000000
namespace Lw
open PySem PySem.Spec L2 Fx Ty
def S (L : DS) (T : List Int) (p : Int) : DS := some (.flat [lI T, .int p]) :: L
theorem s_set {L : DS} {T : List Int} {p : Int} {k : Nat} {x : Option OV} : (S L T p).set (k + 1) x = S (L.set k x) T p := rfl
theorem s_get {L : DS} {T : List Int} {p : Int} {k : Nat} : (S L T p)[k + 1]? = L[k]? := by
 unfold S; rw [List.getElem?_cons_succ]
section
variable {T : List Int} (hT : 0 < T.length)
include hT
theorem tk_ok {p c : Int} (hp : 0 ≤ p) (hc : 0 < c) : ∃ v : Int, 0 ≤ v ∧ v < c ∧ g_law_take [some (.flat [lI T, .int p]), some (.sh (.int c))] = some (.ret (.sh (.int v)) [some (.flat [lI T, .int (p + 1)]), none]) := by
 have l0 : (0 : Int) < (T.length : Int) := by omega
 have h1 : 0 ≤ p.fmod (T.length : Int) ∧ p.fmod (T.length : Int) < (T.length : Int) := ⟨Int.fmod_nonneg_of_pos p l0, Int.fmod_lt_of_pos p l0⟩
 have h2 : 0 ≤ p.fdiv (T.length : Int) := Int.fdiv_nonneg hp (by omega)
 obtain ⟨x, hx⟩ : ∃ x, atI (T.map PyData.int) (p.fmod (T.length : Int)) = some (.int x) := by
  have hl : (p.fmod (T.length : Int)).toNat < T.length := by omega
  refine ⟨T[(p.fmod (T.length : Int)).toNat], ?_⟩
  unfold atI ixN
  rw [if_pos h1.1, if_pos (by rw [List.length_map]; exact h1.2)]
  show (T.map PyData.int)[(p.fmod (T.length : Int)).toNat]? = _
  rw [List.getElem?_map, List.getElem?_eq_getElem hl]; rfl
 have c1 : cNz p (T.length : Int) = true := by unfold cNz; exact decide_eq_true (by omega)
 have c2 : cNz x (1 + p.fdiv (T.length : Int)) = true := by unfold cNz; exact decide_eq_true (by omega)
 have c3 : cNz (x.fdiv (1 + p.fdiv (T.length : Int))) c = true := by unfold cNz; exact decide_eq_true (by omega)
 have a0 : atI ([PyData.list (T.map PyData.int), .int p] : List D) (0 : Int) = some (PyData.list (T.map PyData.int)) := rfl
 have a1 : atI ([PyData.list (T.map PyData.int), .int p] : List D) (1 : Int) = some (.int p) := rfl
 have b0 : atI ([PyData.list (T.map PyData.int), .int (p + 1)] : List D) (0 : Int) = some (PyData.list (T.map PyData.int)) := rfl
 have i1 : ixN ([PyData.list (T.map PyData.int), .int p] : List D).length (1 : Int) = some 1 := rfl
 refine ⟨(x.fdiv (1 + p.fdiv (T.length : Int))).fmod c, Int.fmod_nonneg_of_pos _ hc, Int.fmod_lt_of_pos _ hc, ?_⟩
 have sc : isSc (PyData.list (T.map PyData.int)) = false := rfl
 have sp : isSc (.int p) = true := rfl
 have sx : isSc (.int x) = true := rfl
 simp only [g_law_take, funO, padD, List.take, List.drop, List.replicate, List.append_eq, List.nil_append, List.cons_append, List.append_nil, Nat.reduceSub, fb_law_take, fSeq, fSet, fIx, fVar, fC, List.getElem?_cons_zero, List.getElem?_cons_succ, bS, see, OV.view, a0, a1, b0, sp, sx, if_true, List.set_cons_zero, List.set_cons_succ, fSetIx, fAdd, frz, i1, Option.map_some, fRet, fOp, items, fCa, fCons, fNil, sees, sc, Bool.false_eq_true, if_false, lI, gLen, List.length_map, gI, c1, c2, c3, hx, mov, cutO]
 rfl
theorem tkIO {p c : Int} (hp : 0 ≤ p) (hc : 0 < c) (L : DS) : ∃ v : Int, 0 ≤ v ∧ v < c ∧ fCallIO 2 g_law_take 0 (fCons (fC (.int c)) fNil) (S L T p) = some (.ov (.sh (.int v)), S L T (p + 1)) := by
 obtain ⟨v, v0, v1, h⟩ := tk_ok hT hp hc
 refine ⟨v, v0, v1, ?_⟩
 have h : g_law_take (some (.flat [lI T, .int p]) :: shs [PyData.int c]) = _ := h
 simp only [fCallIO, S, List.getElem?_cons_zero, fCons, fC, fNil, bS, Option.map_some, frzs, frz, OV.view, List.length_cons, List.length_nil, Nat.zero_add, Nat.reduceAdd, if_true, h, List.set_cons_zero]
def Nb (v : Int) : Prop := v.natAbs < 2 ^ 67
theorem nb_ok {p : Int} (hp : 0 ≤ p) : ∃ (v p' : Int), 0 ≤ p' ∧ Nb v ∧ g_law_number [some (.flat [lI T, .int p])] = some (.ret (.sh (.int v)) [some (.flat [lI T, .int p'])]) := by
 obtain ⟨w, w0, w1, h1⟩ := tkIO hT hp (show (0 : Int) < 5 by omega) [none]
 have p1 : 0 ≤ p + 1 := by omega
 have pd : padD 1 2 [some (.flat [lI T, .int p])] = S [none] T p := rfl
 have g0 : (S [some (.sh (.int w))] T (p + 1))[1]? = some (some (.sh (.int w))) := rfl
 by_cases hw : w = 0
 ·obtain ⟨v, v0, v1, h2⟩ := tkIO hT p1 (show (0 : Int) < 1000 by omega) [some (.sh (.int w))]
  have pw : cPow 10 20 = true := pow_ok (by omega) (by omega) (by decide)
  have e10 : (10 : Int) ^ (20 : Int).toNat = 100000000000000000000 := by decide
  refine ⟨100000000000000000000 + v, p + 1 + 1, by omega, by unfold Nb; omega, ?_⟩
  have d : decide (w = 0) = true := decide_eq_true hw
  simp only [g_law_number, funO, pd, fb_law_number, fSeq, fSet, h1, bS, s_set, List.set_cons_zero, fIfS, fBool, fOp, fVar, g0, fC, see, OV.view, eqv_ii, d, Option.map_some, if_true, fRet, fAdd, gI, pw, e10, h2, mov]
  rfl
 ·obtain ⟨v, v0, v1, h2⟩ := tkIO hT p1 (show (0 : Int) < 9 by omega) [some (.sh (.int w))]
  have d : decide (w = 0) = false := decide_eq_false hw
  obtain ⟨z, z0, z1, hz⟩ : ∃ z : Int, 0 ≤ z ∧ z ≤ 8 ∧ atI ([.int 4, .int 0, .int 0, .int 8] : List D) (w - 1) = some (.int z) := by
   have c : w = 1 ∨ w = 2 ∨ w = 3 ∨ w = 4 := by omega
   rcases c with rfl | rfl | rfl | rfl
   ·exact ⟨4, by omega, by omega, rfl⟩
   ·exact ⟨0, by omega, by omega, rfl⟩
   ·exact ⟨0, by omega, by omega, rfl⟩
   ·exact ⟨8, by omega, by omega, rfl⟩
  have g1 : (S [some (.sh (.int w))] T (p + 1 + 1))[1]? = some (some (.sh (.int w))) := rfl
  have sz : isSc (.int z) = true := rfl
  refine ⟨v - z, p + 1 + 1, by omega, by unfold Nb; omega, ?_⟩
  simp only [g_law_number, funO, pd, fb_law_number, fSeq, fSet, h1, bS, s_set, List.set_cons_zero, fIfS, fBool, fOp, fVar, g0, g1, fC, see, OV.view, eqv_ii, d, Option.map_some, Bool.false_eq_true, if_false, fNext, fRet, h2, fIx, fLst, fCons, fNil, frzs, frz, List.length_cons, List.length_nil, Nat.zero_add, Nat.reduceAdd, Nat.reduceLeDiff, if_true, gI, cT, hz, sz, mov]
  rfl
theorem nbIO {p : Int} (hp : 0 ≤ p) (L : DS) : ∃ (v p' : Int), 0 ≤ p' ∧ Nb v ∧ fCallIO 1 g_law_number 0 fNil (S L T p) = some (.ov (.sh (.int v)), S L T p') := by
 obtain ⟨v, p', p0, nb, h⟩ := nb_ok hT hp
 refine ⟨v, p', p0, nb, ?_⟩
 have h : g_law_number (some (.flat [lI T, .int p]) :: shs []) = _ := h
 simp only [fCallIO, S, List.getElem?_cons_zero, fNil, bS, frzs, List.length_nil, Nat.zero_add, if_true, h, List.set_cons_zero]
omit hT in
theorem lcT {P : D → Prop} {L : DS} {j m : Nat} {fi : DS → Option (List D × DS)} {fe : DS → Option (RV × DS)} {p p1 : Int} (hj : j < L.length) (hs : shB L[j]? = true) (hi : fi (S L T p) = some (rangeD 0 (m : Int), S L T p1)) (hp : 0 ≤ p1) (hm : m ≤ 1000000)
  (h : ∀ d p, 0 ≤ p → ∃ v o p', 0 ≤ p' ∧ P v ∧ OV.view o = v ∧ fe (S (L.set j (some (.sh d))) T p) = some (.ov o, S (L.set j (some (.sh d))) T p')) :
  ∃ (vs : List D) (p' : Int), 0 ≤ p' ∧ vs.length = m ∧ (∀ v ∈ vs, P v) ∧ fLc fi (fgName (j + 1)) fYes fe [j + 1] (S L T p) = some (.ov (.flat vs), S L T p') := by
 have turn : ∀ d p, 0 ≤ p → ∃ v p', 0 ≤ p' ∧ P v ∧ turnC (fgName (j + 1)) fYes fe [j + 1] d (S (L.set j none) T p) = some (some v, S (L.set j none) T p') := fun d p hp => by
  obtain ⟨v, o, p', p0, pv, ov, hf⟩ := h d p hp
  refine ⟨v, p', p0, pv, ?_⟩
  have e1 : (S (L.set j none) T p).set (j + 1) (some (.sh d)) = S (L.set j (some (.sh d))) T p := by rw [s_set, List.set_set]
  have e2 : wipeD (S (L.set j (some (.sh d))) T p') [j + 1] = S (L.set j none) T p' := by
   show (S (L.set j (some (.sh d))) T p').set (j + 1) none = _
   rw [s_set, List.set_set]
  simp only [turnC, fgName, bS, e1, fYes, if_true, hf, frz, ov, Option.map_some, e2]
 have loop : ∀ (l acc : List D) (p : Int), 0 ≤ p → ∃ (vs : List D) (p' : Int), 0 ≤ p' ∧ vs.length = l.length ∧ (∀ v ∈ vs, P v) ∧ lcF (turnC (fgName (j + 1)) fYes fe [j + 1]) l (S (L.set j none) T p) acc = some (acc ++ vs, S (L.set j none) T p') := by
  intro l
  induction l with
  | nil => exact fun acc p hp => ⟨[], p, hp, rfl, by simp, by simp [lcF]⟩
  | cons d l ih =>
   intro acc p hp
   obtain ⟨v, p1, q1, pv, e1⟩ := turn d p hp
   obtain ⟨vs, p2, q2, lv, pvs, e2⟩ := ih (acc ++ [v]) p1 q1
   refine ⟨v :: vs, p2, q2, by simp [lv], fun u hu => ?_, ?_⟩
   ·rcases List.mem_cons.mp hu with rfl | hu
    ·exact pv
    ·exact pvs u hu
   ·simp only [lcF, e1, bS, Option.toList, e2]
    simp
 obtain ⟨vs, p', q, lv, pv, e⟩ := loop (rangeD 0 (m : Int)) [] p1 hp
 have c : (([j + 1].all fun i => shB (S L T p1)[i]?) && decide ((rangeD 0 (m : Int)).length ≤ 1000000)) = true := by
  simp only [List.all_cons, List.all_nil, Bool.and_true, s_get, hs, rng_len, decide_eq_true hm]
 have w : wipeD (S L T p1) [j + 1] = S (L.set j none) T p1 := rfl
 have mm : mend (S L T p1) (S (L.set j none) T p') [j + 1] = S L T p' := by
  show (S (L.set j none) T p').set (j + 1) (((S L T p1)[j + 1]?).getD none) = _
  rw [s_set, s_get, List.set_set, List.getElem?_eq_getElem hj, Option.getD_some, List.set_getElem_self]
 refine ⟨vs, p', q, by rw [lv, rng_len], pv, ?_⟩
 simp only [fLc, fLcG, hi, bS, c, if_true, w, e, Option.map_some, List.nil_append, mm]
theorem rgT {p c : Int} (hp : 0 ≤ p) (hc : 0 < c) (hc2 : c ≤ 1000) (L : DS) : ∃ m : Nat, (m : Int) < c ∧ fiR1 (fCons (fCallIO 2 g_law_take 0 (fCons (fC (.int c)) fNil)) fNil) (S L T p) = some (rangeD 0 (m : Int), S L T (p + 1)) := by
 obtain ⟨v, v0, v1, h⟩ := tkIO hT hp hc L
 obtain ⟨m, rfl⟩ : ∃ m : Nat, v = (m : Int) := ⟨v.toNat, by omega⟩
 have s1 : small62 (m : Int) = true := sml (by omega)
 generalize hf : fCallIO 2 g_law_take 0 (fCons (fC (.int c)) fNil) = f at h ⊢
 refine ⟨m, v1, ?_⟩
 simp only [fiR1, fCons, h, bS, fNil, Option.map_some, sees, see, OV.view, s1, if_true]
omit hT in
theorem loopT {N : Nat} {I : Nat → DS → Prop} {g : D → DS → Option DS} {body : DS → Option Out} (step : ∀ d j L p, j < N → 0 ≤ p → I j L → ∃ L1 L' p', 0 ≤ p' ∧ g d (S L T p) = some L1 ∧ body L1 = some (.nx (S L' T p')) ∧ I (j + 1) L') :
  ∀ (ks : List D) (j : Nat) (L : DS) (p : Int), j + ks.length ≤ N → 0 ≤ p → I j L → ∃ L' p', 0 ≤ p' ∧ loopF g body ks (S L T p) = some (.nx (S L' T p')) ∧ I (j + ks.length) L'
 | [], j, L, p, _, hp, h => ⟨L, p, hp, rfl, h⟩
 | d :: ks, j, L, p, hN, hp, h => by
  rw [List.length_cons] at hN
  obtain ⟨L1, L', p', q, e1, e2, h2⟩ := step d j L p (by omega) hp h
  obtain ⟨L2, p2, q2, e3, h3⟩ := loopT step ks (j + 1) L' p' (by omega) q h2
  have ej : j + (d :: ks).length = j + 1 + ks.length := by rw [List.length_cons]; omega
  refine ⟨L2, p2, q2, ?_, ej ▸ h3⟩
  simp only [loopF, e1, bS, e2, e3]
def drs (rows : List (Int × List Int)) : List D := rows.map dr
structure ClOk (t : Cl) : Prop where
 ix : -1 ≤ t.1 ∧ t.1 ≤ 4
 few : t.2.length ≤ 2
 row : ∀ r ∈ t.2, Nb r.1 ∧ r.2.length ≤ 3 ∧ ∀ x ∈ r.2, Nb x
include hT in
theorem cl_ok {p n : Int} (hp : 0 ≤ p) : ∃ (t : Cl) (p' : Int), 0 ≤ p' ∧ ClOk t ∧ g_law_claim [some (.flat [lI T, .int p]), some (.sh (.int n))] = some (.ret (.sh (dc t)) [some (.flat [lI T, .int p']), none]) := by
 have pd : padD 2 7 [some (.flat [lI T, .int p]), some (.sh (.int n))] = S [some (.sh (.int n)), none, none, none, none, none] T p := rfl
 obtain ⟨w, w0, w1, h1⟩ := tkIO hT hp (show (0 : Int) < 6 by omega) [some (.sh (.int n)), none, none, none, none, none]
 have p1 : 0 ≤ p + 1 := by omega
 generalize hb : (fSeq (fSet 5 (fLc (fiR1 (fCons (fCallIO 2 g_law_take 0 (fCons (fC (.int 4)) fNil)) fNil)) (fgName 6) fYes (fCallIO 1 g_law_number 0 fNil) [6])) (fApp 3 (fTup (fCons (fCallIO 1 g_law_number 0 fNil) (fCons (fVar 5) fNil))))) = body
 obtain ⟨m, hm, hi⟩ := rgT hT p1 (show (0 : Int) < 3 by omega) (by omega) [some (.sh (.int n)), some (.sh (.int (w - 1))), some (.flat []), none, none, none]
 obtain ⟨L', p', q', lp, rows, a4, a5, eL, lr, gr⟩ := loopT (T := T) (N := 2) (I := fun j L => ∃ (rows : List (Int × List Int)) (a4 a5 : Option OV), L = [some (.sh (.int n)), some (.sh (.int (w - 1))), some (.flat (rows.map dr)), a4, a5, none] ∧ rows.length = j ∧ ∀ r ∈ rows, Nb r.1 ∧ r.2.length ≤ 3 ∧ ∀ x ∈ r.2, Nb x) (g := fgName 4) (body := body) (fun d j L p hj hp ⟨rows, a4, a5, eL, lr, gr⟩ => by
  subst eL
  obtain ⟨m2, hm2, hi2⟩ := rgT hT hp (show (0 : Int) < 4 by omega) (by omega) [some (.sh (.int n)), some (.sh (.int (w - 1))), some (.flat (rows.map dr)), some (.sh d), a5, none]
  obtain ⟨vs, p2, q2, lv, gv, hv⟩ := lcT (T := T) (P := fun v => ∃ x, v = PyData.int x ∧ Nb x) (L := [some (.sh (.int n)), some (.sh (.int (w - 1))), some (.flat (rows.map dr)), some (.sh d), a5, none]) (j := 5) (by simp) rfl hi2 (by omega) (by omega) fun d' p hp => by
   obtain ⟨v, p', p0, nb, h⟩ := nbIO hT hp (([some (.sh (.int n)), some (.sh (.int (w - 1))), some (.flat (rows.map dr)), some (.sh d), a5, none] : DS).set 5 (some (.sh d')))
   exact ⟨.int v, .sh (.int v), p', p0, ⟨v, rfl, nb⟩, rfl, h⟩
  obtain ⟨f, hf, nf⟩ : ∃ f : List Int, vs = f.map PyData.int ∧ ∀ x ∈ f, Nb x := by
   clear hv lv
   induction vs with
   | nil => exact ⟨[], rfl, by simp⟩
   | cons v vs ih =>
    obtain ⟨x, rfl, nx⟩ := gv v (by simp)
    obtain ⟨f, rfl, nf⟩ := ih fun u hu => gv u (by simp [hu])
    exact ⟨x :: f, rfl, fun y hy => by
     rcases List.mem_cons.mp hy with rfl | hy
     ·exact nx
     ·exact nf y hy⟩
  subst hf
  rw [List.length_map] at lv
  obtain ⟨v, p3, q3, nv, h3⟩ := nbIO hT q2 [some (.sh (.int n)), some (.sh (.int (w - 1))), some (.flat (rows.map dr)), some (.sh d), some (.flat (f.map PyData.int)), none]
  refine ⟨_, [some (.sh (.int n)), some (.sh (.int (w - 1))), some (.flat ((rows ++ [(v, f)]).map dr)), some (.sh d), some (.sh (lI f)), none], p3, q3, rfl, ?_, rows ++ [(v, f)], some (.sh d), some (.sh (lI f)), rfl, by rw [List.length_append, lr]; rfl, fun r hr => ?_⟩
  ·rw [← hb]
   have l1 : (rows.map dr).length ≤ 1000000 := by rw [List.length_map]; omega
   have hv : fLc (fiR1 (fCons (fCallIO 2 g_law_take 0 (fCons (fC (.int 4)) fNil)) fNil)) (fgName 6) fYes (fCallIO 1 g_law_number 0 fNil) [6] (S [some (.sh (.int n)), some (.sh (.int (w - 1))), some (.flat (rows.map dr)), some (.sh d), a5, none] T p) = _ := hv
   have g3 : ∀ x p, (S [some (.sh (.int n)), some (.sh (.int (w - 1))), some (.flat (rows.map dr)), some (.sh d), x, none] T p)[3]? = some (some (.flat (rows.map dr))) := fun _ _ => rfl
   have g5 : ∀ p, (S [some (.sh (.int n)), some (.sh (.int (w - 1))), some (.flat (rows.map dr)), some (.sh d), some (.flat (f.map PyData.int)), none] T p)[5]? = some (some (.flat (f.map PyData.int))) := fun _ => rfl
   have es : drs (rows ++ [(v, f)]) = drs rows ++ [.tuple [.int v, .list (f.map PyData.int)]] := by unfold drs; rw [List.map_append]; rfl
   show (fSeq (fSet 5 _) _) ((S [some (.sh (.int n)), some (.sh (.int (w - 1))), some (.flat (rows.map dr)), a4, a5, none] T p).set 4 (some (.sh d))) = some (.nx (S [some (.sh (.int n)), some (.sh (.int (w - 1))), some (.flat (drs (rows ++ [(v, f)]))), some (.sh d), some (.sh (lI f)), none] T p3))
   rw [es]
   simp only [fSeq, fSet, hv, bS, s_set, List.set_cons_zero, List.set_cons_succ, fApp, g3, fTup, fCons, h3, fVar, g5, fNil, Option.map_some, frzs, frz, OV.view, List.length_cons, List.length_nil, Nat.zero_add, Nat.reduceAdd, Nat.reduceLeDiff, if_true, l1]
   rfl
  ·rcases List.mem_append.mp hr with hr | hr
   ·exact gr r hr
   ·obtain rfl : r = (v, f) := by simpa using hr
    exact ⟨nv, by show f.length ≤ 3; omega, nf⟩) (rangeD 0 (m : Int)) 0 [some (.sh (.int n)), some (.sh (.int (w - 1))), some (.flat []), none, none, none] (p + 1 + 1) (by rw [rng_len]; omega) (by omega) ⟨[], none, none, rfl, rfl, by simp⟩
 subst eL
 rw [Nat.zero_add, rng_len] at lr
 have hw : decide (w - 1 < 0) = decide (w - 1 = -1) := decide_eq_decide.mpr (by omega)
 refine ⟨(w - 1, rows), p', q', ⟨⟨by show -1 ≤ w - 1; omega, by show w - 1 ≤ 4; omega⟩, by show rows.length ≤ 2; omega, gr⟩, ?_⟩
 have g2 : (S [some (.sh (.int n)), some (.sh (.int (w - 1))), some (.flat (rows.map dr)), a4, a5, none] T p')[2]? = some (some (.sh (.int (w - 1)))) := rfl
 have g3 : (S [some (.sh (.int n)), some (.sh (.int (w - 1))), some (.flat (rows.map dr)), a4, a5, none] T p')[3]? = some (some (.flat (rows.map dr))) := rfl
 have ix : fIf (fBool (fOp (gCmp fun i j => decide (i < j)) (fVar 2) (fC (.int 0)))) (fC .none) (fVar 2) (S [some (.sh (.int n)), some (.sh (.int (w - 1))), some (.flat (rows.map dr)), a4, a5, none] T p') = some (.ov (.sh (ixD (w - 1))), S [some (.sh (.int n)), some (.sh (.int (w - 1))), some (.flat (rows.map dr)), a4, a5, none] T p') := by
  simp only [fIf, fBool, fOp, fVar, g2, bS, fC, see, OV.view, gCmp, gI, cT, if_true, Option.map_some, hw]
  unfold ixD
  by_cases z : w - 1 = -1
  ·simp [z]
  ·simp [z]
 have hfb : fb_law_claim = fSeq (fSet 2 (fOp (gI cT fun i j => .int (i - j)) (fCallIO 2 g_law_take 0 (fCons (fC (.int 6)) fNil)) (fC (.int 1)))) (fSeq (fSet 3 (fLst fNil)) (fSeq (fFor (fiR1 (fCons (fCallIO 2 g_law_take 0 (fCons (fC (.int 3)) fNil)) fNil)) (fgName 4) body) (fRet (fTup (fCons (fIf (fBool (fOp (gCmp fun i j => decide (i < j)) (fVar 2) (fC (.int 0)))) (fC .none) (fVar 2)) (fCons (fVar 3) fNil)))))) := by rw [← hb]; rfl
 have out : fb_law_claim (S [some (.sh (.int n)), none, none, none, none, none] T p) = some (.ret (.sh (dc (w - 1, rows))) (S [some (.sh (.int n)), some (.sh (.int (w - 1))), some (.sh (.list (rows.map dr))), a4, a5, none] T p')) := by
  rw [hfb]
  simp only [fSeq, fSet, fOp, h1, bS, fC, see, OV.view, gI, cT, if_true, Option.map_some, s_set, List.set_cons_zero, List.set_cons_succ, fLst, fNil, frzs, List.length_nil, Nat.zero_le, fFor, hi, lp, fRet, fTup, fCons, ix, fVar, g3, frz, List.length_cons, Nat.zero_add, Nat.reduceAdd, Nat.reduceLeDiff, mov]
  rfl
 simp only [g_law_claim, funO, pd, out]
 rfl
include hT in
theorem clIO {p n : Int} (hp : 0 ≤ p) {L : DS} (hn : L[0]? = some (some (.sh (.int n)))) : ∃ (t : Cl) (p' : Int), 0 ≤ p' ∧ ClOk t ∧ fCallIO 2 g_law_claim 0 (fCons (fVar 1) fNil) (S L T p) = some (.ov (.sh (dc t)), S L T p') := by
 obtain ⟨t, p', p0, ok, h⟩ := cl_ok hT (n := n) hp
 refine ⟨t, p', p0, ok, ?_⟩
 have h : g_law_claim (some (.flat [lI T, .int p]) :: shs [PyData.int n]) = _ := h
 have v1 : fVar 1 (S L T p) = some (.ov (.sh (.int n)), S L T p) := by
  have g : (S L T p)[1]? = some (some (.sh (.int n))) := by rw [s_get]; exact hn
  simp only [fVar, g]
 simp only [fCallIO, S, List.getElem?_cons_zero, fCons, fNil, bS, Option.map_some] at v1 ⊢
 simp only [v1, bS, Option.map_some, frzs, frz, OV.view, List.getElem?_cons_zero, List.length_cons, List.length_nil, Nat.zero_add, Nat.reduceAdd, if_true, h, List.set_cons_zero]
omit hT in
theorem vs_map {α : Type} {F : α → D} {R : α → Prop} : ∀ {vs : List D}, (∀ v ∈ vs, ∃ x, v = F x ∧ R x) → ∃ l : List α, vs = l.map F ∧ ∀ x ∈ l, R x
 | [], _ => ⟨[], rfl, by simp⟩
 | v :: vs, h => by
  obtain ⟨x, rfl, rx⟩ := h v (by simp)
  obtain ⟨l, rfl, rl⟩ := vs_map (F := F) (R := R) (vs := vs) fun u hu => h u (by simp [hu])
  exact ⟨x :: l, rfl, fun y hy => by
   rcases List.mem_cons.mp hy with rfl | hy
   ·exact rx
   ·exact rl y hy⟩
def ClsOk (cs : List Cl) : Prop := cs.length ≤ 2 ∧ ∀ c ∈ cs, ClOk c
include hT in
theorem cls_ok {p n : Int} (hp : 0 ≤ p) {L : DS} (hn : L[0]? = some (some (.sh (.int n)))) (hl : 4 < L.length) (hs : shB L[4]? = true) : ∃ (cs : List Cl) (p' : Int), 0 ≤ p' ∧ ClsOk cs ∧ fLc (fiR1 (fCons (fCallIO 2 g_law_take 0 (fCons (fC (.int 3)) fNil)) fNil)) (fgName 5) fYes (fCallIO 2 g_law_claim 0 (fCons (fVar 1) fNil)) [5] (S L T p) = some (.ov (.flat (cs.map dc)), S L T p') := by
 obtain ⟨m, hm, hi⟩ := rgT hT hp (show (0 : Int) < 3 by omega) (by omega) L
 obtain ⟨vs, p2, q2, lv, gv, hv⟩ := lcT (T := T) (P := fun v => ∃ x, v = dc x ∧ ClOk x) hl hs hi (by omega) (by omega) fun d p hp => by
  obtain ⟨t, p', p0, ok, h⟩ := clIO hT (n := n) hp (L := L.set 4 (some (.sh d))) (by rw [List.getElem?_set_ne (by omega)]; exact hn)
  exact ⟨dc t, .sh (dc t), p', p0, ⟨t, rfl, ok⟩, rfl, h⟩
 obtain ⟨cs, rfl, ok⟩ := vs_map gv
 rw [List.length_map] at lv
 exact ⟨cs, p2, q2, ⟨by omega, ok⟩, hv⟩
def RowsOk (css : List (List Cl)) : Prop := css.length ≤ 2 ∧ ∀ cs ∈ css, ClsOk cs
include hT in
theorem grp_ok {p n : Int} (hp : 0 ≤ p) {L : DS} (hn : L[0]? = some (some (.sh (.int n)))) (hl : 4 < L.length) (hs3 : shB L[3]? = true) (hs : shB L[4]? = true) : ∃ (css : List (List Cl)) (p' : Int), 0 ≤ p' ∧ RowsOk css ∧ fLc (fiR1 (fCons (fCallIO 2 g_law_take 0 (fCons (fC (.int 3)) fNil)) fNil)) (fgName 4) fYes (fLc (fiR1 (fCons (fCallIO 2 g_law_take 0 (fCons (fC (.int 3)) fNil)) fNil)) (fgName 5) fYes (fCallIO 2 g_law_claim 0 (fCons (fVar 1) fNil)) [5]) [4] (S L T p) = some (.ov (.flat (css.map dclaims)), S L T p') := by
 obtain ⟨m, hm, hi⟩ := rgT hT hp (show (0 : Int) < 3 by omega) (by omega) L
 obtain ⟨vs, p2, q2, lv, gv, hv⟩ := lcT (T := T) (P := fun v => ∃ x, v = dclaims x ∧ ClsOk x) (j := 3) (by omega) hs3 hi (by omega) (by omega) fun d p hp => by
  obtain ⟨cs, p', p0, ok, h⟩ := cls_ok hT (n := n) hp (L := L.set 3 (some (.sh d))) (by rw [List.getElem?_set_ne (by omega)]; exact hn) (by rw [List.length_set]; exact hl) (by rw [List.getElem?_set_ne (by omega)]; exact hs)
  exact ⟨dclaims cs, .flat (cs.map dc), p', p0, ⟨cs, rfl, ok⟩, rfl, h⟩
 obtain ⟨css, rfl, ok⟩ := vs_map gv
 rw [List.length_map] at lv
 exact ⟨css, p2, q2, ⟨by omega, ok⟩, hv⟩
def PcOk (n : Nat) (rs : List (List Int)) : Prop := rs.length ≤ 2 ∧ ∀ r ∈ rs, r.length = n + 1 ∧ ∀ x ∈ r, Nb x
include hT in
theorem row_ok {p : Int} {n : Nat} (hn1 : n ≤ 1000) (hp : 0 ≤ p) {L : DS} (hn : L[0]? = some (some (.sh (.int (n : Int))))) (hl : 8 < L.length) (hs : shB L[8]? = true) : ∃ (r : List Int) (p' : Int), 0 ≤ p' ∧ (r.length = n + 1 ∧ ∀ x ∈ r, Nb x) ∧ fLc (fiR1 (fCons (fAdd (fVar 1) (fC (.int 1))) fNil)) (fgName 9) fYes (fCallIO 1 g_law_number 0 fNil) [9] (S L T p) = some (.ov (.flat (r.map PyData.int)), S L T p') := by
 have hi : fiR1 (fCons (fAdd (fVar 1) (fC (.int 1))) fNil) (S L T p) = some (rangeD 0 ((n + 1 : Nat) : Int), S L T p) := by
  have g : (S L T p)[1]? = some (some (.sh (.int (n : Int)))) := by rw [s_get]; exact hn
  have e : (n : Int) + 1 = ((n + 1 : Nat) : Int) := by omega
  have s1 : small62 ((n + 1 : Nat) : Int) = true := sml (by omega)
  simp only [fiR1, fCons, fAdd, fVar, g, fC, bS, see, OV.view, fNil, Option.map_some, sees, e, s1, if_true]
 obtain ⟨vs, p2, q2, lv, gv, hv⟩ := lcT (T := T) (P := fun v => ∃ x, v = PyData.int x ∧ Nb x) hl hs hi hp (by omega) fun d p hp => by
  obtain ⟨v, p', p0, nb, h⟩ := nbIO hT hp (L.set 8 (some (.sh d)))
  exact ⟨.int v, .sh (.int v), p', p0, ⟨v, rfl, nb⟩, rfl, h⟩
 obtain ⟨r, rfl, ok⟩ := vs_map gv
 rw [List.length_map] at lv
 exact ⟨r, p2, q2, ⟨lv, ok⟩, hv⟩
include hT in
theorem pc_ok {p : Int} {n : Nat} (hn1 : n ≤ 1000) (hp : 0 ≤ p) {L : DS} (hn : L[0]? = some (some (.sh (.int (n : Int))))) (hl : 8 < L.length) (hs7 : shB L[7]? = true) (hs : shB L[8]? = true) : ∃ (rs : List (List Int)) (p' : Int), 0 ≤ p' ∧ PcOk n rs ∧ fLc (fiR1 (fCons (fCallIO 2 g_law_take 0 (fCons (fC (.int 3)) fNil)) fNil)) (fgName 8) fYes (fLc (fiR1 (fCons (fAdd (fVar 1) (fC (.int 1))) fNil)) (fgName 9) fYes (fCallIO 1 g_law_number 0 fNil) [9]) [8] (S L T p) = some (.ov (.flat (rs.map lI)), S L T p') := by
 obtain ⟨m, hm, hi⟩ := rgT hT hp (show (0 : Int) < 3 by omega) (by omega) L
 obtain ⟨vs, p2, q2, lv, gv, hv⟩ := lcT (T := T) (P := fun v => ∃ x, v = lI x ∧ (x.length = n + 1 ∧ ∀ y ∈ x, Nb y)) (j := 7) (by omega) hs7 hi (by omega) (by omega) fun d p hp => by
  obtain ⟨r, p', p0, ok, h⟩ := row_ok hT hn1 hp (L := L.set 7 (some (.sh d))) (by rw [List.getElem?_set_ne (by omega)]; exact hn) (by rw [List.length_set]; exact hl) (by rw [List.getElem?_set_ne (by omega)]; exact hs)
  exact ⟨lI r, .flat (r.map PyData.int), p', p0, ⟨r, rfl, ok⟩, rfl, h⟩
 obtain ⟨rs, rfl, ok⟩ := vs_map gv
 rw [List.length_map] at lv
 exact ⟨rs, p2, q2, ⟨by omega, ok⟩, hv⟩
def ThOk (n : Nat) (ps : List (List (List Int))) : Prop := ps.length ≤ 2 ∧ ∀ rs ∈ ps, PcOk n rs
noncomputable def ibody : DS → Option Out := fApp 4 (fLc (fiR1 (fCons (fCallIO 2 g_law_take 0 (fCons (fC (.int 3)) fNil)) fNil)) (fgName 8) fYes (fLc (fiR1 (fCons (fAdd (fVar 1) (fC (.int 1))) fNil)) (fgName 9) fYes (fCallIO 1 g_law_number 0 fNil) [9]) [8])
noncomputable def obody : DS → Option Out := fSeq (fSet 4 (fLst fNil)) (fSeq (fFor (fiR1 (fCons (fCallIO 2 g_law_take 0 (fCons (fC (.int 3)) fNil)) fNil)) (fgName 5) ibody) (fApp 2 (fVar 4)))
def dps (ps : List (List (List Int))) : List D := ps.map dpiece
def dths (pss : List (List (List (List Int)))) : List D := pss.map dthere
include hT in
theorem obody_ok {p : Int} {n : Nat} (hn1 : n ≤ 1000) (hp : 0 ≤ p) {pss : List (List (List (List Int)))} {a3 a4 a5 : Option OV} (hl : pss.length ≤ 1000) (h5 : shB (some a5) = true) : ∃ (ps : List (List (List Int))) (b5 : Option OV) (p' : Int), 0 ≤ p' ∧ ThOk n ps ∧ shB (some b5) = true ∧
  obody (S [some (.sh (.int (n : Int))), some (.flat (dths pss)), a3, a4, a5, none, none, none, none] T p) = some (.nx (S [some (.sh (.int (n : Int))), some (.flat (dths (pss ++ [ps]))), a3, some (.sh (dthere ps)), b5, none, none, none, none] T p')) := by
 obtain ⟨m, hm, hi⟩ := rgT hT hp (show (0 : Int) < 3 by omega) (by omega) [some (.sh (.int (n : Int))), some (.flat (dths pss)), a3, some (.flat []), a5, none, none, none, none]
 obtain ⟨L', p', q', lp, ps, b5, eL, lps, h5', gps⟩ := loopT (T := T) (N := 2) (I := fun j L => ∃ (ps : List (List (List Int))) (b5 : Option OV), L = [some (.sh (.int (n : Int))), some (.flat (dths pss)), a3, some (.flat (dps ps)), b5, none, none, none, none] ∧ ps.length = j ∧ shB (some b5) = true ∧ ∀ rs ∈ ps, PcOk n rs) (g := fgName 5) (body := ibody) (fun d j L p hj hp ⟨ps, b5, eL, lps, h5, gps⟩ => by
  subst eL
  obtain ⟨rs, p2, q2, ok, hv⟩ := pc_ok hT hn1 hp (L := [some (.sh (.int (n : Int))), some (.flat (dths pss)), a3, some (.flat (dps ps)), some (.sh d), none, none, none, none]) rfl (by simp) rfl rfl
  refine ⟨_, [some (.sh (.int (n : Int))), some (.flat (dths pss)), a3, some (.flat (dps (ps ++ [rs]))), some (.sh d), none, none, none, none], p2, q2, rfl, ?_, ps ++ [rs], some (.sh d), rfl, by rw [List.length_append, lps]; rfl, rfl, fun r hr => ?_⟩
  ·have l1 : (dps ps).length ≤ 1000000 := by unfold dps; rw [List.length_map]; omega
   have g4 : ∀ p, (S [some (.sh (.int (n : Int))), some (.flat (dths pss)), a3, some (.flat (dps ps)), some (.sh d), none, none, none, none] T p)[4]? = some (some (.flat (dps ps))) := fun _ => rfl
   have es : dps (ps ++ [rs]) = dps ps ++ [.list (rs.map lI)] := by unfold dps; rw [List.map_append]; rfl
   rw [es]
   simp only [ibody, s_set, List.set_cons_zero, List.set_cons_succ, fApp, g4, hv, bS, frz, OV.view, l1, if_true]
  ·rcases List.mem_append.mp hr with hr | hr
   ·exact gps r hr
   ·obtain rfl : r = rs := by simpa using hr
    exact ok) (rangeD 0 (m : Int)) 0 [some (.sh (.int (n : Int))), some (.flat (dths pss)), a3, some (.flat []), a5, none, none, none, none] (p + 1) (by rw [rng_len]; omega) (by omega) ⟨[], a5, rfl, rfl, h5, by simp⟩
 subst eL
 rw [Nat.zero_add, rng_len] at lps
 refine ⟨ps, b5, p', q', ⟨by omega, gps⟩, h5', ?_⟩
 have l1 : (dths pss).length ≤ 1000000 := by unfold dths; rw [List.length_map]; omega
 have g2 : (S [some (.sh (.int (n : Int))), some (.flat (dths pss)), a3, some (.flat (dps ps)), b5, none, none, none, none] T p')[2]? = some (some (.flat (dths pss))) := rfl
 have g4 : (S [some (.sh (.int (n : Int))), some (.flat (dths pss)), a3, some (.flat (dps ps)), b5, none, none, none, none] T p')[4]? = some (some (.flat (dps ps))) := rfl
 have g2' : ∀ x, (S [some (.sh (.int (n : Int))), some (.flat (dths pss)), a3, x, b5, none, none, none, none] T p')[2]? = some (some (.flat (dths pss))) := fun _ => rfl
 have es : dths (pss ++ [ps]) = dths pss ++ [.list (dps ps)] := by unfold dths; rw [List.map_append]; rfl
 rw [es]
 simp only [obody, fSeq, fSet, fLst, fNil, frzs, bS, List.length_nil, Nat.zero_le, if_true, s_set, List.set_cons_zero, List.set_cons_succ, fFor, hi, lp, fApp, g2, fVar, g4, frz, OV.view, g2', l1]
 rfl
noncomputable def gbody : DS → Option Out := fApp 7 (fLc (fiR1 (fCons (fCallIO 2 g_law_take 0 (fCons (fC (.int 3)) fNil)) fNil)) (fgName 4) fYes (fLc (fiR1 (fCons (fCallIO 2 g_law_take 0 (fCons (fC (.int 3)) fNil)) fNil)) (fgName 5) fYes (fCallIO 2 g_law_claim 0 (fCons (fVar 1) fNil)) [5]) [4])
omit hT in
theorem cert_fb : fb_law_certificate = fSeq (fSet 2 (fLst fNil)) (fSeq (fFor (fiR1 (fCons (fCallIO 2 g_law_take 0 (fCons (fC (.int 3)) fNil)) fNil)) (fgName 3) obody) (fSeq (fSet 6 (fLc (fiR1 (fCons (fCallIO 2 g_law_take 0 (fCons (fC (.int 3)) fNil)) fNil)) (fgName 5) fYes (fCallIO 2 g_law_claim 0 (fCons (fVar 1) fNil)) [5])) (fSeq (fSet 7 (fLst fNil)) (fSeq (fFor (fiR1 (fCons (fC (.int 3)) fNil)) (fgName 3) gbody) (fRet (fTup (fCons (fVar 2) (fCons (fVar 6) (fCons (fIx (fVar 7) (fC (.int 0))) (fCons (fIx (fVar 7) (fC (.int 1))) (fCons (fIx (fVar 7) (fC (.int 2))) fNil))))))))))) := rfl
structure CtOk (n : Nat) (pss : List (List (List (List Int)))) (st : List Cl) (wa ju en : List (List Cl)) : Prop where
 few : pss.length ≤ 2
 pc : ∀ ps ∈ pss, ThOk n ps
 st : ClsOk st
 wa : RowsOk wa
 ju : RowsOk ju
 en : RowsOk en
omit hT in
theorem three {α : Type} {l : List α} (h : l.length = 3) : ∃ a b c, l = [a, b, c] := by
 match l, h with
 | [a, b, c], _ => exact ⟨a, b, c, rfl⟩
def dgs (gs : List (List (List Cl))) : List D := gs.map drows
def dcs (cs : List Cl) : List D := cs.map dc
include hT in
theorem ct_ok {p : Int} {n : Nat} (hn1 : n ≤ 1000) (hp : 0 ≤ p) : ∃ (pss : List (List (List (List Int)))) (st : List Cl) (wa ju en : List (List Cl)) (p' : Int), CtOk n pss st wa ju en ∧
  g_law_certificate [some (.flat [lI T, .int p]), some (.sh (.int (n : Int)))] = some (.ret (.sh (.tuple [.list (pss.map dthere), dclaims st, drows wa, drows ju, drows en])) [some (.flat [lI T, .int p']), none]) := by
 have pd : padD 2 10 [some (.flat [lI T, .int p]), some (.sh (.int (n : Int)))] = S [some (.sh (.int (n : Int))), none, none, none, none, none, none, none, none] T p := rfl
 obtain ⟨m, hm, hi⟩ := rgT hT hp (show (0 : Int) < 3 by omega) (by omega) [some (.sh (.int (n : Int))), some (.flat []), none, none, none, none, none, none, none]
 obtain ⟨L', p1, q1, lp, pss, a3, a4, a5, eL, lpss, h4, h5, gpss⟩ := loopT (T := T) (N := 2) (I := fun j L => ∃ (pss : List (List (List (List Int)))) (a3 a4 a5 : Option OV), L = [some (.sh (.int (n : Int))), some (.flat (dths pss)), a3, a4, a5, none, none, none, none] ∧ pss.length = j ∧ shB (some a4) = true ∧ shB (some a5) = true ∧ ∀ ps ∈ pss, ThOk n ps) (g := fgName 3) (body := obody) (fun d j L p hj hp ⟨pss, a3, a4, a5, eL, lpss, h4, h5, gpss⟩ => by
  subst eL
  obtain ⟨ps, b5, p2, q2, ok, h5', h⟩ := obody_ok hT hn1 hp (pss := pss) (a3 := some (.sh d)) (a4 := a4) (by omega) h5
  refine ⟨_, _, p2, q2, rfl, h, pss ++ [ps], some (.sh d), some (.sh (dthere ps)), b5, rfl, by rw [List.length_append, lpss]; rfl, rfl, h5', fun u hu => ?_⟩
  rcases List.mem_append.mp hu with hu | hu
  ·exact gpss u hu
  ·obtain rfl : u = ps := by simpa using hu
   exact ok) (rangeD 0 (m : Int)) 0 [some (.sh (.int (n : Int))), some (.flat []), none, none, none, none, none, none, none] (p + 1) (by rw [rng_len]; omega) (by omega) ⟨[], none, none, none, rfl, rfl, rfl, rfl, by simp⟩
 subst eL
 rw [Nat.zero_add, rng_len] at lpss
 obtain ⟨st, p2, q2, okst, hst⟩ := cls_ok hT (n := (n : Int)) q1 (L := [some (.sh (.int (n : Int))), some (.flat (dths pss)), a3, a4, a5, none, none, none, none]) rfl (by simp) h5
 obtain ⟨L', p3, q3, lp2, gs, b3, eL, lgs, ggs⟩ := loopT (T := T) (N := 3) (I := fun j L => ∃ (gs : List (List (List Cl))) (a3 : Option OV), L = [some (.sh (.int (n : Int))), some (.flat (dths pss)), a3, a4, a5, some (.flat (dcs st)), some (.flat (dgs gs)), none, none] ∧ gs.length = j ∧ ∀ g ∈ gs, RowsOk g) (g := fgName 3) (body := gbody) (fun d j L p hj hp ⟨gs, a3, eL, lgs, ggs⟩ => by
  subst eL
  obtain ⟨css, p2, q2, ok, h⟩ := grp_ok hT (n := (n : Int)) hp (L := [some (.sh (.int (n : Int))), some (.flat (dths pss)), some (.sh d), a4, a5, some (.flat (dcs st)), some (.flat (dgs gs)), none, none]) rfl (by simp) h4 h5
  have l1 : (dgs gs).length ≤ 1000000 := by unfold dgs; rw [List.length_map]; omega
  have g7 : ∀ p, (S [some (.sh (.int (n : Int))), some (.flat (dths pss)), some (.sh d), a4, a5, some (.flat (dcs st)), some (.flat (dgs gs)), none, none] T p)[7]? = some (some (.flat (dgs gs))) := fun _ => rfl
  have es : dgs (gs ++ [css]) = dgs gs ++ [.list (css.map dclaims)] := by unfold dgs; rw [List.map_append]; rfl
  refine ⟨_, [some (.sh (.int (n : Int))), some (.flat (dths pss)), some (.sh d), a4, a5, some (.flat (dcs st)), some (.flat (dgs (gs ++ [css]))), none, none], p2, q2, rfl, ?_, gs ++ [css], some (.sh d), rfl, by rw [List.length_append, lgs]; rfl, fun u hu => ?_⟩
  ·rw [es]
   simp only [gbody, s_set, List.set_cons_zero, List.set_cons_succ, fApp, g7, h, bS, frz, OV.view, l1, if_true]
  ·rcases List.mem_append.mp hu with hu | hu
   ·exact ggs u hu
   ·obtain rfl : u = css := by simpa using hu
    exact ok) (rangeD 0 ((3 : Nat) : Int)) 0 [some (.sh (.int (n : Int))), some (.flat (dths pss)), a3, a4, a5, some (.flat (dcs st)), some (.flat []), none, none] p2 (by rw [rng_len]; omega) q2 ⟨[], a3, rfl, rfl, by simp⟩
 subst eL
 rw [Nat.zero_add, rng_len] at lgs
 obtain ⟨wa, ju, en, rfl⟩ := three lgs
 refine ⟨pss, st, wa, ju, en, p3, ⟨by omega, gpss, okst, ggs wa (by simp), ggs ju (by simp), ggs en (by simp)⟩, ?_⟩
 have s3 : small62 3 = true := yes_of (by omega)
 have hi3 : fiR1 (fCons (fC (.int 3)) fNil) (S [some (.sh (.int (n : Int))), some (.flat (dths pss)), a3, a4, a5, some (.flat (dcs st)), some (.flat []), none, none] T p2) = some (rangeD 0 ((3 : Nat) : Int), S [some (.sh (.int (n : Int))), some (.flat (dths pss)), a3, a4, a5, some (.flat (dcs st)), some (.flat []), none, none] T p2) := by
  simp only [fiR1, fCons, fC, fNil, bS, Option.map_some, sees, see, OV.view, s3, if_true]
  rfl
 have i0 : atI (dgs [wa, ju, en]) (0 : Int) = some (drows wa) := rfl
 have i1 : atI (dgs [wa, ju, en]) (1 : Int) = some (drows ju) := rfl
 have i2 : atI (dgs [wa, ju, en]) (2 : Int) = some (drows en) := rfl
 have z : ∀ g, isSc (drows g) = false := fun _ => rfl
 have g2 : (S [some (.sh (.int (n : Int))), some (.flat (dths pss)), b3, a4, a5, some (.flat (dcs st)), some (.flat (dgs [wa, ju, en])), none, none] T p3)[2]? = some (some (.flat (dths pss))) := rfl
 have g6 : (S [some (.sh (.int (n : Int))), some (.flat (dths pss)), b3, a4, a5, some (.flat (dcs st)), some (.flat (dgs [wa, ju, en])), none, none] T p3)[6]? = some (some (.flat (dcs st))) := rfl
 have g6' : ∀ x, (S [some (.sh (.int (n : Int))), x, b3, a4, a5, some (.flat (dcs st)), some (.flat (dgs [wa, ju, en])), none, none] T p3)[6]? = some (some (.flat (dcs st))) := fun _ => rfl
 have g7 : (S [some (.sh (.int (n : Int))), some (.flat (dths pss)), b3, a4, a5, some (.flat (dcs st)), some (.flat (dgs [wa, ju, en])), none, none] T p3)[7]? = some (some (.flat (dgs [wa, ju, en]))) := rfl
 have n0 : dths [] = [] := rfl
 have lp : loopF (fgName 3) obody (rangeD 0 (m : Int)) (S [some (.sh (.int (n : Int))), some (.flat []), none, none, none, none, none, none, none] T (p + 1)) = _ := lp
 have hst : fLc (fiR1 (fCons (fCallIO 2 g_law_take 0 (fCons (fC (.int 3)) fNil)) fNil)) (fgName 5) fYes (fCallIO 2 g_law_claim 0 (fCons (fVar 1) fNil)) [5] (S [some (.sh (.int (n : Int))), some (.flat (dths pss)), a3, a4, a5, none, none, none, none] T p1) = some (.ov (.flat (dcs st)), S [some (.sh (.int (n : Int))), some (.flat (dths pss)), a3, a4, a5, none, none, none, none] T p2) := hst
 have out : fb_law_certificate (S [some (.sh (.int (n : Int))), none, none, none, none, none, none, none, none] T p) = some (.ret (.sh (.tuple [.list (dths pss), .list (dcs st), drows wa, drows ju, drows en])) (S [some (.sh (.int (n : Int))), some (.sh (.list (dths pss))), b3, a4, a5, some (.sh (.list (dcs st))), some (.flat (dgs [wa, ju, en])), none, none] T p3)) := by
  rw [cert_fb]
  simp only [fSeq, fSet, fLst, fNil, frzs, bS, List.length_nil, Nat.zero_le, if_true, s_set, List.set_cons_zero, List.set_cons_succ, fFor, hi, lp, hst, hi3, lp2, fRet, fTup, fCons, fVar, g2, g6, fIx, g7, fC, see, OV.view, i0, i1, i2, z, Bool.false_eq_true, if_false, items, Option.map_some, frz, g6', List.length_cons, Nat.zero_add, Nat.reduceAdd, Nat.reduceLeDiff, mov]
 simp only [g_law_certificate, funO, pd, out]
 rfl
end
end Lw
set_option Elab.async false
set_option linter.all false
set_option maxRecDepth 100000
set_option maxHeartbeats 4000000
namespace Lw
open PySem PySem.Spec L2 Fx Ty
abbrev ClT := T2 (Option Int) (List (T2 Int (List Int)))
abbrev CtT := T5 (List (List (List (List Int)))) (List ClT) (List (List ClT)) (List (List ClT)) (List (List ClT))
def tc (t : Cl) : ClT := ⟨if t.1 = -1 then none else some t.1, t.2.map fun r => ⟨r.1, r.2⟩⟩
def tct (c : Ct) : CtT := ⟨c.1, c.2.1.map tc, c.2.2.1.map (List.map tc), c.2.2.2.1.map (List.map tc), c.2.2.2.2.map (List.map tc)⟩
theorem enc_tc (t : Cl) : enc (tc t) = dc t := by
 obtain ⟨c, rows⟩ := t
 show PyData.tuple [enc (if c = -1 then (none : Option Int) else some c), .list ((rows.map fun r => (⟨r.1, r.2⟩ : T2 Int (List Int))).map enc)] = PyData.tuple [ixD c, .list (rows.map dr)]
 have e1 : enc (if c = -1 then (none : Option Int) else some c) = ixD c := by unfold ixD; split <;> rfl
 rw [e1, List.map_map]
 rfl
theorem enc_cls (cs : List Cl) : enc (cs.map tc) = dclaims cs := by
 show PyData.list ((cs.map tc).map enc) = PyData.list (cs.map dc)
 rw [List.map_map]
 congr 1
 exact List.map_congr_left fun t _ => enc_tc t
theorem enc_rows (css : List (List Cl)) : enc (css.map (List.map tc)) = drows css := by
 show PyData.list ((css.map (List.map tc)).map enc) = PyData.list (css.map dclaims)
 rw [List.map_map]
 congr 1
 exact List.map_congr_left fun t _ => enc_cls t
theorem enc_ct (c : Ct) : enc (tct c) = dct c := by
 show PyData.tuple [enc c.1, enc (c.2.1.map tc), enc (c.2.2.1.map (List.map tc)), enc (c.2.2.2.1.map (List.map tc)), enc (c.2.2.2.2.map (List.map tc))] = _
 rw [enc_cls, enc_rows, enc_rows, enc_rows]
 rfl
def m_law_told (xs : List Int) (n : Int) : Option (Option CtT) := if xs.length ≤ 1000000 then some ((pBook n xs).map tct) else none
theorem t_law_told (xs : List Int) (n : Int) (v : Option CtT) (e : m_law_told xs n = some v) : DRel RtO v (g_law_told (shs [enc xs, enc n])) := by
 unfold m_law_told at e
 split at e
 ·rename_i h
  cases e
  obtain ⟨d, hd⟩ := told_p (n := n) h
  refine ⟨_, d, hd, ?_⟩
  cases hq : pBook n xs with
  | none => rfl
  | some c =>
   show nrm (dct c) = nrm (enc (tct c))
   rw [enc_ct]
 ·cases e
def IsC (c : CtT) (n : Int) (b : Bool) : Prop := ∃ d, g_law_is_certificate (shs [enc c, enc n]) = some (.ret (.sh (.bool b)) d)
open Classical in
noncomputable def m_law_is_certificate (c : CtT) (n : Int) : Option Bool := if h : ∃ b, IsC c n b then some (Classical.choose h) else none
theorem t_law_is_certificate (c : CtT) (n : Int) (v : Bool) (e : m_law_is_certificate c n = some v) : DRel RtC v (g_law_is_certificate (shs [enc c, enc n])) := by
 unfold m_law_is_certificate at e
 split at e
 ·rename_i h
  cases e
  obtain ⟨d, hd⟩ := Classical.choose_spec h
  exact ⟨_, d, hd, rfl⟩
 ·cases e
def LwC (T : List Int) (n : Int) (v : CtT) : Prop := ∃ u u' , g_law_certificate [some (.flat [enc T, .int 0]), some (.sh (enc n))] = some (.ret (.sh (enc v)) [some u, u'])
open Classical in
noncomputable def m_law_certificate (T : List Int) (n : Int) : Option CtT := if h : ∃ v, LwC T n v then some (Classical.choose h) else none
section
variable {ρ ν μ : Type} [Enc ρ]
variable {ps : List SP} {Jn : ν → List SP} {J : μ → List SP} {Jx : List SP} {fa : DS → Option (RV × DS)} {g : DS → Option Out}
theorem b_tapeB (i j q : Nat) {R : ρ → OV → DS → Prop} {ma : Option (List Int)} {n : Int} {gB : DS → Option DR} {mB : CtT → Option (List Int)} {k : List Int → Option (TO ν μ ρ)} (ha : ExV ps fa ma) (T : ∀ c v, mB c = some v → DRel RtF v (gB (shs [enc c]))) (hg : ∀ v : List Int, Bk ((ps.set i an).set j (fl (v.map enc))) g (k v) Jn J Jx R) (hq : ps[q]? = some (sh (enc n)) := by rfl) (hi : decide (i < ps.length) = true := by rfl) (hqi : decide (q ≠ i) = true := by rfl) :
  Bk ps (fSeq (fSet i (fLst (fCons fa (fCons (fC (.int 0)) fNil)))) (fSeq (fSet j (fCall 1 gB (fCons (fCallIO 2 g_law_certificate i (fCons (fVar q) fNil)) fNil))) g)) (ma.bind fun t => (m_law_certificate t n).bind fun c => (mB c).bind k) Jn J Jx R := by
 intro o e ds S
 simp only [Option.bind_eq_some_iff] at e
 obtain ⟨t, e1, c, e2, v, e4, e3⟩ := e
 obtain ⟨rs, d1, k1, S1, q1⟩ := (a_c ha (a_c (v_c (v := (0 : Int))).v a_n)) [enc t, enc (0 : Int)] (by rw [e1]; rfl) ds S
 obtain ⟨d2, k2, S2⟩ := frzs_of S1 q1
 have hl : fLst (fCons fa (fCons (fC (.int 0)) fNil)) ds = some (.ov (.flat [enc t, .int 0]), d2) := by
  have k1 : fCons fa (fCons (fC (.int 0)) fNil) ds = some (rs, d1) := k1
  have k2 : frzs rs d1 = some ([enc t, .int 0], d2) := k2
  simp only [fLst, k1, k2, bindSome]; rw [if_pos (by simp)]
 have hi := of_decide_eq_true hi
 have hqi := of_decide_eq_true hqi
 have hlen : i < d2.length := by rw [S2.len]; exact hi
 obtain ⟨x, hx1, hx2⟩ := S2.get hq
 have hx2 : x = some (.sh (enc n)) := hx2
 subst hx2
 unfold m_law_certificate at e2
 split at e2
 ·rename_i h
  cases e2
  obtain ⟨u, u', hc⟩ := Classical.choose_spec h
  generalize hv : Classical.choose h = c at hc e3 e4
  obtain ⟨ov, dv, t1, t2⟩ := T c v e4
  have t2 : ov = .flat (v.map enc) := t2
  subst t2
  have g1 : (d2.set i (some (.flat [enc t, .int 0])))[i]? = some (some (.flat [enc t, .int 0])) := List.getElem?_set_self hlen
  have g2 : (d2.set i (some (.flat [enc t, .int 0])))[q]? = some (some (.sh (enc n))) := by rw [List.getElem?_set_ne (Ne.symm hqi)]; exact hx1
  have hc : g_law_certificate (some (.flat [enc t, .int 0]) :: shs [enc n]) = _ := hc
  have v1 : fVar q (d2.set i (some (.flat [enc t, .int 0]))) = some (.ov (.sh (enc n)), d2.set i (some (.flat [enc t, .int 0]))) := by simp only [fVar, g2]
  have io : fCallIO 2 g_law_certificate i (fCons (fVar q) fNil) (d2.set i (some (.flat [enc t, .int 0]))) = some (.ov (.sh (enc c)), d2.set i (some u)) := by
   simp only [fCallIO, g1, fCons, v1, fNil, bindSome, Option.map_some, frzs, frz, OV.view, List.length_cons, List.length_nil, Nat.zero_add, Nat.reduceAdd, if_true, hc, List.getElem?_cons_zero, List.set_set]
  have cb : fCall 1 gB (fCons (fCallIO 2 g_law_certificate i (fCons (fVar q) fNil)) fNil) (d2.set i (some (.flat [enc t, .int 0]))) = some (.ov (.flat (v.map enc)), d2.set i (some u)) := by
   have t1 : gB (shs [enc c]) = _ := t1
   simp only [fCall, fCons, io, bindSome, fNil, Option.map_some, frzs, frz, sees, see, OV.view, List.length_cons, List.length_nil, Nat.zero_add, if_true, t1, ite_self]
  obtain ⟨out, h4, h5⟩ := hg v o e3 ((d2.set i (some u)).set j (some (.flat (v.map enc)))) ((S2.set i (p := an) True.intro).set j (p := fl (v.map enc)) rfl)
  exact ⟨out, by simp only [fSeq, fSet, hl, bindSome, cb, h4], h5⟩
 ·cases e2
end
end Lw
set_option Elab.async false
set_option linter.all false
set_option maxRecDepth 100000
set_option maxHeartbeats 4000000
namespace Lw
open PySem PySem.Spec L2 Fx Ty
noncomputable def mb_law_list_book (rows_a : List (List Int)) : Option (TO Unit Unit (List Int)) := ((((some rows_a).bind fun a => some (a.length : Int)).bind fun a => (some ([] : List Int)).bind fun l => some (a :: l)).bind fun out_ => ((some rows_a).bind fun l => seqT (forT l (fun (row_ : List Int) (s_ : List Int) => (((some s_).bind fun a => (some row_).bind fun b => catN a b).bind fun out_1 => (some (.nx out_1)))) out_) fun s_ : List Int => (some (.ret s_))))
noncomputable def m_law_list_book (rows_a : List (List Int)) : Option (List Int) := retT (mb_law_list_book rows_a)
theorem t_law_list_book (rows_a : List (List Int)) (v : List Int) (e : m_law_list_book rows_a = some v) : DRel RtF v (g_law_list_book (shs [enc rows_a])) :=
 def_of (io := []) (n := 3) (p := 1) (fb := fb_law_list_book) (l := [enc rows_a]) (m := mb_law_list_book rows_a) (Jn := Ja 3) (J := Ja 3) (Jx := Jxa 3) (R := RtF)
  (b_setF 1 (v_lst (as_c (v_len (v_sh 0 (v := rows_a)).s).v as_n)) fun out_ => (b_for (fun s_ : List Int => [sh (enc rows_a), fl (s_.map enc), nf]) out_ (le_c le_id (le_c le_id (le_c le_none le_n))) (i_lst (v_sh 0 (v := rows_a)).v) (fun (row_ : List Int) (s_ : List Int) => (tg_n 2)) (fun (row_ : List Int) (s_ : List Int) => (b_last (b_setF 1 (v_cat (v_fl 1 (v := s_)) (v_sh 2 (v := row_)).s) fun out_1 => (b_nx (le_c le_id (le_c le_id (le_c le_sn le_n))))))) fun s_ : List Int => (b_retFv 1 (v := s_)))) rfl v e
noncomputable def mb_law_claim_book (claim_here_a : T2 (Option Int) (List (T2 Int (List Int)))) : Option (TO Unit Unit (List Int)) := ((some claim_here_a).bind fun t_ => (((some t_.b).bind fun l => (lenN l).bind fun l => mapN l fun p_ : T2 Int (List Int) => ((((some p_.a).bind fun a => (some ([] : List Int)).bind fun l => some (a :: l)).bind fun a => (((some p_.b).bind fun a => some (a.length : Int)).bind fun a => (some ([] : List Int)).bind fun l => some (a :: l)).bind fun b => catN a b).bind fun a => (some p_.b).bind fun b => catN a b)).bind fun rows_ => ((((((some t_.a).bind fun a => some a.isNone).bind fun c => if c = true then ((some (1 : Int)).bind fun a => some (-a)) else ((some t_.a).bind fun o => o)).bind fun a => (some ([] : List Int)).bind fun l => some (a :: l)).bind fun a => ((some rows_).bind fun x0 => m_law_list_book x0).bind fun b => catN a b).bind fun v => some (.ret v))))
noncomputable def m_law_claim_book (claim_here_a : T2 (Option Int) (List (T2 Int (List Int)))) : Option (List Int) := retT (mb_law_claim_book claim_here_a)
theorem t_law_claim_book (claim_here_a : T2 (Option Int) (List (T2 Int (List Int)))) (v : List Int) (e : m_law_claim_book claim_here_a = some v) : DRel RtF v (g_law_claim_book (shs [enc claim_here_a])) :=
 def_of (io := []) (n := 6) (p := 1) (fb := fb_law_claim_book) (l := [enc claim_here_a]) (m := mb_law_claim_book claim_here_a) (Jn := Ja 6) (J := Ja 6) (Jx := Jxa 6) (R := RtF)
  (b_asg (v_sh 0 (v := claim_here_a)).v (fun t_ => (tg_t (tgs_c (tg_n 1) (tgs_c (tg_n 2) tgs_n)))) fun t_ => (b_setF 3 (v_lc (nfs_c le_none (nfs_c le_none nfs_n)) (i_lst (v_sh 2 (v := t_.b)).v) (fun p_ : T2 Int (List Int) => (tg_t (tgs_c (tg_n 4) (tgs_c (tg_n 5) tgs_n)))) (fun p_ : T2 Int (List Int) => (v_cat (v_cat (v_lst (as_c (v_sh 4 (v := p_.a)).v as_n)).s (v_lst (as_c (v_len (v_sh 5 (v := p_.b)).s).v as_n)).s).s (v_sh 5 (v := p_.b)).s).v)) fun rows_ => (b_retF (v_cat (v_lst (as_c (v_ifC (t_b (v_isN (v_sh 1 (v := t_.a)).s)) (v_neg (v_c (v := (1 : Int))).s) (v_unopt (v_sh 1 (v := t_.a)))).v as_n)).s (v_callS1 t_law_list_book (v_fl 3 (v := rows_))).s)))) rfl v e
noncomputable def mb_law_book (certificate_here_a : T5 (List (List (List (List Int)))) (List (T2 (Option Int) (List (T2 Int (List Int))))) (List (List (T2 (Option Int) (List (T2 Int (List Int)))))) (List (List (T2 (Option Int) (List (T2 Int (List Int)))))) (List (List (T2 (Option Int) (List (T2 Int (List Int))))))) : Option (TO Unit Unit (List Int)) := ((some certificate_here_a).bind fun t_ => ((((some t_.a).bind fun l => (lenN l).bind fun l => mapN l fun part_ : List (List (List Int)) => (((some part_).bind fun l => (lenN l).bind fun l => mapN l fun piece_ : List (List Int) => (((some piece_).bind fun l => (lenN l).bind fun l => mapN l fun row_ : List Int => ((((some row_).bind fun a => some (a.length : Int)).bind fun a => (some ([] : List Int)).bind fun l => some (a :: l)).bind fun a => (some row_).bind fun b => catN a b)).bind fun x0 => m_law_list_book x0)).bind fun x0 => m_law_list_book x0)).bind fun x0 => m_law_list_book x0).bind fun out_ => (((some out_).bind fun a => (((some t_.b).bind fun l => (lenN l).bind fun l => mapN l fun claim_here_ : T2 (Option Int) (List (T2 Int (List Int))) => ((some claim_here_).bind fun x0 => m_law_claim_book x0)).bind fun x0 => m_law_list_book x0).bind fun b => catN a b).bind fun out_1 => (((some t_.c).bind fun a => ((some t_.d).bind fun a => ((some t_.e).bind fun a => (some ([] : List (List (List (T2 (Option Int) (List (T2 Int (List Int)))))))).bind fun l => some (a :: l)).bind fun l => some (a :: l)).bind fun l => some (a :: l)).bind fun l => seqT (forT l (fun (groups_ : List (List (T2 (Option Int) (List (T2 Int (List Int)))))) (s_ : List Int) => (((some s_).bind fun a => (((some groups_).bind fun l => (lenN l).bind fun l => mapN l fun part_1 : List (T2 (Option Int) (List (T2 Int (List Int)))) => (((some part_1).bind fun l => (lenN l).bind fun l => mapN l fun claim_here_1 : T2 (Option Int) (List (T2 Int (List Int))) => ((some claim_here_1).bind fun x0 => m_law_claim_book x0)).bind fun x0 => m_law_list_book x0)).bind fun x0 => m_law_list_book x0).bind fun b => catN a b).bind fun out_2 => (some (.nx out_2)))) out_1) fun s_ : List Int => (some (.ret s_))))))
noncomputable def m_law_book (certificate_here_a : T5 (List (List (List (List Int)))) (List (T2 (Option Int) (List (T2 Int (List Int))))) (List (List (T2 (Option Int) (List (T2 Int (List Int)))))) (List (List (T2 (Option Int) (List (T2 Int (List Int)))))) (List (List (T2 (Option Int) (List (T2 Int (List Int))))))) : Option (List Int) := retT (mb_law_book certificate_here_a)
theorem t_law_book (certificate_here_a : T5 (List (List (List (List Int)))) (List (T2 (Option Int) (List (T2 Int (List Int))))) (List (List (T2 (Option Int) (List (T2 Int (List Int)))))) (List (List (T2 (Option Int) (List (T2 Int (List Int)))))) (List (List (T2 (Option Int) (List (T2 Int (List Int))))))) (v : List Int) (e : m_law_book certificate_here_a = some v) : DRel RtF v (g_law_book (shs [enc certificate_here_a])) :=
 def_of (io := []) (n := 12) (p := 1) (fb := fb_law_book) (l := [enc certificate_here_a]) (m := mb_law_book certificate_here_a) (Jn := Ja 12) (J := Ja 12) (Jx := Jxa 12) (R := RtF)
  (b_asg (v_sh 0 (v := certificate_here_a)).v (fun t_ => (tg_t (tgs_c (tg_n 1) (tgs_c (tg_n 2) (tgs_c (tg_n 3) (tgs_c (tg_n 4) (tgs_c (tg_n 5) tgs_n))))))) fun t_ => (b_setF 6 (v_callS1 t_law_list_book (v_lc (nfs_c le_none nfs_n) (i_lst (v_sh 1 (v := t_.a)).v) (fun part_ : List (List (List Int)) => (tg_n 8)) (fun part_ : List (List (List Int)) => (v_callS1 t_law_list_book (v_lc (nfs_c le_none nfs_n) (i_lst (v_sh 8 (v := part_)).v) (fun piece_ : List (List Int) => (tg_n 9)) (fun piece_ : List (List Int) => (v_callS1 t_law_list_book (v_lc (nfs_c le_none nfs_n) (i_lst (v_sh 9 (v := piece_)).v) (fun row_ : List Int => (tg_n 10)) (fun row_ : List Int => (v_cat (v_lst (as_c (v_len (v_sh 10 (v := row_)).s).v as_n)).s (v_sh 10 (v := row_)).s).v)).s).v)).s).v)).s) fun out_ => (b_setF 6 (v_cat (v_fl 6 (v := out_)) (v_callS1 t_law_list_book (v_lc (nfs_c le_none nfs_n) (i_lst (v_sh 2 (v := t_.b)).v) (fun claim_here_ : T2 (Option Int) (List (T2 Int (List Int))) => (tg_n 11)) (fun claim_here_ : T2 (Option Int) (List (T2 Int (List Int))) => (v_callS1 t_law_claim_book (v_sh 11 (v := claim_here_)).s).v)).s).s) fun out_1 => (b_for (fun s_ : List Int => [sh (enc certificate_here_a), sh (enc t_.a), sh (enc t_.b), sh (enc t_.c), sh (enc t_.d), sh (enc t_.e), fl (s_.map enc), nf, isN, isN, isN, isN]) out_1 (le_c le_id (le_c le_id (le_c le_id (le_c le_id (le_c le_id (le_c le_id (le_c le_id (le_c le_none (le_c le_id (le_c le_id (le_c le_id (le_c le_id le_n)))))))))))) (i_lst (v_lst (as_c (v_sh 3 (v := t_.c)).v (as_c (v_sh 4 (v := t_.d)).v (as_c (v_sh 5 (v := t_.e)).v as_n)))).v) (fun (groups_ : List (List (T2 (Option Int) (List (T2 Int (List Int)))))) (s_ : List Int) => (tg_n 7)) (fun (groups_ : List (List (T2 (Option Int) (List (T2 Int (List Int)))))) (s_ : List Int) => (b_last (b_setF 6 (v_cat (v_fl 6 (v := s_)) (v_callS1 t_law_list_book (v_lc (nfs_c le_none nfs_n) (i_lst (v_sh 7 (v := groups_)).v) (fun part_1 : List (T2 (Option Int) (List (T2 Int (List Int)))) => (tg_n 8)) (fun part_1 : List (T2 (Option Int) (List (T2 Int (List Int)))) => (v_callS1 t_law_list_book (v_lc (nfs_c le_none nfs_n) (i_lst (v_sh 8 (v := part_1)).v) (fun claim_here_1 : T2 (Option Int) (List (T2 Int (List Int))) => (tg_n 11)) (fun claim_here_1 : T2 (Option Int) (List (T2 Int (List Int))) => (v_callS1 t_law_claim_book (v_sh 11 (v := claim_here_1)).s).v)).s).v)).s).s) fun out_2 => (b_nx (le_c le_id (le_c le_id (le_c le_id (le_c le_id (le_c le_id (le_c le_id (le_c le_id (le_c le_sn (le_c le_id (le_c le_id (le_c le_id (le_c le_id le_n)))))))))))))))) fun s_ : List Int => (b_retFv 6 (v := s_)))))) rfl v e
noncomputable def mb_law_cell (script_a : List Int) (k_a : Int) : Option (TO Unit Unit Int) := (((some k_a).bind fun a => ((some script_a).bind fun a => some (a.length : Int)).bind fun b => some (decide (a < b))).bind fun t => if t = true then ((((some script_a).bind fun a => (some k_a).bind fun b => atI a b).bind fun a => some (a.natAbs : Int)).bind fun v => some (.ret v)) else ((some (0 : Int)).bind fun v => some (.ret v)))
noncomputable def m_law_cell (script_a : List Int) (k_a : Int) : Option Int := retT (mb_law_cell script_a k_a)
theorem t_law_cell (script_a : List Int) (k_a : Int) (v : Int) (e : m_law_cell script_a k_a = some v) : DRel RtC v (g_law_cell (shs [enc script_a, enc k_a])) :=
 def_of (io := []) (n := 2) (p := 2) (fb := fb_law_cell) (l := [enc script_a, enc k_a]) (m := mb_law_cell script_a k_a) (Jn := Ja 2) (J := Ja 2) (Jx := Jxa 2) (R := RtC)
  (b_ifT (t_b (v_cmp (v_sh 1 (v := k_a)).s (v_len (v_sh 0 (v := script_a)).s).s)) (b_retC (v_abs (v_int (v_ix (v_sh 0 (v := script_a)).s (v_sh 1 (v := k_a)).s).s).s)) nn_ret (b_skip (b_retC (v_c (v := (0 : Int)))))) rfl v e
noncomputable def mb_law_digits (cell_here_a : Int) (base_a : Int) (most_a : Int) : Option (TO Unit Unit (List Int)) := ((some ([] : List Int)).bind fun digits_here_ => (((some cell_here_a).bind fun a => ((some (10 : Int)).bind fun a => (some (18 : Int)).bind fun b => powN a b).bind fun b => some (decide (b ≤ a))).bind fun large_ => (((some most_a).bind range1N).bind fun l => seqT (forT l (fun (k_ : Int) (s_ : Int × (List Int)) => ((some large_).bind fun t => if t = true then (((some s_.1).bind fun a => (some base_a).bind fun b => modN a b).bind fun v => (appN s_.2 v).bind fun digits_here_1 => (((some s_.1).bind fun a => (some base_a).bind fun b => fdivZ a b).bind fun cell_here_ => (some (.nx (cell_here_, digits_here_1))))) else (((((((some s_.1).bind fun a => (some (48271 : Int)).bind fun b => mulN a b).bind fun a => ((((some k_).bind fun a => (some (1 : Int)).bind fun b => some (a + b)).bind fun a => ((some k_).bind fun a => (some (5 : Int)).bind fun b => some (a + b)).bind fun b => mulN a b).bind fun a => (some (69621 : Int)).bind fun b => mulN a b).bind fun b => some (a + b)).bind fun a => (((some s_.1).bind fun a => (some (97 : Int)).bind fun b => fdivZ a b).bind fun a => (some k_).bind fun b => mulN a b).bind fun b => some (a + b)).bind fun a => (some (2147483647 : Int)).bind fun b => modN a b).bind fun a => (some base_a).bind fun b => modN a b).bind fun v => (appN s_.2 v).bind fun digits_here_2 => (some (.nx (s_.1, digits_here_2)))))) (cell_here_a, digits_here_)) fun s_ : Int × (List Int) => (some (.ret s_.2)))))
noncomputable def m_law_digits (cell_here_a : Int) (base_a : Int) (most_a : Int) : Option (List Int) := retT (mb_law_digits cell_here_a base_a most_a)
theorem t_law_digits (cell_here_a : Int) (base_a : Int) (most_a : Int) (v : List Int) (e : m_law_digits cell_here_a base_a most_a = some v) : DRel RtF v (g_law_digits (shs [enc cell_here_a, enc base_a, enc most_a])) :=
 def_of (io := []) (n := 6) (p := 3) (fb := fb_law_digits) (l := [enc cell_here_a, enc base_a, enc most_a]) (m := mb_law_digits cell_here_a base_a most_a) (Jn := Ja 6) (J := Ja 6) (Jx := Jxa 6) (R := RtF)
  (b_setF 3 (v_lst (as_n (α := Int))) fun digits_here_ => (b_setC 4 (v_cmp (v_sh 0 (v := cell_here_a)).s (v_pow (v_c (v := (10 : Int))).s (v_c (v := (18 : Int))).s).s) fun large_ => (b_for (fun s_ : Int × (List Int) => [sh (enc s_.1), sh (enc base_a), sh (enc most_a), fl (s_.2.map enc), sh (enc large_), nf]) (cell_here_a, digits_here_) (le_c le_id (le_c le_id (le_c le_id (le_c le_id (le_c le_id (le_c le_none le_n)))))) (i_rg1 (v_sh 2 (v := most_a)).s) (fun (k_ : Int) (s_ : Int × (List Int)) => (tg_n 5)) (fun (k_ : Int) (s_ : Int × (List Int)) => (b_ifL (t_truB (v_sh 4 (v := large_)).s) (b_app 3 (v_mod (v_int (v_sh 0 (v := s_.1)).s).s (v_sh 1 (v := base_a)).s).v fun digits_here_1 => (b_last (b_setC 0 (v_fdivZ (v_sh 0 (v := s_.1)).s (v_sh 1 (v := base_a)).s) fun cell_here_ => (b_nx (le_c le_id (le_c le_id (le_c le_id (le_c le_id (le_c le_id (le_c le_sn le_n)))))))))) (b_last (b_app 3 (v_mod (v_mod (v_int (v_add (v_add (v_mul (v_sh 0 (v := s_.1)).s (v_c (v := (48271 : Int))).s).s (v_mul (v_mul (v_add (v_sh 5 (v := k_)).s (v_c (v := (1 : Int))).s).s (v_add (v_sh 5 (v := k_)).s (v_c (v := (5 : Int))).s).s).s (v_c (v := (69621 : Int))).s).s).s (v_mul (v_fdivZ (v_sh 0 (v := s_.1)).s (v_c (v := (97 : Int))).s).s (v_sh 5 (v := k_)).s).s).s).s (v_c (v := (2147483647 : Int))).s).s (v_sh 1 (v := base_a)).s).v fun digits_here_2 => (b_nx (le_c le_id (le_c le_id (le_c le_id (le_c le_id (le_c le_id (le_c le_sn le_n))))))))))) fun s_ : Int × (List Int) => (b_retFv 3 (v := s_.2))))) rfl v e
noncomputable def mb_law_changed (book_here_a : List Int) (cell_here_a : Int) : Option (TO Unit Unit (List Int)) := ((((some cell_here_a).bind fun a => (some (5 : Int)).bind fun b => fdivZ a b).bind fun a => ((some book_here_a).bind fun a => some (a.length : Int)).bind fun b => modN a b).bind fun at_ => (((((((some cell_here_a).bind fun a => (some (7 : Int)).bind fun b => fdivZ a b).bind fun a => (some (6 : Int)).bind fun b => modN a b).bind fun a => (some (2 : Int)).bind fun b => subN a b).bind fun a => (((some (1 : Int)).bind fun a => some (-a)).bind fun a => ((((some book_here_a).bind fun a => (some at_).bind fun b => atI a b).bind fun a => (some (1 : Int)).bind fun b => some (a + b)).bind fun a => (((some (10 : Int)).bind fun a => (some (18 : Int)).bind fun b => powN a b).bind fun a => (some ([] : List Int)).bind fun l => some (a :: l)).bind fun l => some (a :: l)).bind fun l => some (a :: l)).bind fun l => some (a :: l)).bind fun a => (((some cell_here_a).bind fun a => (some (3 : Int)).bind fun b => fdivZ a b).bind fun a => (some (4 : Int)).bind fun b => modN a b).bind fun b => atI a b).bind fun worth_ => ((((some cell_here_a).bind fun a => (some (5 : Int)).bind fun b => modN a b).bind fun a => (some (0 : Int)).bind fun b => eqN a b).bind fun t => if t = true then (((((some book_here_a).bind fun a => (some none).bind fun lo => ((some at_).bind fun a => some (some a)).bind fun hi => some (cutN a lo hi)).bind fun a => ((some worth_).bind fun a => (some ([] : List Int)).bind fun l => some (a :: l)).bind fun b => catN a b).bind fun a => ((some book_here_a).bind fun a => (((some at_).bind fun a => (some (1 : Int)).bind fun b => some (a + b)).bind fun a => some (some a)).bind fun lo => (some none).bind fun hi => some (cutN a lo hi)).bind fun b => catN a b).bind fun v => some (.ret v)) else ((((some cell_here_a).bind fun a => (some (5 : Int)).bind fun b => modN a b).bind fun a => (some (1 : Int)).bind fun b => eqN a b).bind fun t => if t = true then ((((some book_here_a).bind fun a => (some none).bind fun lo => ((some at_).bind fun a => some (some a)).bind fun hi => some (cutN a lo hi)).bind fun a => ((some book_here_a).bind fun a => (((some at_).bind fun a => (some (1 : Int)).bind fun b => some (a + b)).bind fun a => some (some a)).bind fun lo => (some none).bind fun hi => some (cutN a lo hi)).bind fun b => catN a b).bind fun v => some (.ret v)) else ((((some cell_here_a).bind fun a => (some (5 : Int)).bind fun b => modN a b).bind fun a => (some (2 : Int)).bind fun b => eqN a b).bind fun t => if t = true then (((((some book_here_a).bind fun a => (some none).bind fun lo => ((some at_).bind fun a => some (some a)).bind fun hi => some (cutN a lo hi)).bind fun a => ((some worth_).bind fun a => (some ([] : List Int)).bind fun l => some (a :: l)).bind fun b => catN a b).bind fun a => ((some book_here_a).bind fun a => ((some at_).bind fun a => some (some a)).bind fun lo => (some none).bind fun hi => some (cutN a lo hi)).bind fun b => catN a b).bind fun v => some (.ret v)) else ((((some cell_here_a).bind fun a => (some (5 : Int)).bind fun b => modN a b).bind fun a => (some (3 : Int)).bind fun b => eqN a b).bind fun t => if t = true then (((some book_here_a).bind fun a => (some none).bind fun lo => ((some at_).bind fun a => some (some a)).bind fun hi => some (cutN a lo hi)).bind fun v => some (.ret v)) else (((some book_here_a).bind fun a => ((some worth_).bind fun a => (some ([] : List Int)).bind fun l => some (a :: l)).bind fun b => catN a b).bind fun v => some (.ret v))))))))
noncomputable def m_law_changed (book_here_a : List Int) (cell_here_a : Int) : Option (List Int) := retT (mb_law_changed book_here_a cell_here_a)
theorem t_law_changed (book_here_a : List Int) (cell_here_a : Int) (v : List Int) (e : m_law_changed book_here_a cell_here_a = some v) : DRel RtF v (g_law_changed (shs [enc book_here_a, enc cell_here_a])) :=
 def_of (io := []) (n := 4) (p := 2) (fb := fb_law_changed) (l := [enc book_here_a, enc cell_here_a]) (m := mb_law_changed book_here_a cell_here_a) (Jn := Ja 4) (J := Ja 4) (Jx := Jxa 4) (R := RtF)
  (b_setC 2 (v_mod (v_fdivZ (v_sh 1 (v := cell_here_a)).s (v_c (v := (5 : Int))).s).s (v_len (v_sh 0 (v := book_here_a)).s).s) fun at_ => (b_setC 3 (v_ix (v_lst (as_c (v_sub (v_mod (v_fdivZ (v_sh 1 (v := cell_here_a)).s (v_c (v := (7 : Int))).s).s (v_c (v := (6 : Int))).s).s (v_c (v := (2 : Int))).s).v (as_c (v_neg (v_c (v := (1 : Int))).s).v (as_c (v_add (v_ix (v_sh 0 (v := book_here_a)).s (v_sh 2 (v := at_)).s).s (v_c (v := (1 : Int))).s).v (as_c (v_pow (v_c (v := (10 : Int))).s (v_c (v := (18 : Int))).s).v as_n))))).s (v_mod (v_fdivZ (v_sh 1 (v := cell_here_a)).s (v_c (v := (3 : Int))).s).s (v_c (v := (4 : Int))).s).s) fun worth_ => (b_ifT (t_b (v_eq (v_mod (v_sh 1 (v := cell_here_a)).s (v_c (v := (5 : Int))).s).s (v_c (v := (0 : Int))).s)) (b_retF (v_cat (v_cat (v_sl (v_sh 0 (v := book_here_a)).s po_no (po_so (v_sh 2 (v := at_)).s)).s (v_lst (as_c (v_sh 3 (v := worth_)).v as_n)).s).s (v_sl (v_sh 0 (v := book_here_a)).s (po_so (v_add (v_sh 2 (v := at_)).s (v_c (v := (1 : Int))).s).s) po_no).s)) nn_ret (b_skip (b_ifT (t_b (v_eq (v_mod (v_sh 1 (v := cell_here_a)).s (v_c (v := (5 : Int))).s).s (v_c (v := (1 : Int))).s)) (b_retF (v_cat (v_sl (v_sh 0 (v := book_here_a)).s po_no (po_so (v_sh 2 (v := at_)).s)).s (v_sl (v_sh 0 (v := book_here_a)).s (po_so (v_add (v_sh 2 (v := at_)).s (v_c (v := (1 : Int))).s).s) po_no).s)) nn_ret (b_skip (b_ifT (t_b (v_eq (v_mod (v_sh 1 (v := cell_here_a)).s (v_c (v := (5 : Int))).s).s (v_c (v := (2 : Int))).s)) (b_retF (v_cat (v_cat (v_sl (v_sh 0 (v := book_here_a)).s po_no (po_so (v_sh 2 (v := at_)).s)).s (v_lst (as_c (v_sh 3 (v := worth_)).v as_n)).s).s (v_sl (v_sh 0 (v := book_here_a)).s (po_so (v_sh 2 (v := at_)).s) po_no).s)) nn_ret (b_skip (b_ifT (t_b (v_eq (v_mod (v_sh 1 (v := cell_here_a)).s (v_c (v := (5 : Int))).s).s (v_c (v := (3 : Int))).s)) (b_retF (v_sl (v_sh 0 (v := book_here_a)).s po_no (po_so (v_sh 2 (v := at_)).s))) nn_ret (b_skip (b_retF (v_cat (v_sh 0 (v := book_here_a)).s (v_lst (as_c (v_sh 3 (v := worth_)).v as_n)).s)))))))))))) rfl v e
noncomputable def mb_put_list (parts_a : List (List Int)) : Option (TO Unit Unit (List Int)) := ((((some parts_a).bind fun a => some (a.length : Int)).bind fun a => (some ([] : List Int)).bind fun l => some (a :: l)).bind fun written_ => ((some parts_a).bind fun l => seqT (forT l (fun (part_ : List Int) (s_ : List Int) => (((some s_).bind fun a => (some part_).bind fun b => catN a b).bind fun written_1 => (some (.nx written_1)))) written_) fun s_ : List Int => (some (.ret s_))))
noncomputable def m_put_list (parts_a : List (List Int)) : Option (List Int) := retT (mb_put_list parts_a)
theorem t_put_list (parts_a : List (List Int)) (v : List Int) (e : m_put_list parts_a = some v) : DRel RtF v (g_put_list (shs [enc parts_a])) :=
 def_of (io := []) (n := 3) (p := 1) (fb := fb_put_list) (l := [enc parts_a]) (m := mb_put_list parts_a) (Jn := Ja 3) (J := Ja 3) (Jx := Jxa 3) (R := RtF)
  (b_setF 1 (v_lst (as_c (v_len (v_sh 0 (v := parts_a)).s).v as_n)) fun written_ => (b_for (fun s_ : List Int => [sh (enc parts_a), fl (s_.map enc), nf]) written_ (le_c le_id (le_c le_id (le_c le_none le_n))) (i_lst (v_sh 0 (v := parts_a)).v) (fun (part_ : List Int) (s_ : List Int) => (tg_n 2)) (fun (part_ : List Int) (s_ : List Int) => (b_last (b_setF 1 (v_cat (v_fl 1 (v := s_)) (v_sh 2 (v := part_)).s) fun written_1 => (b_nx (le_c le_id (le_c le_id (le_c le_sn le_n))))))) fun s_ : List Int => (b_retFv 1 (v := s_)))) rfl v e
noncomputable def mb_put_numbers (numbers_a : List Int) : Option (TO Unit Unit (List Int)) := (((((some numbers_a).bind fun a => some (a.length : Int)).bind fun a => (some ([] : List Int)).bind fun l => some (a :: l)).bind fun a => (some numbers_a).bind fun b => catN a b).bind fun v => some (.ret v))
noncomputable def m_put_numbers (numbers_a : List Int) : Option (List Int) := retT (mb_put_numbers numbers_a)
theorem t_put_numbers (numbers_a : List Int) (v : List Int) (e : m_put_numbers numbers_a = some v) : DRel RtF v (g_put_numbers (shs [enc numbers_a])) :=
 def_of (io := []) (n := 1) (p := 1) (fb := fb_put_numbers) (l := [enc numbers_a]) (m := mb_put_numbers numbers_a) (Jn := Ja 1) (J := Ja 1) (Jx := Jxa 1) (R := RtF)
  (b_retF (v_cat (v_lst (as_c (v_len (v_sh 0 (v := numbers_a)).s).v as_n)).s (v_listOf (v_sh 0 (v := numbers_a)).s).s)) rfl v e
noncomputable def mb_put_claim (claim_a : T2 (Option Int) (List (T2 Int (List Int)))) : Option (TO Unit Unit (List Int)) := ((some claim_a).bind fun t_ => (((some t_.b).bind fun l => (lenN l).bind fun l => mapN l fun p_ : T2 Int (List Int) => (((some p_.a).bind fun a => (some ([] : List Int)).bind fun l => some (a :: l)).bind fun a => ((some p_.b).bind fun x0 => m_put_numbers x0).bind fun b => catN a b)).bind fun rows_ => ((((((some t_.a).bind fun a => some a.isNone).bind fun c => if c = true then ((some (1 : Int)).bind fun a => some (-a)) else ((some t_.a).bind fun o => o)).bind fun a => (some ([] : List Int)).bind fun l => some (a :: l)).bind fun a => ((some rows_).bind fun x0 => m_put_list x0).bind fun b => catN a b).bind fun v => some (.ret v))))
noncomputable def m_put_claim (claim_a : T2 (Option Int) (List (T2 Int (List Int)))) : Option (List Int) := retT (mb_put_claim claim_a)
theorem t_put_claim (claim_a : T2 (Option Int) (List (T2 Int (List Int)))) (v : List Int) (e : m_put_claim claim_a = some v) : DRel RtF v (g_put_claim (shs [enc claim_a])) :=
 def_of (io := []) (n := 6) (p := 1) (fb := fb_put_claim) (l := [enc claim_a]) (m := mb_put_claim claim_a) (Jn := Ja 6) (J := Ja 6) (Jx := Jxa 6) (R := RtF)
  (b_asg (v_sh 0 (v := claim_a)).v (fun t_ => (tg_t (tgs_c (tg_n 1) (tgs_c (tg_n 2) tgs_n)))) fun t_ => (b_setF 3 (v_lc (nfs_c le_none (nfs_c le_none nfs_n)) (i_lst (v_sh 2 (v := t_.b)).v) (fun p_ : T2 Int (List Int) => (tg_t (tgs_c (tg_n 4) (tgs_c (tg_n 5) tgs_n)))) (fun p_ : T2 Int (List Int) => (v_cat (v_lst (as_c (v_sh 4 (v := p_.a)).v as_n)).s (v_callS1 t_put_numbers (v_sh 5 (v := p_.b)).s).s).v)) fun rows_ => (b_retF (v_cat (v_lst (as_c (v_ifC (t_b (v_isN (v_sh 1 (v := t_.a)).s)) (v_neg (v_c (v := (1 : Int))).s) (v_unopt (v_sh 1 (v := t_.a)))).v as_n)).s (v_callS1 t_put_list (v_fl 3 (v := rows_))).s)))) rfl v e
noncomputable def mb_put_claims (claims_a : List (T2 (Option Int) (List (T2 Int (List Int))))) : Option (TO Unit Unit (List Int)) := ((((some claims_a).bind fun l => (lenN l).bind fun l => mapN l fun claim_ : T2 (Option Int) (List (T2 Int (List Int))) => ((some claim_).bind fun x0 => m_put_claim x0)).bind fun x0 => m_put_list x0).bind fun v => some (.ret v))
noncomputable def m_put_claims (claims_a : List (T2 (Option Int) (List (T2 Int (List Int))))) : Option (List Int) := retT (mb_put_claims claims_a)
theorem t_put_claims (claims_a : List (T2 (Option Int) (List (T2 Int (List Int))))) (v : List Int) (e : m_put_claims claims_a = some v) : DRel RtF v (g_put_claims (shs [enc claims_a])) :=
 def_of (io := []) (n := 2) (p := 1) (fb := fb_put_claims) (l := [enc claims_a]) (m := mb_put_claims claims_a) (Jn := Ja 2) (J := Ja 2) (Jx := Jxa 2) (R := RtF)
  (b_retF (v_callS1 t_put_list (v_lc (nfs_c le_none nfs_n) (i_lst (v_sh 0 (v := claims_a)).v) (fun claim_ : T2 (Option Int) (List (T2 Int (List Int))) => (tg_n 1)) (fun claim_ : T2 (Option Int) (List (T2 Int (List Int))) => (v_callS1 t_put_claim (v_sh 1 (v := claim_)).s).v)).s)) rfl v e
noncomputable def mb_write_book (certificate_a : T5 (List (List (List (List Int)))) (List (T2 (Option Int) (List (T2 Int (List Int))))) (List (List (T2 (Option Int) (List (T2 Int (List Int)))))) (List (List (T2 (Option Int) (List (T2 Int (List Int)))))) (List (List (T2 (Option Int) (List (T2 Int (List Int))))))) : Option (TO Unit Unit (List Int)) := ((some certificate_a).bind fun t_ => ((some ([] : List (List Int))).bind fun rows_ => ((some t_.a).bind fun l => seqT (forT l (fun (there_ : List (List (List Int))) (s_ : List (List Int)) => ((((some there_).bind fun l => (lenN l).bind fun l => mapN l fun piece_ : List (List Int) => (((some piece_).bind fun l => (lenN l).bind fun l => mapN l fun one_ : List Int => ((some one_).bind fun x0 => m_put_numbers x0)).bind fun x0 => m_put_list x0)).bind fun x0 => m_put_list x0).bind fun v => (appN s_ v).bind fun rows_1 => (some (.nx rows_1)))) rows_) fun s_ : List (List Int) => ((((some s_).bind fun x0 => m_put_list x0).bind fun a => ((some t_.b).bind fun x0 => m_put_claims x0).bind fun b => catN a b).bind fun book_ => ((((some t_.c).bind fun a => (some t_.d).bind fun b => (some t_.e).bind fun c => some (T3.mk a b c : T3 (List (List (T2 (Option Int) (List (T2 Int (List Int)))))) (List (List (T2 (Option Int) (List (T2 Int (List Int)))))) (List (List (T2 (Option Int) (List (T2 Int (List Int)))))))).bind fun t => some [t.a, t.b, t.c]).bind fun l => seqT (forT l (fun (part_ : List (List (T2 (Option Int) (List (T2 Int (List Int)))))) (s_1 : List Int) => (((some s_1).bind fun a => (((some part_).bind fun l => (lenN l).bind fun l => mapN l fun claims_ : List (T2 (Option Int) (List (T2 Int (List Int)))) => ((some claims_).bind fun x0 => m_put_claims x0)).bind fun x0 => m_put_list x0).bind fun b => catN a b).bind fun book_1 => (some (.nx book_1)))) book_) fun s_1 : List Int => (some (.ret s_1)))))))
noncomputable def m_write_book (certificate_a : T5 (List (List (List (List Int)))) (List (T2 (Option Int) (List (T2 Int (List Int))))) (List (List (T2 (Option Int) (List (T2 Int (List Int)))))) (List (List (T2 (Option Int) (List (T2 Int (List Int)))))) (List (List (T2 (Option Int) (List (T2 Int (List Int))))))) : Option (List Int) := retT (mb_write_book certificate_a)
theorem t_write_book (certificate_a : T5 (List (List (List (List Int)))) (List (T2 (Option Int) (List (T2 Int (List Int))))) (List (List (T2 (Option Int) (List (T2 Int (List Int)))))) (List (List (T2 (Option Int) (List (T2 Int (List Int)))))) (List (List (T2 (Option Int) (List (T2 Int (List Int))))))) (v : List Int) (e : m_write_book certificate_a = some v) : DRel RtF v (g_write_book (shs [enc certificate_a])) :=
 def_of (io := []) (n := 13) (p := 1) (fb := fb_write_book) (l := [enc certificate_a]) (m := mb_write_book certificate_a) (Jn := Ja 13) (J := Ja 13) (Jx := Jxa 13) (R := RtF)
  (b_asg (v_sh 0 (v := certificate_a)).v (fun t_ => (tg_t (tgs_c (tg_n 1) (tgs_c (tg_n 2) (tgs_c (tg_n 3) (tgs_c (tg_n 4) (tgs_c (tg_n 5) tgs_n))))))) fun t_ => (b_setF 6 (v_lst (as_n (α := List Int))) fun rows_ => (b_for (fun s_ : List (List Int) => [sh (enc certificate_a), sh (enc t_.a), sh (enc t_.b), sh (enc t_.c), sh (enc t_.d), sh (enc t_.e), fl (s_.map enc), nf, isN, isN, isN, isN, isN]) rows_ (le_c le_id (le_c le_id (le_c le_id (le_c le_id (le_c le_id (le_c le_id (le_c le_id (le_c le_none (le_c le_id (le_c le_id (le_c le_id (le_c le_id (le_c le_id le_n))))))))))))) (i_lst (v_sh 1 (v := t_.a)).v) (fun (there_ : List (List (List Int))) (s_ : List (List Int)) => (tg_n 7)) (fun (there_ : List (List (List Int))) (s_ : List (List Int)) => (b_last (b_app 6 (v_callS1 t_put_list (v_lc (nfs_c le_none nfs_n) (i_lst (v_sh 7 (v := there_)).v) (fun piece_ : List (List Int) => (tg_n 10)) (fun piece_ : List (List Int) => (v_callS1 t_put_list (v_lc (nfs_c le_none nfs_n) (i_lst (v_sh 10 (v := piece_)).v) (fun one_ : List Int => (tg_n 11)) (fun one_ : List Int => (v_callS1 t_put_numbers (v_sh 11 (v := one_)).s).v)).s).v)).s).v fun rows_1 => (b_nx (le_c le_id (le_c le_id (le_c le_id (le_c le_id (le_c le_id (le_c le_id (le_c le_id (le_c le_sn (le_c le_id (le_c le_id (le_c le_id (le_c le_id (le_c le_id le_n))))))))))))))))) fun s_ : List (List Int) => (b_setF 8 (v_cat (v_callS1 t_put_list (v_fl 6 (v := s_))).s (v_callS1 t_put_claims (v_sh 2 (v := t_.b)).s).s) fun book_ => (b_for (fun s_1 : List Int => [sh (enc certificate_a), sh (enc t_.a), sh (enc t_.b), sh (enc t_.c), sh (enc t_.d), sh (enc t_.e), fl (s_.map enc), nf, fl (s_1.map enc), nf, isN, isN, isN]) book_ (le_c le_id (le_c le_id (le_c le_id (le_c le_id (le_c le_id (le_c le_id (le_c le_id (le_c le_id (le_c le_id (le_c le_none (le_c le_id (le_c le_id (le_c le_id le_n))))))))))))) (i_tp (fun t : T3 (List (List (T2 (Option Int) (List (T2 Int (List Int)))))) (List (List (T2 (Option Int) (List (T2 Int (List Int)))))) (List (List (T2 (Option Int) (List (T2 Int (List Int)))))) => [t.a, t.b, t.c]) (fun _ => rfl) (v_tup3 (v_sh 3 (v := t_.c)).v (v_sh 4 (v := t_.d)).v (v_sh 5 (v := t_.e)).v).v) (fun (part_ : List (List (T2 (Option Int) (List (T2 Int (List Int)))))) (s_1 : List Int) => (tg_n 9)) (fun (part_ : List (List (T2 (Option Int) (List (T2 Int (List Int)))))) (s_1 : List Int) => (b_last (b_setF 8 (v_cat (v_fl 8 (v := s_1)) (v_callS1 t_put_list (v_lc (nfs_c le_none nfs_n) (i_lst (v_sh 9 (v := part_)).v) (fun claims_ : List (T2 (Option Int) (List (T2 Int (List Int)))) => (tg_n 12)) (fun claims_ : List (T2 (Option Int) (List (T2 Int (List Int)))) => (v_callS1 t_put_claims (v_sh 12 (v := claims_)).s).v)).s).s) fun book_1 => (b_nx (le_c le_id (le_c le_id (le_c le_id (le_c le_id (le_c le_id (le_c le_id (le_c le_id (le_c le_id (le_c le_id (le_c le_sn (le_c le_id (le_c le_id (le_c le_id le_n))))))))))))))))) fun s_1 : List Int => (b_retFv 8 (v := s_1))))))) rfl v e
noncomputable def mb_law (script_a : List Int) : Option (TO Unit Unit Bool) := (((((some (1 : Int)).bind fun a => ((some script_a).bind fun a => some (a.length : Int)).bind fun b => some (a + b)).bind fun a => (some (6 : Int)).bind fun b => some (if b < a then b else a)).bind range1N).bind fun l => seqT (forT l (fun (k_1 : Int) (s_1 : Unit) => ((((some script_a).bind fun x0 => (some k_1).bind fun x1 => m_law_cell x0 x1).bind fun a => ((some (3 : Int)).bind fun a => (some k_1).bind fun b => mulN a b).bind fun b => some (a + b)).bind fun cell_here_ => (((some cell_here_).bind fun a => (some (4 : Int)).bind fun b => modN a b).bind fun n_ => ((((some cell_here_).bind fun a => (some (4 : Int)).bind fun b => fdivZ a b).bind fun x0 => (some (27720 : Int)).bind fun x1 => (some (60 : Int)).bind fun x2 => m_law_digits x0 x1 x2).bind fun t => (m_law_certificate t n_).bind fun c => (m_law_book c).bind fun book_here_ => (((some book_here_).bind fun a => (((some book_here_).bind fun x0 => ((some cell_here_).bind fun a => (some (4 : Int)).bind fun b => fdivZ a b).bind fun x1 => m_law_changed x0 x1).bind fun a => (((some book_here_).bind fun x0 => (((some cell_here_).bind fun a => (some (11 : Int)).bind fun b => fdivZ a b).bind fun a => (some (1 : Int)).bind fun b => some (a + b)).bind fun x1 => m_law_changed x0 x1).bind fun a => (some ([] : List (List Int))).bind fun l => some (a :: l)).bind fun l => some (a :: l)).bind fun l => some (a :: l)).bind fun lists_ => ((((((some cell_here_).bind fun a => (some (9 : Int)).bind fun b => fdivZ a b).bind fun a => (some (1 : Int)).bind fun b => some (a + b)).bind fun x0 => (some (27720 : Int)).bind fun x1 => (((some cell_here_).bind fun a => (some (3 : Int)).bind fun b => fdivZ a b).bind fun a => (some (41 : Int)).bind fun b => modN a b).bind fun x2 => m_law_digits x0 x1 x2).bind fun l => (lenN l).bind fun l => mapN l fun digit_ : Int => (((some digit_).bind fun a => (some (5 : Int)).bind fun b => modN a b).bind fun a => (((((some digit_).bind fun a => (some (5 : Int)).bind fun b => fdivZ a b).bind fun a => (some (9 : Int)).bind fun b => modN a b).bind fun a => (some (8 : Int)).bind fun b => fdivZ a b).bind fun a => (some (6 : Int)).bind fun b => mulN a b).bind fun b => subN a b)).bind fun v => (appN lists_ v).bind fun lists_1 => ((((some (0 : Int)).bind fun a => (some ([] : List Int)).bind fun l => some (a :: l)).bind fun a => (((some cell_here_).bind fun a => (some (5 : Int)).bind fun b => fdivZ a b).bind fun a => (some (8 : Int)).bind fun b => modN a b).bind fun b => repN a b).bind fun v => (appN lists_1 v).bind fun lists_2 => ((((some lists_2).bind fun a => some (a.length : Int)).bind range1N).bind fun l => seqT (forT l (fun (j_1 : Int) (s_3 : Unit) => (((some lists_2).bind fun a => (some j_1).bind fun b => atI a b).bind fun numbers_ => ((some numbers_).bind fun kept_ => (((some n_).bind fun a => (((((some n_).bind fun a => (some (1 : Int)).bind fun b => some (a + b)).bind fun a => (((some cell_here_).bind fun a => (some (13 : Int)).bind fun b => fdivZ a b).bind fun a => (some (3 : Int)).bind fun b => modN a b).bind fun b => some (a + b)).bind fun a => (some (4 : Int)).bind fun b => modN a b).bind fun a => (some ([] : List Int)).bind fun l => some (a :: l)).bind fun l => some (a :: l)).bind fun l => seqT (forT l (fun (size_ : Int) (s_4 : Unit) => (((some numbers_).bind fun x0 => (some size_).bind fun x1 => m_law_told x0 x1).bind fun told_here_ => (seqT (borT ((((some numbers_).bind fun a => (some kept_).bind fun b => neN a b).bind fun a => if a = true then some true else (((some j_1).bind fun a => (some (0 : Int)).bind fun b => eqN a b).bind fun a => if a = true then (((some size_).bind fun a => (some n_).bind fun b => eqN a b).bind fun a => if a = true then ((some told_here_).bind fun a => some a.isNone) else some false) else some false)).bind fun t => if t = true then ((some false).bind fun v => some (.ret v)) else (some (.nx ())))) fun j_2 : Unit => (seqT (borT ((((some told_here_).bind fun a => some a.isSome).bind fun a => if a = true then (((((some told_here_).bind fun o => o).bind fun x0 => (some size_).bind fun x1 => m_law_is_certificate x0 x1).bind fun a => some (!a)).bind fun a => if a = true then some true else ((((some told_here_).bind fun o => o).bind fun x0 => m_law_book x0).bind fun a => (some numbers_).bind fun b => neN a b)) else some false).bind fun t => if t = true then ((some false).bind fun v => some (.ret v)) else (some (.nx ())))) fun j_3 : Unit => (seqT (borT ((((some told_here_).bind fun a => some a.isSome).bind fun a => if a = true then ((((some told_here_).bind fun o => o).bind fun x0 => m_write_book x0).bind fun a => (some numbers_).bind fun b => neN a b) else some false).bind fun t => if t = true then ((some false).bind fun v => some (.ret v)) else (some (.nx ())))) fun j_4 : Unit => (some (.nx ()))))))) ()) fun s_4 : Unit => (some (.nx ())))))) ()) fun s_3 : Unit => (some (.nx ())))))))))) ()) fun s_1 : Unit => ((some true).bind fun v => some (.ret v)))
noncomputable def m_law (script_a : List Int) : Option Bool := retT (mb_law script_a)
theorem t_law (script_a : List Int) (v : Bool) (e : m_law script_a = some v) : DRel RtC v (g_law (shs [enc script_a])) :=
 def_of (io := []) (n := 13) (p := 1) (fb := fb_law) (l := [enc script_a]) (m := mb_law script_a) (Jn := Ja 13) (J := Ja 13) (Jx := Jxa 13) (R := RtC)
  (b_for (fun s_1 : Unit => [sh (enc script_a), nf, nf, nf, an, an, an, nf, nf, an, nf, an, isN]) () (le_c le_id (le_c le_none (le_c le_none (le_c le_none (le_c le_an (le_c le_an (le_c le_an (le_c le_none (le_c le_none (le_c le_an (le_c le_none (le_c le_an (le_c le_id le_n))))))))))))) (i_rg1 (v_min2 (v_add (v_c (v := (1 : Int))).s (v_len (v_sh 0 (v := script_a)).s).s).s (v_c (v := (6 : Int))).s).s) (fun (k_1 : Int) (s_1 : Unit) => (tg_n 1)) (fun (k_1 : Int) (s_1 : Unit) => (b_setC 2 (v_add (v_callC2 t_law_cell (v_sh 0 (v := script_a)).s (v_sh 1 (v := k_1)).s).s (v_mul (v_c (v := (3 : Int))).s (v_sh 1 (v := k_1)).s).s) fun cell_here_ => (b_setC 3 (v_mod (v_sh 2 (v := cell_here_)).s (v_c (v := (4 : Int))).s) fun n_ => (b_tapeB 4 5 3 (n := n_) (v_callS3 t_law_digits (v_fdivZ (v_sh 2 (v := cell_here_)).s (v_c (v := (4 : Int))).s).s (v_c (v := (27720 : Int))).s (v_c (v := (60 : Int))).s).v t_law_book fun book_here_ => (b_weak (le_c le_id (le_c le_id (le_c le_id (le_c le_id (le_c le_id (le_c le_fv (le_c le_id (le_c le_id (le_c le_id (le_c le_id (le_c le_id (le_c le_id (le_c le_id le_n))))))))))))) (b_setF 6 (v_lst (as_c (v_var 5 (v := book_here_)) (as_c (v_callS2 t_law_changed (v_var 5 (v := book_here_)).s (v_fdivZ (v_sh 2 (v := cell_here_)).s (v_c (v := (4 : Int))).s).s).v (as_c (v_callS2 t_law_changed (v_var 5 (v := book_here_)).s (v_add (v_fdivZ (v_sh 2 (v := cell_here_)).s (v_c (v := (11 : Int))).s).s (v_c (v := (1 : Int))).s).s).v as_n)))) fun lists_ => (b_app 6 (v_lc (nfs_c le_none nfs_n) (i_lst (v_callS3 t_law_digits (v_add (v_fdivZ (v_sh 2 (v := cell_here_)).s (v_c (v := (9 : Int))).s).s (v_c (v := (1 : Int))).s).s (v_c (v := (27720 : Int))).s (v_mod (v_fdivZ (v_sh 2 (v := cell_here_)).s (v_c (v := (3 : Int))).s).s (v_c (v := (41 : Int))).s).s).v) (fun digit_ : Int => (tg_n 12)) (fun digit_ : Int => (v_sub (v_mod (v_sh 12 (v := digit_)).s (v_c (v := (5 : Int))).s).s (v_mul (v_fdivZ (v_mod (v_fdivZ (v_sh 12 (v := digit_)).s (v_c (v := (5 : Int))).s).s (v_c (v := (9 : Int))).s).s (v_c (v := (8 : Int))).s).s (v_c (v := (6 : Int))).s).s).v)).v fun lists_1 => (b_app 6 (v_rep (v_lst (as_c (v_c (v := (0 : Int))).v as_n)) (v_mod (v_fdivZ (v_sh 2 (v := cell_here_)).s (v_c (v := (5 : Int))).s).s (v_c (v := (8 : Int))).s).s).v fun lists_2 => (b_last (b_for (fun s_3 : Unit => [sh (enc script_a), sh (enc k_1), sh (enc cell_here_), sh (enc n_), an, vw (enc book_here_), vw (enc lists_2), nf, nf, an, nf, an, isN]) () (le_c le_id (le_c le_id (le_c le_id (le_c le_id (le_c le_id (le_c le_id (le_c le_fv (le_c le_id (le_c le_id (le_c le_id (le_c le_id (le_c le_id (le_c le_id le_n))))))))))))) (i_rg1 (v_len (v_fl 6 (v := lists_2))).s) (fun (j_1 : Int) (s_3 : Unit) => (tg_n 7)) (fun (j_1 : Int) (s_3 : Unit) => (b_setC 8 (v_ix (v_var 6 (v := lists_2)).s (v_sh 7 (v := j_1)).s) fun numbers_ => (b_setF 9 (v_listOf (v_sh 8 (v := numbers_)).s) fun kept_ => (b_last (b_for (fun s_4 : Unit => [sh (enc script_a), sh (enc k_1), sh (enc cell_here_), sh (enc n_), an, vw (enc book_here_), vw (enc lists_2), sh (enc j_1), sh (enc numbers_), fl (kept_.map enc), nf, an, isN]) () (le_c le_id (le_c le_id (le_c le_id (le_c le_id (le_c le_id (le_c le_id (le_c le_id (le_c le_id (le_c le_id (le_c le_id (le_c le_id (le_c le_id (le_c le_id le_n))))))))))))) (i_lst (v_lst (as_c (v_sh 3 (v := n_)).v (as_c (v_mod (v_add (v_add (v_sh 3 (v := n_)).s (v_c (v := (1 : Int))).s).s (v_mod (v_fdivZ (v_sh 2 (v := cell_here_)).s (v_c (v := (13 : Int))).s).s (v_c (v := (3 : Int))).s).s).s (v_c (v := (4 : Int))).s).v as_n))).v) (fun (size_ : Int) (s_4 : Unit) => (tg_n 10)) (fun (size_ : Int) (s_4 : Unit) => (b_setO 11 (v_callO2 t_law_told (v_sh 8 (v := numbers_)).s (v_sh 10 (v := size_)).s) fun told_here_ => (b_bor 11 (J' := fun _ => []) (Jx' := Jxa 13) [(5, enc book_here_), (6, enc lists_2)] [.sh (enc script_a), .shS (enc k_1) (Sca.sc k_1), .shS (enc cell_here_) (Sca.sc cell_here_), .shS (enc n_) (Sca.sc n_), .n, .sh (enc book_here_), .sh (enc lists_2), .shS (enc j_1) (Sca.sc j_1), .sh (enc numbers_), .flS (kept_.map enc) (all_isSc kept_), .shS (enc size_) (Sca.sc size_), .ow (enc told_here_), .n] (fun j_2 : Unit => [.sh (enc script_a), .shS (enc k_1) (Sca.sc k_1), .shS (enc cell_here_) (Sca.sc cell_here_), .shS (enc n_) (Sca.sc n_), .n, .sh (enc book_here_), .sh (enc lists_2), .shS (enc j_1) (Sca.sc j_1), .sh (enc numbers_), .flS (kept_.map enc) (all_isSc kept_), .shS (enc size_) (Sca.sc size_), .sh (enc told_here_), .n]) (Jm := fun j_2 : Unit => [sh (enc script_a), sh (enc k_1), sh (enc cell_here_), sh (enc n_), isN, sh (enc book_here_), sh (enc lists_2), sh (enc j_1), sh (enc numbers_), fl (kept_.map enc), sh (enc size_), sh (enc told_here_), isN]) (Fzs.cons rfl le_id (Fzs.cons rfl le_id Fzs.nil)) (b_ifL (t_or (t_b (v_ne (v_sh 8 (v := numbers_)).s (v_fl 9 (v := kept_)))) (t_and (t_b (v_eq (v_sh 7 (v := j_1)).s (v_c (v := (0 : Int))).s)) (t_and (t_b (v_eq (v_sh 10 (v := size_)).s (v_sh 3 (v := n_)).s)) (t_b (v_isN (v_sh 11 (v := told_here_)).s))))) (b_retC (v_c (v := false))) (b_nx (le_c le_id (le_c le_id (le_c le_id (le_c le_id (le_c le_id (le_c le_id (le_c le_id (le_c le_id (le_c le_id (le_c le_id (le_c le_id (le_c le_id (le_c le_id le_n))))))))))))))) (fun j_2 : Unit => by repeat (first | exact .nil | refine .c rfl ?_ | refine .k (by decide) ?_ | refine .i rfl ?_)) rtC_own fun j_2 : Unit => (b_bor 11 (J' := fun _ => []) (Jx' := Jxa 13) [] [.sh (enc script_a), .shS (enc k_1) (Sca.sc k_1), .shS (enc cell_here_) (Sca.sc cell_here_), .shS (enc n_) (Sca.sc n_), .n, .sh (enc book_here_), .sh (enc lists_2), .shS (enc j_1) (Sca.sc j_1), .sh (enc numbers_), .flS (kept_.map enc) (all_isSc kept_), .shS (enc size_) (Sca.sc size_), .ow (enc told_here_), .n] (fun j_3 : Unit => [.sh (enc script_a), .shS (enc k_1) (Sca.sc k_1), .shS (enc cell_here_) (Sca.sc cell_here_), .shS (enc n_) (Sca.sc n_), .n, .sh (enc book_here_), .sh (enc lists_2), .shS (enc j_1) (Sca.sc j_1), .sh (enc numbers_), .flS (kept_.map enc) (all_isSc kept_), .shS (enc size_) (Sca.sc size_), .sh (enc told_here_), .n]) (Jm := fun j_3 : Unit => [sh (enc script_a), sh (enc k_1), sh (enc cell_here_), sh (enc n_), isN, sh (enc book_here_), sh (enc lists_2), sh (enc j_1), sh (enc numbers_), fl (kept_.map enc), sh (enc size_), sh (enc told_here_), isN]) Fzs.nil (b_ifL (t_and (t_b (v_notN (v_sh 11 (v := told_here_)).s)) (t_or (t_not (t_truB (v_callO2 t_law_is_certificate (v_unopt (v_sh 11 (v := told_here_))).s (v_sh 10 (v := size_)).s).s)) (t_b (v_ne (v_callS1 t_law_book (v_unopt (v_sh 11 (v := told_here_))).s).s (v_sh 8 (v := numbers_)).s)))) (b_retC (v_c (v := false))) (b_nx (le_c le_id (le_c le_id (le_c le_id (le_c le_id (le_c le_id (le_c le_id (le_c le_id (le_c le_id (le_c le_id (le_c le_id (le_c le_id (le_c le_id (le_c le_id le_n))))))))))))))) (fun j_3 : Unit => by repeat (first | exact .nil | refine .c rfl ?_ | refine .k (by decide) ?_ | refine .i rfl ?_)) rtC_own fun j_3 : Unit => (b_last (b_bor 11 (J' := fun _ => []) (Jx' := Jxa 13) [] [.sh (enc script_a), .shS (enc k_1) (Sca.sc k_1), .shS (enc cell_here_) (Sca.sc cell_here_), .shS (enc n_) (Sca.sc n_), .n, .sh (enc book_here_), .sh (enc lists_2), .shS (enc j_1) (Sca.sc j_1), .sh (enc numbers_), .flS (kept_.map enc) (all_isSc kept_), .shS (enc size_) (Sca.sc size_), .ow (enc told_here_), .n] (fun j_4 : Unit => [.sh (enc script_a), .shS (enc k_1) (Sca.sc k_1), .shS (enc cell_here_) (Sca.sc cell_here_), .shS (enc n_) (Sca.sc n_), .n, .sh (enc book_here_), .sh (enc lists_2), .shS (enc j_1) (Sca.sc j_1), .sh (enc numbers_), .flS (kept_.map enc) (all_isSc kept_), .shS (enc size_) (Sca.sc size_), .sh (enc told_here_), .n]) (Jm := fun j_4 : Unit => [sh (enc script_a), sh (enc k_1), sh (enc cell_here_), sh (enc n_), isN, sh (enc book_here_), sh (enc lists_2), sh (enc j_1), sh (enc numbers_), fl (kept_.map enc), sh (enc size_), sh (enc told_here_), isN]) Fzs.nil (b_ifL (t_and (t_b (v_notN (v_sh 11 (v := told_here_)).s)) (t_b (v_ne (v_callS1 t_write_book (v_unopt (v_sh 11 (v := told_here_))).s).s (v_sh 8 (v := numbers_)).s))) (b_retC (v_c (v := false))) (b_nx (le_c le_id (le_c le_id (le_c le_id (le_c le_id (le_c le_id (le_c le_id (le_c le_id (le_c le_id (le_c le_id (le_c le_id (le_c le_id (le_c le_id (le_c le_id le_n))))))))))))))) (fun j_4 : Unit => by repeat (first | exact .nil | refine .c rfl ?_ | refine .k (by decide) ?_ | refine .i rfl ?_)) rtC_own fun j_4 : Unit => (b_nx (le_c le_id (le_c le_id (le_c le_id (le_c le_id (le_c le_an (le_c le_sv (le_c le_sv (le_c le_id (le_c le_id (le_c le_id (le_c le_sn (le_c le_an (le_c le_id le_n)))))))))))))))))))) fun s_4 : Unit => (b_nx (le_c le_id (le_c le_id (le_c le_id (le_c le_id (le_c le_id (le_c le_id (le_c le_id (le_c le_sn (le_c le_sn (le_c le_an (le_c le_id (le_c le_id (le_c le_id le_n))))))))))))))))))) fun s_3 : Unit => (b_nx (le_c le_id (le_c le_sn (le_c le_sn (le_c le_sn (le_c le_id (le_c le_an (le_c le_an (le_c le_id (le_c le_id (le_c le_id (le_c le_id (le_c le_id (le_c le_id le_n)))))))))))))))))))))))) fun s_1 : Unit => (b_retC (v_c (v := true)))) rfl v e
end Lw
set_option Elab.async false
set_option linter.all false
set_option maxRecDepth 100000
set_option maxHeartbeats 2000000
namespace Lw
open PySem PySem.Spec L2 Fx Ty
theorem cell0 (s : List Int) (k : Int) (h : 0 ≤ k) : W (m_law_cell s k) fun x => 0 ≤ x := by
 unfold m_law_cell mb_law_cell
 simp only [W_bind, W_some, W_none, W_ite, W_sub, W_mul, W_fdiv, W_fdivZ, W_mod, W_pow, W_app, W_cat, W_len, W_rg1, W_rg2, W_rg3, W_seq, W_ret, W_retU, W_retX, W_retXU, W_bindX, W_retO, W_noX, W_try, W_eqI, W_neI, W_eqBo, W_neBo, W_set, W_rep, W_map, W_band, W_bor, eq_self, if_true, if_false, Bool.false_eq_true, decide_eq_true_eq, and_true, true_and]
 split
 ·rename_i h1
  exact W_at h h1 fun _ => by omega
 ·omega
theorem fdiv_le {x : Int} {b : Int} (h : 0 ≤ x) (hb : 0 < b) : 0 ≤ x.fdiv b ∧ x.fdiv b ≤ x := by
 rw [Int.fdiv_eq_ediv_of_nonneg _ (by omega)]
 exact ⟨Int.ediv_nonneg h (by omega), Int.ediv_le_self _ h⟩
theorem digits_spec {m : Nat} (c base : Int) (h0 : 0 ≤ c) (hb : 0 < base) (hm : m ≤ 100) : W (m_law_digits c base (m : Int)) fun l => l.length = m ∧ ∀ x ∈ l, 0 ≤ x ∧ x < base := by
 unfold m_law_digits mb_law_digits
 simp only [W_bind, W_some, W_none, W_ite, W_sub, W_mul, W_fdiv, W_fdivZ, W_mod, W_pow, W_app, W_cat, W_len, W_rg1, W_rg2, W_rg3, W_ret, W_retU, W_retX, W_retXU, W_bindX, W_retO, W_noX, W_try, W_eqI, W_neI, W_eqBo, W_neBo, W_set, W_rep, W_map, W_band, W_bor, eq_self, if_true, if_false, Bool.false_eq_true, decide_eq_true_eq, and_true, true_and]
 refine ⟨pow_ok (by omega) (by omega) (by omega), sm62 (by omega) (by omega), ?_⟩
 have p18 : (10 : Int) ^ (18 : Int).toNat = 1000000000000000000 := by decide
 rw [p18]
 rw [W_seq]
 refine W_for (fun i (st : Int × List Int) => st.2.length = i ∧ (∀ x ∈ st.2, 0 ≤ x ∧ x < base) ∧ 0 ≤ st.1 ∧ (¬ 1000000000000000000 ≤ c → st.1 = c)) ⟨rfl, by simp, h0, fun _ => rfl⟩ (fun i hi st J => ?_) fun st J => ?_
 ·obtain ⟨j1, j2, j3, j4⟩ := J
  have hi2 := hi
  rw [rangeL_len] at hi2
  rw [rangeL_get hi]
  simp only [W_bind, W_some, W_none, W_ite, W_sub, W_mul, W_fdiv, W_fdivZ, W_mod, W_pow, W_app, W_cat, W_len, W_rg1, W_rg2, W_rg3, W_ret, W_retU, W_retX, W_retXU, W_bindX, W_retO, W_noX, W_try, W_eqI, W_neI, W_eqBo, W_neBo, W_set, W_rep, W_map, W_band, W_bor, eq_self, if_true, if_false, Bool.false_eq_true, decide_eq_true_eq, and_true, true_and]
  have add : ∀ x, 0 ≤ x → x < base → ∀ y ∈ st.2 ++ [x], 0 ≤ y ∧ y < base := fun x x0 x1 y hy => by
   rcases List.mem_append.mp hy with hy | hy
   ·exact j2 y hy
   ·obtain rfl : y = x := by simpa using hy
    exact ⟨x0, x1⟩
  split
  ·rename_i hc
   have hc : 1000000000000000000 ≤ c := by simpa using hc
   exact ⟨by omega, by omega, by omega, by simp; omega, add _ (fmod_pos hb).1 (fmod_pos hb).2, (fdiv_le j3 hb).1, fun h => absurd hc h⟩
  ·rename_i hc
   have hc : ¬ 1000000000000000000 ≤ c := by simpa using hc
   have e1 := j4 hc
   have i100 : (i : Int) < 100 := by omega
   have q1 : 0 ≤ ((0 : Int) + (i : Int) + 1) * ((0 : Int) + (i : Int) + 5) ∧ ((0 : Int) + (i : Int) + 1) * ((0 : Int) + (i : Int) + 5) ≤ 101 * 105 := ⟨Int.mul_nonneg (by omega) (by omega), Int.mul_le_mul (by omega) (by omega) (by omega) (by omega)⟩
   obtain ⟨f1, f2⟩ := fdiv_le (b := 97) j3 (by omega)
   refine ⟨mul_64 (by omega) (by omega), mul_64 (by omega) (by omega), mul_64 (by omega) (by omega), by omega, mul_64 (by omega) (by omega), by omega, by omega, by omega, by simp; omega, add _ (fmod_pos hb).1 (fmod_pos hb).2, j3, j4⟩
 ·obtain ⟨j1, j2, j3, j4⟩ := J
  rw [rangeL_len] at j1
  simp only [W_bind, W_some, W_none, W_ite, W_sub, W_mul, W_fdiv, W_fdivZ, W_mod, W_pow, W_app, W_cat, W_len, W_rg1, W_rg2, W_rg3, W_ret, W_retU, W_retX, W_retXU, W_bindX, W_retO, W_noX, W_try, W_eqI, W_neI, W_eqBo, W_neBo, W_set, W_rep, W_map, W_band, W_bor, eq_self, if_true, if_false, Bool.false_eq_true, decide_eq_true_eq, and_true, true_and]
  exact ⟨by omega, j2⟩
theorem W_lend {μ ν α ρ : Type} {m : Option (TO μ α ρ)} {k : μ → Option (TO ν α ρ)} {Q : TO ν α ρ → Prop} (h : W m fun o => match o with
  | .nx b => W (k b) Q
  | .ret r => Q (.ret r)
  | _ => False) : W (seqT (borT m) k) Q := by
 rw [W_seq, W_borT]
 refine W_mono h fun o q => ?_
 cases o with
 | nx b => exact q
 | ret r => exact q
 | _ => exact q.elim
theorem enc_inj {α : Type} [Enc α] [DEq α] {a b : α} (h : enc a = enc b) : a = b := (DEq.iff a b).mp (by rw [h]; exact SeqAt.eqv_refl _ (DEq.lay b))
theorem mapG_eq {γ α β : Type} {g : γ → α} {e : α → Option β} {f : γ → β} : ∀ {us : List γ}, (∀ u ∈ us, W (e (g u)) fun x => x = f u) → mapN (us.map g) e = some (us.map f)
 | [], _ => rfl
 | u :: us, h => by
  have h1 := W_of (h u (by simp))
  have h2 := mapG_eq (g := g) (e := e) (f := f) (us := us) fun v hv => h v (by simp [hv])
  simp only [List.map_cons, mapN, h1, h2, Ty.bindSome, Option.map_some]
theorem W_mapG {γ α β : Type} {g : γ → α} {e : α → Option β} {Q : List β → Prop} (f : γ → β) {us : List γ} (h : ∀ u ∈ us, W (e (g u)) fun x => x = f u) (q : Q (us.map f)) : W (mapN (us.map g) e) Q := W_eq (mapG_eq h) q
def wl (l : List (List Int)) : List Int := (l.length : Int) :: l.flatten
theorem wl_map {R : Type} {w : R → List Int} {rs : List R} : wl (rs.map w) = wls w rs := by unfold wl wls; rw [List.length_map]
theorem put_list_spec {l : List (List Int)} (h : l.flatten.length ≤ 100000) : W (m_put_list l) fun v => v = wl l := by
 unfold m_put_list mb_put_list
 simp only [W_bind, W_some, W_none, W_ite, W_sub, W_mul, W_fdiv, W_fdivZ, W_mod, W_pow, W_app, W_cat, W_len, W_rg1, W_rg2, W_rg3, W_ret, W_retU, W_retX, W_retXU, W_bindX, W_retO, W_noX, W_try, W_eqI, W_neI, W_eqBo, W_neBo, W_set, W_rep, W_map, W_band, W_bor, eq_self, if_true, if_false, Bool.false_eq_true, decide_eq_true_eq, and_true, true_and]
 rw [W_seq]
 refine W_for (fun i s => s = (l.length : Int) :: (l.take i).flatten) (by simp) (fun i hi s J => ?_) fun s J => ?_
 ·subst J
  simp only [W_bind, W_some, W_none, W_ite, W_sub, W_mul, W_fdiv, W_fdivZ, W_mod, W_pow, W_app, W_cat, W_len, W_rg1, W_rg2, W_rg3, W_ret, W_retU, W_retX, W_retXU, W_bindX, W_retO, W_noX, W_try, W_eqI, W_neI, W_eqBo, W_neBo, W_set, W_rep, W_map, W_band, W_bor, eq_self, if_true, if_false, Bool.false_eq_true, decide_eq_true_eq, and_true, true_and]
  have e : (l.take (i + 1)).flatten = (l.take i).flatten ++ l[i] := by rw [List.take_add_one, List.getElem?_eq_getElem hi, List.flatten_append]; simp
  have le : ((l.take i).flatten ++ l[i]).length ≤ l.flatten.length := by
   rw [← e]
   have : l.flatten = (l.take (i + 1)).flatten ++ (l.drop (i + 1)).flatten := by rw [← List.flatten_append, List.take_append_drop]
   rw [this, List.length_append]; omega
  rw [List.length_append] at le
  exact ⟨by simp only [List.length_cons]; omega, by rw [e]; rfl⟩
 ·rw [J, List.take_length]
  simp only [W_bind, W_some, W_none, W_ite, W_sub, W_mul, W_fdiv, W_fdivZ, W_mod, W_pow, W_app, W_cat, W_len, W_rg1, W_rg2, W_rg3, W_ret, W_retU, W_retX, W_retXU, W_bindX, W_retO, W_noX, W_try, W_eqI, W_neI, W_eqBo, W_neBo, W_set, W_rep, W_map, W_band, W_bor, eq_self, if_true, if_false, Bool.false_eq_true, decide_eq_true_eq, and_true, true_and]
  rfl
theorem list_book_spec {l : List (List Int)} (h : l.flatten.length ≤ 100000) : W (m_law_list_book l) fun v => v = wl l := by
 unfold m_law_list_book mb_law_list_book
 simp only [W_bind, W_some, W_none, W_ite, W_sub, W_mul, W_fdiv, W_fdivZ, W_mod, W_pow, W_app, W_cat, W_len, W_rg1, W_rg2, W_rg3, W_ret, W_retU, W_retX, W_retXU, W_bindX, W_retO, W_noX, W_try, W_eqI, W_neI, W_eqBo, W_neBo, W_set, W_rep, W_map, W_band, W_bor, eq_self, if_true, if_false, Bool.false_eq_true, decide_eq_true_eq, and_true, true_and]
 rw [W_seq]
 refine W_for (fun i s => s = (l.length : Int) :: (l.take i).flatten) (by simp) (fun i hi s J => ?_) fun s J => ?_
 ·subst J
  simp only [W_bind, W_some, W_none, W_ite, W_sub, W_mul, W_fdiv, W_fdivZ, W_mod, W_pow, W_app, W_cat, W_len, W_rg1, W_rg2, W_rg3, W_ret, W_retU, W_retX, W_retXU, W_bindX, W_retO, W_noX, W_try, W_eqI, W_neI, W_eqBo, W_neBo, W_set, W_rep, W_map, W_band, W_bor, eq_self, if_true, if_false, Bool.false_eq_true, decide_eq_true_eq, and_true, true_and]
  have e : (l.take (i + 1)).flatten = (l.take i).flatten ++ l[i] := by rw [List.take_add_one, List.getElem?_eq_getElem hi, List.flatten_append]; simp
  have le : ((l.take i).flatten ++ l[i]).length ≤ l.flatten.length := by
   rw [← e]
   have : l.flatten = (l.take (i + 1)).flatten ++ (l.drop (i + 1)).flatten := by rw [← List.flatten_append, List.take_append_drop]
   rw [this, List.length_append]; omega
  rw [List.length_append] at le
  exact ⟨by simp only [List.length_cons]; omega, by rw [e]; rfl⟩
 ·rw [J, List.take_length]
  simp only [W_bind, W_some, W_none, W_ite, W_sub, W_mul, W_fdiv, W_fdivZ, W_mod, W_pow, W_app, W_cat, W_len, W_rg1, W_rg2, W_rg3, W_ret, W_retU, W_retX, W_retXU, W_bindX, W_retO, W_noX, W_try, W_eqI, W_neI, W_eqBo, W_neBo, W_set, W_rep, W_map, W_band, W_bor, eq_self, if_true, if_false, Bool.false_eq_true, decide_eq_true_eq, and_true, true_and]
  rfl
theorem put_numbers_spec {r : List Int} (h : r.length ≤ 100000) : W (m_put_numbers r) fun v => v = wcond r := by
 unfold m_put_numbers mb_put_numbers
 simp only [W_bind, W_some, W_none, W_ite, W_sub, W_mul, W_fdiv, W_fdivZ, W_mod, W_pow, W_app, W_cat, W_len, W_rg1, W_rg2, W_rg3, W_ret, W_retU, W_retX, W_retXU, W_bindX, W_retO, W_noX, W_try, W_eqI, W_neI, W_eqBo, W_neBo, W_set, W_rep, W_map, W_band, W_bor, eq_self, if_true, if_false, Bool.false_eq_true, decide_eq_true_eq, and_true, true_and]
 exact ⟨by simp; omega, rfl⟩
def trow (r : Int × List Int) : T2 Int (List Int) := ⟨r.1, r.2⟩
theorem tc_b (t : Cl) : (tc t).b = t.2.map trow := rfl
theorem tc_a (t : Cl) : (if (tc t).a.isNone = true then (some (-1) : Option Int) else (tc t).a) = some t.1 := by
 show (if (if t.1 = -1 then (none : Option Int) else some t.1).isNone = true then (some (-1) : Option Int) else (if t.1 = -1 then none else some t.1)) = _
 by_cases z : t.1 = -1
 ·simp [z]
 ·simp [z]
theorem wr_pos (r : Int × List Int) : 1 ≤ (wr r).length := by simp [wr]
theorem wc_pos (r : Cl) : 1 ≤ (wc r).length := by simp [wc]
theorem wls_pos {R : Type} {w : R → List Int} (rs : List R) : 1 ≤ (wls w rs).length := by simp [wls]
theorem wls_len {R : Type} {w : R → List Int} (rs : List R) : (wls w rs).length = 1 + ((rs.map w).flatten).length := by simp [wls]; omega
theorem put_claim_spec {t : Cl} (hl : (wc t).length ≤ 100000) : W (m_put_claim (tc t)) fun v => v = wc t := by
 have e0 : (wc t).length = 2 + ((t.2.map wr).flatten).length := by simp [wc, wls]; omega
 have fw := cnt_le wr_pos t.2
 unfold m_put_claim mb_put_claim
 simp only [W_bind, W_some, W_none, W_ite, W_sub, W_mul, W_fdiv, W_fdivZ, W_mod, W_pow, W_app, W_cat, W_len, W_rg1, W_rg2, W_rg3, W_ret, W_retU, W_retX, W_retXU, W_bindX, W_retO, W_noX, W_try, W_eqI, W_neI, W_eqBo, W_neBo, W_set, W_rep, W_map, W_band, W_bor, eq_self, if_true, if_false, Bool.false_eq_true, decide_eq_true_eq, and_true, true_and]
 rw [tc_b]
 refine ⟨by rw [List.length_map]; omega, W_mapF (fun r : T2 Int (List Int) => wr (r.a, r.b)) (fun r hr => ?_) ?_⟩
 ·obtain ⟨u, hu, rfl⟩ := List.mem_map.mp hr
  have hu2 := mem_le (w := wr) hu
  have hu3 : (wr u).length = u.2.length + 2 := by simp [wr, wcond]
  have hu4 : (trow u).b.length ≤ 100000 := by show u.2.length ≤ _; omega
  simp only [W_bind, W_some, W_none, W_ite, W_sub, W_mul, W_fdiv, W_fdivZ, W_mod, W_pow, W_app, W_cat, W_len, W_rg1, W_rg2, W_rg3, W_ret, W_retU, W_retX, W_retXU, W_bindX, W_retO, W_noX, W_try, W_eqI, W_neI, W_eqBo, W_neBo, W_set, W_rep, W_map, W_band, W_bor, eq_self, if_true, if_false, Bool.false_eq_true, decide_eq_true_eq, and_true, true_and]
  refine W_mono (put_numbers_spec hu4) fun v hv => ?_
  subst hv
  exact ⟨by unfold wcond; simp only [List.length_cons, List.length_nil]; omega, rfl⟩
 ·rw [List.map_map]
  have e : (t.2.map ((fun r : T2 Int (List Int) => wr (r.a, r.b)) ∘ trow)) = t.2.map wr := rfl
  rw [e]
  have end1 : W (m_put_list (t.2.map wr)) fun a => [t.1].length + a.length ≤ 1000000 ∧ [t.1] ++ a = wc t := by
   refine W_mono (put_list_spec (by omega)) fun v hv => ?_
   subst hv
   exact ⟨by unfold wl; simp only [List.length_cons, List.length_nil]; omega, by rw [wl_map]; rfl⟩
  have ta := tc_a t
  split
  ·rename_i hn
   rw [if_pos hn] at ta
   have e := Option.some.inj ta
   rw [e]
   exact end1
  ·rename_i hn
   rw [if_neg hn] at ta
   rw [ta]
   exact W_some.mpr end1
theorem claim_book_spec {t : Cl} (hl : (wc t).length ≤ 100000) : W (m_law_claim_book (tc t)) fun v => v = wc t := by
 have e0 : (wc t).length = 2 + ((t.2.map wr).flatten).length := by simp [wc, wls]; omega
 have fw := cnt_le wr_pos t.2
 unfold m_law_claim_book mb_law_claim_book
 simp only [W_bind, W_some, W_none, W_ite, W_sub, W_mul, W_fdiv, W_fdivZ, W_mod, W_pow, W_app, W_cat, W_len, W_rg1, W_rg2, W_rg3, W_ret, W_retU, W_retX, W_retXU, W_bindX, W_retO, W_noX, W_try, W_eqI, W_neI, W_eqBo, W_neBo, W_set, W_rep, W_map, W_band, W_bor, eq_self, if_true, if_false, Bool.false_eq_true, decide_eq_true_eq, and_true, true_and]
 rw [tc_b]
 refine ⟨by rw [List.length_map]; omega, W_mapF (fun r : T2 Int (List Int) => wr (r.a, r.b)) (fun r hr => ?_) ?_⟩
 ·obtain ⟨u, hu, rfl⟩ := List.mem_map.mp hr
  have hu2 := mem_le (w := wr) hu
  have hu3 : (wr u).length = u.2.length + 2 := by simp [wr, wcond]
  have hu4 : (trow u).b.length ≤ 100000 := by show u.2.length ≤ _; omega
  simp only [W_bind, W_some, W_none, W_ite, W_sub, W_mul, W_fdiv, W_fdivZ, W_mod, W_pow, W_app, W_cat, W_len, W_rg1, W_rg2, W_rg3, W_ret, W_retU, W_retX, W_retXU, W_bindX, W_retO, W_noX, W_try, W_eqI, W_neI, W_eqBo, W_neBo, W_set, W_rep, W_map, W_band, W_bor, eq_self, if_true, if_false, Bool.false_eq_true, decide_eq_true_eq, and_true, true_and]
  refine ⟨by simp, by simp; omega, rfl⟩
 ·rw [List.map_map]
  have e : (t.2.map ((fun r : T2 Int (List Int) => wr (r.a, r.b)) ∘ trow)) = t.2.map wr := rfl
  rw [e]
  have end1 : W (m_law_list_book (t.2.map wr)) fun a => [t.1].length + a.length ≤ 1000000 ∧ [t.1] ++ a = wc t := by
   refine W_mono (list_book_spec (by omega)) fun v hv => ?_
   subst hv
   exact ⟨by unfold wl; simp only [List.length_cons, List.length_nil]; omega, by rw [wl_map]; rfl⟩
  have ta := tc_a t
  split
  ·rename_i hn
   rw [if_pos hn] at ta
   have e := Option.some.inj ta
   rw [e]
   exact end1
  ·rename_i hn
   rw [if_neg hn] at ta
   rw [ta]
   exact W_some.mpr end1
theorem put_claims_spec {cs : List Cl} (hl : (wclaims cs).length ≤ 100000) : W (m_put_claims (cs.map tc)) fun v => v = wclaims cs := by
 have e0 : (wclaims cs).length = 1 + ((cs.map wc).flatten).length := wls_len cs
 have h1 := cnt_le wc_pos cs
 unfold m_put_claims mb_put_claims
 simp only [W_bind, W_some, W_none, W_ite, W_sub, W_mul, W_fdiv, W_fdivZ, W_mod, W_pow, W_app, W_cat, W_len, W_rg1, W_rg2, W_rg3, W_ret, W_retU, W_retX, W_retXU, W_bindX, W_retO, W_noX, W_try, W_eqI, W_neI, W_eqBo, W_neBo, W_set, W_rep, W_map, W_band, W_bor, eq_self, if_true, if_false, Bool.false_eq_true, decide_eq_true_eq, and_true, true_and]
 refine ⟨by rw [List.length_map]; omega, W_mapG wc (fun u hu => ?_) ?_⟩
 ·have := mem_le (w := wc) hu
  exact put_claim_spec (by omega)
 ·refine W_mono (put_list_spec (by omega)) fun v hv => ?_
  subst hv
  rw [wl_map]
theorem grp_spec {css : List (List Cl)} (hl : (wrows css).length ≤ 100000) {Q : List Int → Prop} (q : Q (wrows css)) : (css.map (List.map tc)).length ≤ 1000000 ∧ W (mapN (css.map (List.map tc)) fun claims_ => ((some claims_).bind fun x0 => m_put_claims x0)) fun x0 => W (m_put_list x0) Q := by
 have e0 : (wrows css).length = 1 + ((css.map wclaims).flatten).length := wls_len css
 have h1 := cnt_le (w := wclaims) wls_pos css
 refine ⟨by rw [List.length_map]; omega, W_mapG wclaims (fun u hu => ?_) ?_⟩
 ·simp only [W_bind, W_some, W_none, W_ite, W_sub, W_mul, W_fdiv, W_fdivZ, W_mod, W_pow, W_app, W_cat, W_len, W_rg1, W_rg2, W_rg3, W_ret, W_retU, W_retX, W_retXU, W_bindX, W_retO, W_noX, W_try, W_eqI, W_neI, W_eqBo, W_neBo, W_set, W_rep, W_map, W_band, W_bor, eq_self, if_true, if_false, Bool.false_eq_true, decide_eq_true_eq, and_true, true_and]
  have := mem_le (w := wclaims) hu
  exact put_claims_spec (by omega)
 ·refine W_mono (put_list_spec (by omega)) fun v hv => ?_
  subst hv
  rw [wl_map]
  exact q
theorem lgrp_spec {css : List (List Cl)} (hl : (wrows css).length ≤ 100000) {Q : List Int → Prop} (q : Q (wrows css)) : (css.map (List.map tc)).length ≤ 1000000 ∧ W (mapN (css.map (List.map tc)) fun part_1 => (((some part_1).bind fun l => (lenN l).bind fun l => mapN l fun claim_here_1 => ((some claim_here_1).bind fun x0 => m_law_claim_book x0)).bind fun x0 => m_law_list_book x0)) fun x0 => W (m_law_list_book x0) Q := by
 have e0 : (wrows css).length = 1 + ((css.map wclaims).flatten).length := wls_len css
 have h1 := cnt_le (w := wclaims) wls_pos css
 refine ⟨by rw [List.length_map]; omega, W_mapG wclaims (fun u hu => ?_) ?_⟩
 ·simp only [W_bind, W_some, W_none, W_ite, W_sub, W_mul, W_fdiv, W_fdivZ, W_mod, W_pow, W_app, W_cat, W_len, W_rg1, W_rg2, W_rg3, W_ret, W_retU, W_retX, W_retXU, W_bindX, W_retO, W_noX, W_try, W_eqI, W_neI, W_eqBo, W_neBo, W_set, W_rep, W_map, W_band, W_bor, eq_self, if_true, if_false, Bool.false_eq_true, decide_eq_true_eq, and_true, true_and]
  have m1 := mem_le (w := wclaims) hu
  have e1 : (wclaims u).length = 1 + ((u.map wc).flatten).length := wls_len u
  have h2 := cnt_le wc_pos u
  refine ⟨by rw [List.length_map]; omega, W_mapG wc (fun c hc => ?_) ?_⟩
  ·have m2 := mem_le (w := wc) hc
   exact claim_book_spec (by omega)
  ·refine W_mono (list_book_spec (by omega)) fun v hv => ?_
   subst hv
   rw [wl_map]
 ·refine W_mono (list_book_spec (by omega)) fun v hv => ?_
  subst hv
  rw [wl_map]
  exact q
theorem wcond_pos (r : List Int) : 1 ≤ (wcond r).length := by simp [wcond]
theorem there_spec {ps : List (List (List Int))} (hl : (wthere ps).length ≤ 100000) {Q : List Int → Prop} (q : Q (wthere ps)) : ps.length ≤ 1000000 ∧ W (mapN ps fun piece_ => (((some piece_).bind fun l => (lenN l).bind fun l => mapN l fun one_ => ((some one_).bind fun x0 => m_put_numbers x0)).bind fun x0 => m_put_list x0)) fun x0 => W (m_put_list x0) Q := by
 have e0 : (wthere ps).length = 1 + ((ps.map wpiece).flatten).length := wls_len ps
 have h1 := cnt_le (w := wpiece) wls_pos ps
 refine ⟨by omega, W_mapF wpiece (fun u hu => ?_) ?_⟩
 ·simp only [W_bind, W_some, W_none, W_ite, W_sub, W_mul, W_fdiv, W_fdivZ, W_mod, W_pow, W_app, W_cat, W_len, W_rg1, W_rg2, W_rg3, W_ret, W_retU, W_retX, W_retXU, W_bindX, W_retO, W_noX, W_try, W_eqI, W_neI, W_eqBo, W_neBo, W_set, W_rep, W_map, W_band, W_bor, eq_self, if_true, if_false, Bool.false_eq_true, decide_eq_true_eq, and_true, true_and]
  have m1 := mem_le (w := wpiece) hu
  have e1 : (wpiece u).length = 1 + ((u.map wcond).flatten).length := wls_len u
  have h2 := cnt_le wcond_pos u
  refine ⟨by omega, W_mapF wcond (fun c hc => ?_) ?_⟩
  ·simp only [W_bind, W_some, W_none, W_ite, W_sub, W_mul, W_fdiv, W_fdivZ, W_mod, W_pow, W_app, W_cat, W_len, W_rg1, W_rg2, W_rg3, W_ret, W_retU, W_retX, W_retXU, W_bindX, W_retO, W_noX, W_try, W_eqI, W_neI, W_eqBo, W_neBo, W_set, W_rep, W_map, W_band, W_bor, eq_self, if_true, if_false, Bool.false_eq_true, decide_eq_true_eq, and_true, true_and]
   have m2 := mem_le (w := wcond) hc
   have e2 : (wcond c).length = c.length + 1 := by simp [wcond]
   exact put_numbers_spec (by omega)
  ·refine W_mono (put_list_spec (by omega)) fun v hv => ?_
   subst hv
   rw [wl_map]
 ·refine W_mono (put_list_spec (by omega)) fun v hv => ?_
  subst hv
  rw [wl_map]
  exact q
theorem book_len (c : Ct) : (book c).length = (wls wthere c.1).length + (wclaims c.2.1).length + (wrows c.2.2.1).length + (wrows c.2.2.2.1).length + (wrows c.2.2.2.2).length := by
 unfold book
 simp only [List.length_append]
theorem write_spec {c : Ct} (hl : (book c).length ≤ 90000) : W (m_write_book (tct c)) fun v => v = book c := by
 rw [book_len] at hl
 obtain ⟨pss, st, wa, ju, en⟩ := c
 dsimp only at hl
 have e0 := wls_len (w := wthere) pss
 have h1 := cnt_le (w := wthere) wls_pos pss
 unfold m_write_book mb_write_book
 simp only [W_bind, W_some, W_none, W_ite, W_sub, W_mul, W_fdiv, W_fdivZ, W_mod, W_pow, W_app, W_cat, W_len, W_rg1, W_rg2, W_rg3, W_ret, W_retU, W_retX, W_retXU, W_bindX, W_retO, W_noX, W_try, W_eqI, W_neI, W_eqBo, W_neBo, W_set, W_rep, W_map, W_band, W_bor, eq_self, if_true, if_false, Bool.false_eq_true, decide_eq_true_eq, and_true, true_and]
 rw [W_seq]
 refine W_for (fun i s => s = (pss.take i).map wthere) (by simp) (fun i hi s J => ?_) fun s J => ?_
 ·subst J
  have hi : i < pss.length := hi
  have hm : pss[i] ∈ pss := List.getElem_mem hi
  have m1 := mem_le (w := wthere) hm
  simp only [W_bind, W_some, W_none, W_ite, W_sub, W_mul, W_fdiv, W_fdivZ, W_mod, W_pow, W_app, W_cat, W_len, W_rg1, W_rg2, W_rg3, W_ret, W_retU, W_retX, W_retXU, W_bindX, W_retO, W_noX, W_try, W_eqI, W_neI, W_eqBo, W_neBo, W_set, W_rep, W_map, W_band, W_bor, eq_self, if_true, if_false, Bool.false_eq_true, decide_eq_true_eq, and_true, true_and]
  have e : (pss.take (i + 1)).map wthere = (pss.take i).map wthere ++ [wthere pss[i]] := by rw [List.take_add_one, List.getElem?_eq_getElem hi, List.map_append]; rfl
  rw [e]
  exact there_spec (ps := pss[i]) (by omega) ⟨by rw [List.length_map, List.length_take]; omega, rfl⟩
 ·have J : s = pss.map wthere := by rw [J]; show (pss.take pss.length).map wthere = _; rw [List.take_length]
  subst J
  simp only [W_bind, W_some, W_none, W_ite, W_sub, W_mul, W_fdiv, W_fdivZ, W_mod, W_pow, W_app, W_cat, W_len, W_rg1, W_rg2, W_rg3, W_ret, W_retU, W_retX, W_retXU, W_bindX, W_retO, W_noX, W_try, W_eqI, W_neI, W_eqBo, W_neBo, W_set, W_rep, W_map, W_band, W_bor, eq_self, if_true, if_false, Bool.false_eq_true, decide_eq_true_eq, and_true, true_and]
  refine W_mono (put_list_spec (by omega)) fun v hv => ?_
  subst hv
  rw [wl_map]
  refine W_mono (put_claims_spec (cs := st) (by omega)) fun v hv => ?_
  subst hv
  refine ⟨by omega, ?_⟩
  rw [W_seq]
  refine W_for (fun i s => s = wls wthere pss ++ wclaims st ++ ([wrows wa, wrows ju, wrows en].take i).flatten) (by simp) (fun i hi s J => ?_) fun s J => ?_
  ·subst J
   have hi2 : i < 3 := hi
   have c : i = 0 ∨ i = 1 ∨ i = 2 := by omega
   rcases c with rfl | rfl | rfl
   ·simp only [W_bind, W_some, W_none, W_ite, W_sub, W_mul, W_fdiv, W_fdivZ, W_mod, W_pow, W_app, W_cat, W_len, W_rg1, W_rg2, W_rg3, W_ret, W_retU, W_retX, W_retXU, W_bindX, W_retO, W_noX, W_try, W_eqI, W_neI, W_eqBo, W_neBo, W_set, W_rep, W_map, W_band, W_bor, eq_self, if_true, if_false, Bool.false_eq_true, decide_eq_true_eq, and_true, true_and]
    refine grp_spec (css := wa) (by omega) ⟨by simp only [List.length_append, List.take_zero, List.flatten_nil, List.length_nil]; omega, by simp⟩
   ·simp only [W_bind, W_some, W_none, W_ite, W_sub, W_mul, W_fdiv, W_fdivZ, W_mod, W_pow, W_app, W_cat, W_len, W_rg1, W_rg2, W_rg3, W_ret, W_retU, W_retX, W_retXU, W_bindX, W_retO, W_noX, W_try, W_eqI, W_neI, W_eqBo, W_neBo, W_set, W_rep, W_map, W_band, W_bor, eq_self, if_true, if_false, Bool.false_eq_true, decide_eq_true_eq, and_true, true_and]
    refine grp_spec (css := ju) (by omega) ⟨by simp only [List.take, List.flatten_cons, List.flatten_nil, List.append_nil, List.length_append]; omega, by simp⟩
   ·simp only [W_bind, W_some, W_none, W_ite, W_sub, W_mul, W_fdiv, W_fdivZ, W_mod, W_pow, W_app, W_cat, W_len, W_rg1, W_rg2, W_rg3, W_ret, W_retU, W_retX, W_retXU, W_bindX, W_retO, W_noX, W_try, W_eqI, W_neI, W_eqBo, W_neBo, W_set, W_rep, W_map, W_band, W_bor, eq_self, if_true, if_false, Bool.false_eq_true, decide_eq_true_eq, and_true, true_and]
    refine grp_spec (css := en) (by omega) ⟨by simp only [List.take, List.flatten_cons, List.flatten_nil, List.append_nil, List.length_append]; omega, by simp⟩
  ·rw [J]
   show W (some (TO.ret _)) _
   simp only [W_bind, W_some, W_none, W_ite, W_sub, W_mul, W_fdiv, W_fdivZ, W_mod, W_pow, W_app, W_cat, W_len, W_rg1, W_rg2, W_rg3, W_ret, W_retU, W_retX, W_retXU, W_bindX, W_retO, W_noX, W_try, W_eqI, W_neI, W_eqBo, W_neBo, W_set, W_rep, W_map, W_band, W_bor, eq_self, if_true, if_false, Bool.false_eq_true, decide_eq_true_eq, and_true, true_and]
   unfold book
   simp
theorem book_spec {c : Ct} (hl : (book c).length ≤ 90000) : W (m_law_book (tct c)) fun v => v = book c := by
 rw [book_len] at hl
 obtain ⟨pss, st, wa, ju, en⟩ := c
 dsimp only at hl
 have e0 := wls_len (w := wthere) pss
 have h1 := cnt_le (w := wthere) wls_pos pss
 have e1 : (wclaims st).length = 1 + ((st.map wc).flatten).length := wls_len st
 have h2 := cnt_le wc_pos st
 unfold m_law_book mb_law_book
 simp only [W_bind, W_some, W_none, W_ite, W_sub, W_mul, W_fdiv, W_fdivZ, W_mod, W_pow, W_app, W_cat, W_len, W_rg1, W_rg2, W_rg3, W_ret, W_retU, W_retX, W_retXU, W_bindX, W_retO, W_noX, W_try, W_eqI, W_neI, W_eqBo, W_neBo, W_set, W_rep, W_map, W_band, W_bor, eq_self, if_true, if_false, Bool.false_eq_true, decide_eq_true_eq, and_true, true_and]
 have lp : (tct (pss, st, wa, ju, en)).a.length ≤ 1000000 := by show pss.length ≤ _; omega
 refine ⟨lp, W_mapF wthere (fun ps hps => ?_) ?_⟩
 ·have hps : ps ∈ pss := hps
  have m1 := mem_le (w := wthere) hps
  have e2 : (wthere ps).length = 1 + ((ps.map wpiece).flatten).length := wls_len ps
  have h3 := cnt_le (w := wpiece) wls_pos ps
  simp only [W_bind, W_some, W_none, W_ite, W_sub, W_mul, W_fdiv, W_fdivZ, W_mod, W_pow, W_app, W_cat, W_len, W_rg1, W_rg2, W_rg3, W_ret, W_retU, W_retX, W_retXU, W_bindX, W_retO, W_noX, W_try, W_eqI, W_neI, W_eqBo, W_neBo, W_set, W_rep, W_map, W_band, W_bor, eq_self, if_true, if_false, Bool.false_eq_true, decide_eq_true_eq, and_true, true_and]
  refine ⟨by omega, W_mapF wpiece (fun u hu => ?_) ?_⟩
  ·have m2 := mem_le (w := wpiece) hu
   have e3 : (wpiece u).length = 1 + ((u.map wcond).flatten).length := wls_len u
   have h4 := cnt_le wcond_pos u
   simp only [W_bind, W_some, W_none, W_ite, W_sub, W_mul, W_fdiv, W_fdivZ, W_mod, W_pow, W_app, W_cat, W_len, W_rg1, W_rg2, W_rg3, W_ret, W_retU, W_retX, W_retXU, W_bindX, W_retO, W_noX, W_try, W_eqI, W_neI, W_eqBo, W_neBo, W_set, W_rep, W_map, W_band, W_bor, eq_self, if_true, if_false, Bool.false_eq_true, decide_eq_true_eq, and_true, true_and]
   refine ⟨by omega, W_mapF wcond (fun c hc => ?_) ?_⟩
   ·simp only [W_bind, W_some, W_none, W_ite, W_sub, W_mul, W_fdiv, W_fdivZ, W_mod, W_pow, W_app, W_cat, W_len, W_rg1, W_rg2, W_rg3, W_ret, W_retU, W_retX, W_retXU, W_bindX, W_retO, W_noX, W_try, W_eqI, W_neI, W_eqBo, W_neBo, W_set, W_rep, W_map, W_band, W_bor, eq_self, if_true, if_false, Bool.false_eq_true, decide_eq_true_eq, and_true, true_and]
    have m3 := mem_le (w := wcond) hc
    have e4 : (wcond c).length = c.length + 1 := by simp [wcond]
    exact ⟨by simp; omega, rfl⟩
   ·refine W_mono (list_book_spec (by omega)) fun v hv => ?_
    subst hv
    rw [wl_map]
  ·refine W_mono (list_book_spec (by omega)) fun v hv => ?_
   subst hv
   rw [wl_map]
 have e0' : (tct (pss, st, wa, ju, en)).a.map wthere = pss.map wthere := rfl
 rw [e0']
 refine W_mono (list_book_spec (by omega)) fun v hv => ?_
 subst hv
 rw [wl_map]
 have eb : (tct (pss, st, wa, ju, en)).b = st.map tc := rfl
 rw [eb]
 refine ⟨by rw [List.length_map]; omega, W_mapG wc (fun c hc => ?_) ?_⟩
 ·have m2 := mem_le (w := wc) hc
  exact claim_book_spec (by omega)
 refine W_mono (list_book_spec (by omega)) fun v hv => ?_
 subst hv
 rw [wl_map]
 have e1b : (wls wc st).length = (wclaims st).length := rfl
 refine ⟨by omega, ?_⟩
 rw [W_seq]
 refine W_for (fun i s => s = wls wthere pss ++ wclaims st ++ ([wrows wa, wrows ju, wrows en].take i).flatten) (by simp) (fun i hi s J => ?_) fun s J => ?_
 ·subst J
  have hi2 : i < 3 := hi
  have c : i = 0 ∨ i = 1 ∨ i = 2 := by omega
  rcases c with rfl | rfl | rfl
  ·simp only [W_bind, W_some, W_none, W_ite, W_sub, W_mul, W_fdiv, W_fdivZ, W_mod, W_pow, W_app, W_cat, W_len, W_rg1, W_rg2, W_rg3, W_ret, W_retU, W_retX, W_retXU, W_bindX, W_retO, W_noX, W_try, W_eqI, W_neI, W_eqBo, W_neBo, W_set, W_rep, W_map, W_band, W_bor, eq_self, if_true, if_false, Bool.false_eq_true, decide_eq_true_eq, and_true, true_and]
   refine lgrp_spec (css := wa) (by omega) ⟨by simp only [List.length_append, List.take_zero, List.flatten_nil, List.length_nil]; omega, by simp⟩
  ·simp only [W_bind, W_some, W_none, W_ite, W_sub, W_mul, W_fdiv, W_fdivZ, W_mod, W_pow, W_app, W_cat, W_len, W_rg1, W_rg2, W_rg3, W_ret, W_retU, W_retX, W_retXU, W_bindX, W_retO, W_noX, W_try, W_eqI, W_neI, W_eqBo, W_neBo, W_set, W_rep, W_map, W_band, W_bor, eq_self, if_true, if_false, Bool.false_eq_true, decide_eq_true_eq, and_true, true_and]
   refine lgrp_spec (css := ju) (by omega) ⟨by simp only [List.take, List.flatten_cons, List.flatten_nil, List.append_nil, List.length_append]; omega, by simp⟩
  ·simp only [W_bind, W_some, W_none, W_ite, W_sub, W_mul, W_fdiv, W_fdivZ, W_mod, W_pow, W_app, W_cat, W_len, W_rg1, W_rg2, W_rg3, W_ret, W_retU, W_retX, W_retXU, W_bindX, W_retO, W_noX, W_try, W_eqI, W_neI, W_eqBo, W_neBo, W_set, W_rep, W_map, W_band, W_bor, eq_self, if_true, if_false, Bool.false_eq_true, decide_eq_true_eq, and_true, true_and]
   refine lgrp_spec (css := en) (by omega) ⟨by simp only [List.take, List.flatten_cons, List.flatten_nil, List.append_nil, List.length_append]; omega, by simp⟩
 ·rw [J]
  show W (some (TO.ret _)) _
  simp only [W_bind, W_some, W_none, W_ite, W_sub, W_mul, W_fdiv, W_fdivZ, W_mod, W_pow, W_app, W_cat, W_len, W_rg1, W_rg2, W_rg3, W_ret, W_retU, W_retX, W_retXU, W_bindX, W_retO, W_noX, W_try, W_eqI, W_neI, W_eqBo, W_neBo, W_set, W_rep, W_map, W_band, W_bor, eq_self, if_true, if_false, Bool.false_eq_true, decide_eq_true_eq, and_true, true_and]
  unfold book
  simp
theorem wls_le {R : Type} {w : R → List Int} {rs : List R} {b m : Nat} (h : ∀ x ∈ rs, (w x).length ≤ b) (hm : rs.length ≤ m) : (wls w rs).length ≤ 1 + m * b := by
 rw [wls_len]
 have : ((rs.map w).flatten).length ≤ rs.length * b := by
  clear hm
  induction rs with
  | nil => simp
  | cons x rs ih =>
   have h1 := h x (by simp)
   have h2 := ih fun y hy => h y (by simp [hy])
   simp only [List.map_cons, List.flatten_cons, List.length_append, List.length_cons, Nat.add_mul]
   omega
 have := Nat.mul_le_mul_right b hm
 omega
theorem ct_good {n : Nat} {pss : Pcs} {st : List Cl} {wa ju en : List (List Cl)} (hn : n ≤ 3) (h : CtOk n pss st wa ju en) : Good (n : Int) (pss, st, wa, ju, en) ∧ (book (pss, st, wa, ju, en)).length ≤ 300 := by
 have c1 : ∀ {cs : List Cl}, ClsOk cs → (wclaims cs).length ≤ 25 := fun {cs} h => by
  have : (wclaims cs).length ≤ 1 + 2 * 12 := wls_le (fun t ht => by
   have T := h.2 t ht
   have : (wls wr t.2).length ≤ 1 + 2 * 5 := wls_le (fun r hr => by have := (T.row r hr).2.1; simp [wr, wcond]; omega) T.few
   show (t.1 :: wls wr t.2).length ≤ 12
   rw [List.length_cons]; omega) h.1
  omega
 have c2 : ∀ {css : List (List Cl)}, RowsOk css → (wrows css).length ≤ 51 := fun {css} h => by
  have : (wrows css).length ≤ 1 + 2 * 25 := wls_le (fun cs hcs => c1 (h.2 cs hcs)) h.1
  omega
 have c3 : (wls wthere pss).length ≤ 1 + 2 * 23 := wls_le (fun ps hps => by
  have : (wthere ps).length ≤ 1 + 2 * 11 := wls_le (fun rs hrs => by
   have : (wpiece rs).length ≤ 1 + 2 * 5 := wls_le (fun r hr => by have := (((h.pc ps hps).2 rs hrs).2 r hr).1; simp [wcond]; omega) ((h.pc ps hps).2 rs hrs).1
   omega) (h.pc ps hps).1
  omega) h.few
 refine ⟨⟨fun ps hps rs hrs r hr => by have := (((h.pc ps hps).2 rs hrs).2 r hr).1; omega, fun t ht => (h.st.2 t ht).ix.1, fun cs hcs t ht => ((h.wa.2 cs hcs).2 t ht).ix.1, fun cs hcs t ht => ((h.ju.2 cs hcs).2 t ht).ix.1, fun cs hcs t ht => ((h.en.2 cs hcs).2 t ht).ix.1⟩, ?_⟩
 rw [book_len]
 have := c1 h.st
 have := c2 h.wa
 have := c2 h.ju
 have := c2 h.en
 dsimp only
 omega
theorem cert_spec {T : List Int} {n : Nat} (hT : 0 < T.length) (hn : n ≤ 3) : W (m_law_certificate T (n : Int)) fun v => ∃ c, v = tct c ∧ Good (n : Int) c ∧ (book c).length ≤ 300 := by
 obtain ⟨pss, st, wa, ju, en, p', ok, r⟩ := ct_ok hT (p := 0) (n := n) (by omega) (by omega)
 obtain ⟨g, l⟩ := ct_good hn ok
 have e0 : (PyData.tuple [.list (pss.map dthere), dclaims st, drows wa, drows ju, drows en]) = enc (tct (pss, st, wa, ju, en)) := by rw [enc_ct]; rfl
 rw [e0] at r
 have rb : ∃ v, LwC T (n : Int) v := ⟨tct (pss, st, wa, ju, en), _, _, r⟩
 unfold m_law_certificate
 rw [dif_pos rb]
 refine W_some.mpr ⟨(pss, st, wa, ju, en), ?_, g, l⟩
 obtain ⟨u, u', hd⟩ := Classical.choose_spec rb
 have hd : g_law_certificate [some (.flat [lI T, .int 0]), some (.sh (.int (n : Int)))] = _ := hd
 rw [r] at hd
 have e : OV.sh (enc (tct (pss, st, wa, ju, en))) = OV.sh (enc (Classical.choose rb)) := by
  have := Option.some.inj hd
  injection this
 have e2 : enc (tct (pss, st, wa, ju, en)) = enc (Classical.choose rb) := by injection e
 exact (enc_inj e2).symm
theorem isc_spec {n : Int} {c : Ct} (g : Good n c) (hl : (book c).length ≤ 90000) : W (m_law_is_certificate (tct c) n) fun b => b = true := by
 rw [book_len] at hl
 have l1 := cnt_le (w := wclaims) wls_pos c.2.2.1
 have l2 := cnt_le (w := wclaims) wls_pos c.2.2.2.1
 have l3 := cnt_le (w := wclaims) wls_pos c.2.2.2.2
 have e1 : (wrows c.2.2.1).length = 1 + ((c.2.2.1.map wclaims).flatten).length := wls_len _
 have e2 : (wrows c.2.2.2.1).length = 1 + ((c.2.2.2.1.map wclaims).flatten).length := wls_len _
 have e3 : (wrows c.2.2.2.2).length = 1 + ((c.2.2.2.2.map wclaims).flatten).length := wls_len _
 obtain ⟨d, hd⟩ := is_cert g (by omega)
 have hd : g_law_is_certificate (shs [dct c, .int n]) = _ := hd
 rw [← enc_ct] at hd
 have h : ∃ b, IsC (tct c) n b := ⟨true, d, hd⟩
 unfold m_law_is_certificate
 rw [dif_pos h]
 refine W_some.mpr ?_
 obtain ⟨d', hd'⟩ := Classical.choose_spec h
 have hd' : g_law_is_certificate (shs [enc (tct c), .int n]) = _ := hd'
 rw [hd] at hd'
 have e := Option.some.inj hd'
 injection e with e4 e5
 injection e4 with e6
 injection e6 with e7
 exact e7.symm
theorem told_spec {xs : List Int} {n : Int} (hl : xs.length ≤ 1000000) : W (m_law_told xs n) fun v => v = (pBook n xs).map tct := by
 unfold m_law_told
 rw [if_pos hl]
 exact W_some.mpr rfl
theorem changed_spec {b : List Int} {cell : Int} (hb : 0 < b.length) (hl : b.length ≤ 300) : W (m_law_changed b cell) fun v => v.length ≤ 700 := by
 have cl : ∀ {lo hi : Option Int}, (cutN b lo hi).length ≤ 300 := fun {lo hi} => by
  unfold cutN
  simp only [List.length_take, List.length_drop]
  omega
 have p18 : (10 : Int) ^ (18 : Int).toNat = 1000000000000000000 := by decide
 unfold m_law_changed mb_law_changed
 simp only [W_bind, W_some, W_none, W_ite, W_sub, W_mul, W_fdiv, W_fdivZ, W_mod, W_pow, W_app, W_cat, W_len, W_rg1, W_rg2, W_rg3, W_ret, W_retU, W_retX, W_retXU, W_bindX, W_retO, W_noX, W_try, W_eqI, W_neI, W_eqBo, W_neBo, W_set, W_rep, W_map, W_band, W_bor, eq_self, if_true, if_false, Bool.false_eq_true, decide_eq_true_eq, and_true, true_and]
 have pa := fmod_pos (a := cell.fdiv 5) (b := (b.length : Int)) (by omega)
 have p4 := fmod_pos (a := cell.fdiv 3) (b := 4) (by omega)
 have k1 := @cl none (some ((cell.fdiv 5).fmod (b.length : Int)))
 have k2 := @cl (some ((cell.fdiv 5).fmod (b.length : Int) + 1)) none
 have k3 := @cl (some ((cell.fdiv 5).fmod (b.length : Int))) none
 refine ⟨by omega, by omega, by omega, by omega, W_at pa.1 pa.2 fun h => ⟨pow_ok (by omega) (by omega) (by decide), by omega, by omega, W_at p4.1 p4.2 fun h2 => ⟨by omega, ?_⟩⟩⟩
 have key : ∀ x : Int, ([x] : List Int).length = 1 := fun _ => rfl
 split
 ·exact ⟨by rw [key]; omega, by rw [List.length_append, key]; omega, by rw [List.length_append, List.length_append, key]; omega⟩
 refine ⟨by omega, ?_⟩
 split
 ·exact ⟨by omega, by rw [List.length_append]; omega⟩
 refine ⟨by omega, ?_⟩
 split
 ·exact ⟨by rw [key]; omega, by rw [List.length_append, key]; omega, by rw [List.length_append, List.length_append, key]; omega⟩
 refine ⟨by omega, ?_⟩
 split
 ·omega
 ·exact ⟨by rw [key]; omega, by rw [List.length_append, key]; omega⟩
end Lw
set_option Elab.async false
set_option linter.all false
set_option maxRecDepth 100000
set_option maxHeartbeats 2000000
namespace Lw
open PySem PySem.Spec L2 Fx Ty
theorem fm {a b : Int} {c : Int} (h : 0 < b) (hc : b ≤ c) : 0 ≤ a.fmod b ∧ a.fmod b < c := by have := fmod_pos (a := a) h; omega
theorem law_ok (s : List Int) (hl : s.length ≤ 63) : W (m_law s) fun b => b = true := by
 unfold m_law mb_law
 simp only [W_bind, W_some, W_none, W_ite, W_sub, W_mul, W_fdiv, W_fdivZ, W_mod, W_pow, W_app, W_cat, W_len, W_rg1, W_rg2, W_rg3, W_ret, W_retU, W_retX, W_retXU, W_bindX, W_retO, W_noX, W_try, W_eqI, W_neI, W_eqBo, W_neBo, W_set, W_rep, W_map, W_band, W_bor, eq_self, if_true, if_false, Bool.false_eq_true, decide_eq_true_eq, and_true, true_and]
 refine ⟨sm62 (by split <;> omega) (by split <;> omega), ?_⟩
 rw [W_seq]
 refine W_for (fun _ _ => True) trivial (fun i hi st _ => ?_) fun _ _ => by simp only [W_bind, W_some, W_none, W_ite, W_sub, W_mul, W_fdiv, W_fdivZ, W_mod, W_pow, W_app, W_cat, W_len, W_rg1, W_rg2, W_rg3, W_ret, W_retU, W_retX, W_retXU, W_bindX, W_retO, W_noX, W_try, W_eqI, W_neI, W_eqBo, W_neBo, W_set, W_rep, W_map, W_band, W_bor, eq_self, if_true, if_false, Bool.false_eq_true, decide_eq_true_eq, and_true, true_and]
 have hi2 := hi
 rw [rangeL_len] at hi2
 rw [rangeL_get hi]
 simp only [W_bind, W_some, W_none, W_ite, W_sub, W_mul, W_fdiv, W_fdivZ, W_mod, W_pow, W_app, W_cat, W_len, W_rg1, W_rg2, W_rg3, W_ret, W_retU, W_retX, W_retXU, W_bindX, W_retO, W_noX, W_try, W_eqI, W_neI, W_eqBo, W_neBo, W_set, W_rep, W_map, W_band, W_bor, eq_self, if_true, if_false, Bool.false_eq_true, decide_eq_true_eq, and_true, true_and]
 refine W_mono (cell0 s _ (by omega)) fun c0 hc0 => ⟨mul_64 (by omega) (by split at hi2 <;> omega), by omega, ?_⟩
 have hi6 : (i : Int) ≤ 5 := by split at hi2 <;> omega
 have hcl : 0 ≤ c0 + 3 * (0 + (i : Int)) := by omega
 generalize c0 + 3 * (0 + (i : Int)) = cell at hcl ⊢
 have pn := fm (a := cell) (b := 4) (c := 4) (by omega) (by omega)
 obtain ⟨n, hn⟩ : ∃ n : Nat, cell.fmod 4 = (n : Int) := ⟨(cell.fmod 4).toNat, by omega⟩
 rw [hn]
 have n3 : n ≤ 3 := by omega
 refine ⟨by omega, W_mono (digits_spec (m := 60) (cell.fdiv 4) 27720 (fdiv_le hcl (by omega)).1 (by omega) (by omega)) fun T hT => ?_⟩
 refine W_mono (cert_spec (T := T) (n := n) (by rw [hT.1]; omega) n3) fun v hv => ?_
 obtain ⟨c, rfl, hg, hb⟩ := hv
 refine W_mono (book_spec (c := c) (by omega)) fun b hbk => ?_
 subst hbk
 have bp : 0 < (book c).length := by rw [book_len]; have := wls_pos (w := wthere) c.1; omega
 refine ⟨by omega, W_mono (changed_spec bp hb) fun b1 l1 => ⟨by omega, W_mono (changed_spec bp hb) fun b2 l2 => ⟨by omega, by omega, by omega, ?_⟩⟩⟩
 have p41 := fm (a := cell.fdiv 3) (b := 41) (c := 41) (by omega) (by omega)
 obtain ⟨q, hq⟩ : ∃ q : Nat, (cell.fdiv 3).fmod 41 = (q : Int) := ⟨((cell.fdiv 3).fmod 41).toNat, by omega⟩
 rw [hq]
 refine W_mono (digits_spec (m := q) (cell.fdiv 9 + 1) 27720 (by have := (fdiv_le (b := 9) hcl (by omega)).1; omega) (by omega) (by omega)) fun D hD => ?_
 have p8 := fm (a := cell.fdiv 5) (b := 8) (c := 8) (by omega) (by omega)
 refine ⟨by rw [hD.1]; omega, W_mapF (fun d => d.fmod 5 - ((d.fdiv 5).fmod 9).fdiv 8 * 6) (fun d hd => ?_) ?_⟩
 ·have k1 := fm (a := d.fdiv 5) (b := 9) (c := 9) (by omega) (by omega)
  have k2 := fdiv_le (x := (d.fdiv 5).fmod 9) (b := 8) k1.1 (by omega)
  simp only [W_bind, W_some, W_none, W_ite, W_sub, W_mul, W_fdiv, W_fdivZ, W_mod, W_pow, W_app, W_cat, W_len, W_rg1, W_rg2, W_rg3, W_ret, W_retU, W_retX, W_retXU, W_bindX, W_retO, W_noX, W_try, W_eqI, W_neI, W_eqBo, W_neBo, W_set, W_rep, W_map, W_band, W_bor, eq_self, if_true, if_false, Bool.false_eq_true, decide_eq_true_eq, and_true, true_and]
  repeat' apply And.intro
  all_goals first | omega | exact mul_64 (by omega) (by omega) | rfl
 generalize hdl : (D.map fun d => d.fmod 5 - ((d.fdiv 5).fmod 9).fdiv 8 * 6) = d1
 have ld1 : d1.length ≤ 700 := by rw [← hdl, List.length_map, hD.1]; omega
 rw [rep1]
 generalize hz : List.replicate ((cell.fdiv 5).fmod 8).toNat (0 : Int) = z1
 have lz1 : z1.length ≤ 700 := by rw [← hz, List.length_replicate]; omega
 refine ⟨show 3 ≤ 1000000 by decide, by omega, by omega, rep1_ok (by omega) (by omega), by simp, ?_⟩
 generalize hLL : [book c, b1, b2] ++ [d1] ++ [z1] = LL
 have l5 : LL.length = 5 := by rw [← hLL]; rfl
 have all : ∀ x ∈ LL, x.length ≤ 700 := fun x hx => by
  rw [← hLL] at hx
  simp only [List.mem_append, List.mem_cons, List.not_mem_nil, or_false] at hx
  rcases hx with ((rfl | rfl | rfl) | rfl) | rfl <;> omega
 have z0 : ∀ h : 0 < LL.length, LL[0] = book c := fun h => by subst hLL; rfl
 refine ⟨sm62 (by omega) (by omega), ?_⟩
 rw [W_seq]
 refine W_for (fun _ _ => True) trivial (fun j hj _ _ => ?_) fun _ _ => by simp only [W_bind, W_some, W_none, W_ite, W_sub, W_mul, W_fdiv, W_fdivZ, W_mod, W_pow, W_app, W_cat, W_len, W_rg1, W_rg2, W_rg3, W_ret, W_retU, W_retX, W_retXU, W_bindX, W_retO, W_noX, W_try, W_eqI, W_neI, W_eqBo, W_neBo, W_set, W_rep, W_map, W_band, W_bor, eq_self, if_true, if_false, Bool.false_eq_true, decide_eq_true_eq, and_true, true_and]
 have hj2 := hj
 rw [rangeL_len] at hj2
 rw [rangeL_get hj]
 have j5 : j < LL.length := by omega
 have ej : (0 : Int) + (j : Int) = (j : Int) := by omega
 rw [ej]
 simp only [W_bind, W_some, W_none, W_ite, W_sub, W_mul, W_fdiv, W_fdivZ, W_mod, W_pow, W_app, W_cat, W_len, W_rg1, W_rg2, W_rg3, W_ret, W_retU, W_retX, W_retXU, W_bindX, W_retO, W_noX, W_try, W_eqI, W_neI, W_eqBo, W_neBo, W_set, W_rep, W_map, W_band, W_bor, eq_self, if_true, if_false, Bool.false_eq_true, decide_eq_true_eq, and_true, true_and]
 refine W_atN j5 ?_
 have lx := all _ (List.getElem_mem j5)
 have hx0 : j = 0 → LL[j] = book c := fun e => by subst e; exact z0 j5
 generalize LL[j] = xs at lx hx0
 have p3 := fm (a := cell.fdiv 13) (b := 3) (c := 3) (by omega) (by omega)
 refine ⟨by omega, by omega, by omega, ?_⟩
 rw [W_seq]
 refine W_for (fun _ _ => True) trivial (fun i hi _ _ => ?_) fun _ _ => by simp only [W_bind, W_some, W_none, W_ite, W_sub, W_mul, W_fdiv, W_fdivZ, W_mod, W_pow, W_app, W_cat, W_len, W_rg1, W_rg2, W_rg3, W_ret, W_retU, W_retX, W_retXU, W_bindX, W_retO, W_noX, W_try, W_eqI, W_neI, W_eqBo, W_neBo, W_set, W_rep, W_map, W_band, W_bor, eq_self, if_true, if_false, Bool.false_eq_true, decide_eq_true_eq, and_true, true_and]
 generalize ([(n : Int), ((n : Int) + 1 + (cell.fdiv 13).fmod 3).fmod 4] : List Int)[i] = sz
 simp only [W_bind, W_some, W_none, W_ite, W_sub, W_mul, W_fdiv, W_fdivZ, W_mod, W_pow, W_app, W_cat, W_len, W_rg1, W_rg2, W_rg3, W_ret, W_retU, W_retX, W_retXU, W_bindX, W_retO, W_noX, W_try, W_eqI, W_neI, W_eqBo, W_neBo, W_set, W_rep, W_map, W_band, W_bor, eq_self, if_true, if_false, Bool.false_eq_true, decide_eq_true_eq, and_true, true_and]
 refine W_mono (told_spec (by omega)) fun told ht => ?_
 subst ht
 have first : j = 0 → sz = (n : Int) → ((pBook sz xs).map tct).isNone = false := fun e1 e2 => by
  rw [hx0 e1, e2, book_compl hg]; rfl
 have there : ∀ cc, pBook sz xs = some cc → Good sz cc ∧ xs = book cc := fun cc h => book_sound h
 refine W_lend ?_
 simp only [W_bind, W_some, W_none, W_ite, W_sub, W_mul, W_fdiv, W_fdivZ, W_mod, W_pow, W_app, W_cat, W_len, W_rg1, W_rg2, W_rg3, W_ret, W_retU, W_retX, W_retXU, W_bindX, W_retO, W_noX, W_try, W_eqI, W_neI, W_eqBo, W_neBo, W_set, W_rep, W_map, W_band, W_bor, eq_self, if_true, if_false, Bool.false_eq_true, decide_eq_true_eq, and_true, true_and]
 rw [W_neT (by decide), eqB_self, if_neg (by simp)]
 have key : ∀ P : Prop, P → (if ((j : Int) == 0) = true then if (sz == (n : Int)) = true then if ((pBook sz xs).map tct).isNone = true then False else P else P else P) := fun P h => by
  split
  ·rename_i e1
   split
   ·rename_i e2
    rw [first (by have := eq_of_beq e1; omega) (eq_of_beq e2), if_neg (by decide)]
    exact h
   ·exact h
  ·exact h
 refine key _ ?_
 cases hq : pBook sz xs with
 | none =>
  refine W_lend ?_
  simp only [W_bind, W_some, W_none, W_ite, W_sub, W_mul, W_fdiv, W_fdivZ, W_mod, W_pow, W_app, W_cat, W_len, W_rg1, W_rg2, W_rg3, W_ret, W_retU, W_retX, W_retXU, W_bindX, W_retO, W_noX, W_try, W_eqI, W_neI, W_eqBo, W_neBo, W_set, W_rep, W_map, W_band, W_bor, eq_self, if_true, if_false, Bool.false_eq_true, decide_eq_true_eq, and_true, true_and, Option.map_none, Option.isSome_none]
  refine W_lend ?_
  simp only [W_bind, W_some, W_none, W_ite, W_sub, W_mul, W_fdiv, W_fdivZ, W_mod, W_pow, W_app, W_cat, W_len, W_rg1, W_rg2, W_rg3, W_ret, W_retU, W_retX, W_retXU, W_bindX, W_retO, W_noX, W_try, W_eqI, W_neI, W_eqBo, W_neBo, W_set, W_rep, W_map, W_band, W_bor, eq_self, if_true, if_false, Bool.false_eq_true, decide_eq_true_eq, and_true, true_and, Option.map_none, Option.isSome_none]
 | some cc =>
  obtain ⟨gc, ec⟩ := there cc hq
  have lc : (book cc).length ≤ 90000 := by rw [← ec]; omega
  refine W_lend ?_
  simp only [W_bind, W_some, W_none, W_ite, W_sub, W_mul, W_fdiv, W_fdivZ, W_mod, W_pow, W_app, W_cat, W_len, W_rg1, W_rg2, W_rg3, W_ret, W_retU, W_retX, W_retXU, W_bindX, W_retO, W_noX, W_try, W_eqI, W_neI, W_eqBo, W_neBo, W_set, W_rep, W_map, W_band, W_bor, eq_self, if_true, if_false, Bool.false_eq_true, decide_eq_true_eq, and_true, true_and, Option.map_some, Option.isSome_some]
  refine W_mono (isc_spec gc lc) fun b hb => ?_
  rw [hb, if_neg (by decide)]
  refine W_mono (book_spec lc) fun b hb => ?_
  rw [hb, ← ec, W_neT (by decide), eqB_self, if_neg (by simp)]
  refine W_lend ?_
  simp only [W_bind, W_some, W_none, W_ite, W_sub, W_mul, W_fdiv, W_fdivZ, W_mod, W_pow, W_app, W_cat, W_len, W_rg1, W_rg2, W_rg3, W_ret, W_retU, W_retX, W_retXU, W_bindX, W_retO, W_noX, W_try, W_eqI, W_neI, W_eqBo, W_neBo, W_set, W_rep, W_map, W_band, W_bor, eq_self, if_true, if_false, Bool.false_eq_true, decide_eq_true_eq, and_true, true_and, Option.map_some, Option.isSome_some]
  refine W_mono (write_spec lc) fun b hb => ?_
  rw [hb, ← ec, W_neT (by decide), eqB_self, if_neg (by simp)]
  trivial
theorem law_mirror (s : List Int) (hl : s.length ≤ 63) : m_law s = some true := W_of (law_ok s hl)
theorem law_yes (s : List Int) (hl : s.length ≤ 63) (hb : ∀ k ∈ s, Builtin.Int.intBits k ≤ 1048576) : ∃ d, funO [] 1 nm_law.length fb_law [some (.sh (.list (s.map PyData.int)))] = some (.ret (.sh (.bool true)) d) := by
 obtain ⟨o, d, h1, h2⟩ := t_law s true (law_mirror s hl)
 have h2 : o = _ := h2
 subst h2
 exact ⟨d, h1⟩
end Lw
set_option Elab.async false
set_option linter.all false
set_option maxRecDepth 100000
set_option maxHeartbeats 4000000
namespace Lw
open PySem PySem.Spec L2 Fx
section
variable {K : PySem.W.Frag} {h : Heap} {mg : Str → Option Value}
theorem mk_cls {C_BadBook C_FloodError C_OutOfRange : Addr} (X : K.In h) (G : h.Ns mainGlobals mg) (a_BadBook : PySem.W.nsIn K mainGlobals "BadBook" = some (some (.ref C_BadBook))) (a_FloodError : PySem.W.nsIn K mainGlobals "FloodError" = some (some (.ref C_FloodError))) (a_OutOfRange : PySem.W.nsIn K mainGlobals "OutOfRange" = some (some (.ref C_OutOfRange))) (cb_BadBook : PySem.W.subIn K (.ref C_BadBook) (.type "BaseException") = some true) (cd_BadBook : PySem.W.hasDictIn K C_BadBook = true) (ct_BadBook : PySem.W.typeIn K (.ref C_BadBook) = some (.type "type")) (cs_BadBook : PySem.W.subIn K (.ref C_BadBook) (.ref C_BadBook) = some true) (x_BadBook : PySem.W.excIn K C_BadBook [.type "ValueError", .type "Exception", .type "BaseException", .type "object"] "ValueError.__new__" = true) (ek_BadBook : PySem.W.keepIn K (.ref C_BadBook) = true) (eb_BadBook : PySem.W.subIn K (.ref C_BadBook) (.type "BaseException") = some true) (et_BadBook : PySem.W.typeIn K (.ref C_BadBook) = some (.type "type")) (ei_BadBook : PySem.W.isClsIn K C_BadBook = true) (k_BadBook_FloodError : PySem.W.kitOne K (.ref C_BadBook) (.ref C_FloodError) = some true) (k_BadBook_OutOfRange : PySem.W.kitOne K (.ref C_BadBook) (.ref C_OutOfRange) = some false) (xhg_BadBook : PySem.W.findIn K (.ref C_BadBook) "__getattribute__" = some (some (.builtin "BaseException.__getattribute__"))) (xhk_BadBook : PySem.W.findIn K (.ref C_BadBook) "__getattr__" = some none) (xhs_BadBook : PySem.W.subIn K (.ref C_BadBook) (.type "BaseException") = some true) (xhd_BadBook : PySem.W.hasDictIn K C_BadBook = true) (xha_BadBook : PySem.W.findIn K (.ref C_BadBook) "__class__" = some (some (.builtin "object.__class__"))) (xhn_BadBook : PySem.W.specialIn K (.builtin "object.__class__") "__get__" = some (some (.builtin "getset_descriptor.__get__"))) (xht_BadBook : PySem.W.takesIn K (.builtin "object.__class__") = some true) (xhm_BadBook : PySem.W.mroIn K C_BadBook (.type "object") = some true) : ∃ C_BadBook C_FloodError C_OutOfRange, Cls K mg C_BadBook C_FloodError C_OutOfRange :=
 ⟨_, _, _, { c_BadBook := ⟨PySem.W.mg_of X G a_BadBook, cb_BadBook, cd_BadBook, ct_BadBook, cs_BadBook⟩, e_BadBook := ⟨PySem.W.mg_of X G a_BadBook, x_BadBook, ek_BadBook, eb_BadBook, et_BadBook, ei_BadBook⟩, g_FloodError := PySem.W.mg_of X G a_FloodError, g_OutOfRange := PySem.W.mg_of X G a_OutOfRange, k_BadBook_FloodError := k_BadBook_FloodError, k_BadBook_OutOfRange := k_BadBook_OutOfRange, x_BadBook := ⟨xhg_BadBook, xhk_BadBook, xhs_BadBook, xhd_BadBook, xha_BadBook, xhn_BadBook, xht_BadBook, xhm_BadBook⟩ }⟩
theorem mk_ob_BookReader {C : Addr} {f0 : Addr} {od0 an0 : Option Addr} {sl0 : Array (Option Value)} {oc0 kV0 dc0 pm0 cd0 ct0 : Value} {f1 : Addr} {od1 an1 : Option Addr} {sl1 : Array (Option Value)} {oc1 kV1 dc1 pm1 cd1 ct1 : Value} {f2 : Addr} {od2 an2 : Option Addr} {sl2 : Array (Option Value)} {oc2 kV2 dc2 pm2 cd2 ct2 : Value} {f3 : Addr} {od3 an3 : Option Addr} {sl3 : Array (Option Value)} {oc3 kV3 dc3 pm3 cd3 ct3 : Value} {f4 : Addr} {od4 an4 : Option Addr} {sl4 : Array (Option Value)} {oc4 kV4 dc4 pm4 cd4 ct4 : Value} {f5 : Addr} {od5 an5 : Option Addr} {sl5 : Array (Option Value)} {oc5 kV5 dc5 pm5 cd5 ct5 : Value} {f6 : Addr} {od6 an6 : Option Addr} {sl6 : Array (Option Value)} {oc6 kV6 dc6 pm6 cd6 ct6 : Value} {f7 : Addr} {od7 an7 : Option Addr} {sl7 : Array (Option Value)} {oc7 kV7 dc7 pm7 cd7 ct7 : Value} (X : K.In h) (G : h.Ns mainGlobals mg)
  (aC : PySem.W.nsIn K mainGlobals "BookReader" = some (some (.ref C)))
  (a0 : PySem.W.findIn K (.ref C) "__init__" = some (some (.ref f0)))
  (i0 : PySem.W.isFn K (.ref f0) = true)
  (l0 : K.lookup f0 = some ⟨oc0, od0, .func (PySem.W.fnOf "__init__" "BookReader.__init__" (defArgs s_BookReader___init__) (defBody s_BookReader___init__) (defScope s_BookReader___init__) .none kV0 dc0 pm0 an0 cd0 ct0), sl0⟩)
  (c0 : PySem.W.codeIn K cd0 "BookReader.__init__" = true)
  (k0 : PySem.W.keepIn K (.ref f0) = true)
  (a1 : PySem.W.findIn K (.ref C) "take" = some (some (.ref f1)))
  (i1 : PySem.W.isFn K (.ref f1) = true)
  (l1 : K.lookup f1 = some ⟨oc1, od1, .func (PySem.W.fnOf "take" "BookReader.take" (defArgs s_BookReader_take) (defBody s_BookReader_take) (defScope s_BookReader_take) .none kV1 dc1 pm1 an1 cd1 ct1), sl1⟩)
  (c1 : PySem.W.codeIn K cd1 "BookReader.take" = true)
  (k1 : PySem.W.keepIn K (.ref f1) = true)
  (a2 : PySem.W.findIn K (.ref C) "size" = some (some (.ref f2)))
  (i2 : PySem.W.isFn K (.ref f2) = true)
  (l2 : K.lookup f2 = some ⟨oc2, od2, .func (PySem.W.fnOf "size" "BookReader.size" (defArgs s_BookReader_size) (defBody s_BookReader_size) (defScope s_BookReader_size) .none kV2 dc2 pm2 an2 cd2 ct2), sl2⟩)
  (c2 : PySem.W.codeIn K cd2 "BookReader.size" = true)
  (k2 : PySem.W.keepIn K (.ref f2) = true)
  (a3 : PySem.W.findIn K (.ref C) "claim" = some (some (.ref f3)))
  (i3 : PySem.W.isFn K (.ref f3) = true)
  (l3 : K.lookup f3 = some ⟨oc3, od3, .func (PySem.W.fnOf "claim" "BookReader.claim" (defArgs s_BookReader_claim) (defBody s_BookReader_claim) (defScope s_BookReader_claim) .none kV3 dc3 pm3 an3 cd3 ct3), sl3⟩)
  (c3 : PySem.W.codeIn K cd3 "BookReader.claim" = true)
  (k3 : PySem.W.keepIn K (.ref f3) = true)
  (a4 : PySem.W.findIn K (.ref C) "claims" = some (some (.ref f4)))
  (i4 : PySem.W.isFn K (.ref f4) = true)
  (l4 : K.lookup f4 = some ⟨oc4, od4, .func (PySem.W.fnOf "claims" "BookReader.claims" (defArgs s_BookReader_claims) (defBody s_BookReader_claims) (defScope s_BookReader_claims) .none kV4 dc4 pm4 an4 cd4 ct4), sl4⟩)
  (c4 : PySem.W.codeIn K cd4 "BookReader.claims" = true)
  (k4 : PySem.W.keepIn K (.ref f4) = true)
  (a5 : PySem.W.findIn K (.ref C) "rows_of_claims" = some (some (.ref f5)))
  (i5 : PySem.W.isFn K (.ref f5) = true)
  (l5 : K.lookup f5 = some ⟨oc5, od5, .func (PySem.W.fnOf "rows_of_claims" "BookReader.rows_of_claims" (defArgs s_BookReader_rows_of_claims) (defBody s_BookReader_rows_of_claims) (defScope s_BookReader_rows_of_claims) .none kV5 dc5 pm5 an5 cd5 ct5), sl5⟩)
  (c5 : PySem.W.codeIn K cd5 "BookReader.rows_of_claims" = true)
  (k5 : PySem.W.keepIn K (.ref f5) = true)
  (a6 : PySem.W.findIn K (.ref C) "condition" = some (some (.ref f6)))
  (i6 : PySem.W.isFn K (.ref f6) = true)
  (l6 : K.lookup f6 = some ⟨oc6, od6, .func (PySem.W.fnOf "condition" "BookReader.condition" (defArgs s_BookReader_condition) (defBody s_BookReader_condition) (defScope s_BookReader_condition) .none kV6 dc6 pm6 an6 cd6 ct6), sl6⟩)
  (c6 : PySem.W.codeIn K cd6 "BookReader.condition" = true)
  (k6 : PySem.W.keepIn K (.ref f6) = true)
  (a7 : PySem.W.findIn K (.ref C) "piece" = some (some (.ref f7)))
  (i7 : PySem.W.isFn K (.ref f7) = true)
  (l7 : K.lookup f7 = some ⟨oc7, od7, .func (PySem.W.fnOf "piece" "BookReader.piece" (defArgs s_BookReader_piece) (defBody s_BookReader_piece) (defScope s_BookReader_piece) .none kV7 dc7 pm7 an7 cd7 ct7), sl7⟩)
  (c7 : PySem.W.codeIn K cd7 "BookReader.piece" = true)
  (k7 : PySem.W.keepIn K (.ref f7) = true)
  (pg : PySem.W.plainGet K C Str.empty = true)
  (hd : PySem.W.hasDictIn K C = true)
  (po : PySem.W.plainOver K C = true)
  (sa : PySem.W.findIn K (.ref C) "__setattr__" = some (some (.builtin "object.__setattr__")))
  (mk : PySem.W.makesIn K C = true)
  (kc : PySem.W.keepIn K (.ref C) = true)
  (n0 : PySem.W.findIn K (.ref C) "numbers" = some none)
  (n1 : PySem.W.findIn K (.ref C) "n" = some none)
  (n2 : PySem.W.findIn K (.ref C) "place" = some none) : ∃ C f0, Ob_BookReader K mg C f0 :=
 ⟨C, f0, { oc := ⟨⟨pg, hd, po, sa⟩, fun f hf => by
  simp only [List.mem_cons, List.not_mem_nil, or_false] at hf
  rcases hf with rfl | rfl | rfl
  ·exact n0
  ·exact n1
  ·exact n2, (show 3 < 900 by decide), (show List.Nodup (["numbers","n","place"] : List Str) by decide +kernel)⟩, mkc := ⟨mk, a0, i0, kc⟩, mgc := PySem.W.mg_of X G aC, F___init__ := ⟨_, _, fun_mk (st := s_BookReader___init__) l0 c0 k0, ⟨a0, i0, k0⟩, (fun_mk (st := s_BookReader___init__) l0 c0 k0).binds (ps := ["self", "numbers", "n"]) fun _ _ _ _ _ _ us hl => match us, hl with | [_, _, _], _ => rfl⟩, F_take := ⟨_, _, fun_mk (st := s_BookReader_take) l1 c1 k1, ⟨a1, i1, k1⟩, (fun_mk (st := s_BookReader_take) l1 c1 k1).binds (ps := ["self"]) fun _ _ _ _ _ _ us hl => match us, hl with | [_], _ => rfl⟩, F_size := ⟨_, _, fun_mk (st := s_BookReader_size) l2 c2 k2, ⟨a2, i2, k2⟩, (fun_mk (st := s_BookReader_size) l2 c2 k2).binds (ps := ["self"]) fun _ _ _ _ _ _ us hl => match us, hl with | [_], _ => rfl⟩, F_claim := ⟨_, _, fun_mk (st := s_BookReader_claim) l3 c3 k3, ⟨a3, i3, k3⟩, (fun_mk (st := s_BookReader_claim) l3 c3 k3).binds (ps := ["self"]) fun _ _ _ _ _ _ us hl => match us, hl with | [_], _ => rfl⟩, F_claims := ⟨_, _, fun_mk (st := s_BookReader_claims) l4 c4 k4, ⟨a4, i4, k4⟩, (fun_mk (st := s_BookReader_claims) l4 c4 k4).binds (ps := ["self"]) fun _ _ _ _ _ _ us hl => match us, hl with | [_], _ => rfl⟩, F_rows_of_claims := ⟨_, _, fun_mk (st := s_BookReader_rows_of_claims) l5 c5 k5, ⟨a5, i5, k5⟩, (fun_mk (st := s_BookReader_rows_of_claims) l5 c5 k5).binds (ps := ["self"]) fun _ _ _ _ _ _ us hl => match us, hl with | [_], _ => rfl⟩, F_condition := ⟨_, _, fun_mk (st := s_BookReader_condition) l6 c6 k6, ⟨a6, i6, k6⟩, (fun_mk (st := s_BookReader_condition) l6 c6 k6).binds (ps := ["self"]) fun _ _ _ _ _ _ us hl => match us, hl with | [_], _ => rfl⟩, F_piece := ⟨_, _, fun_mk (st := s_BookReader_piece) l7 c7 k7, ⟨a7, i7, k7⟩, (fun_mk (st := s_BookReader_piece) l7 c7 k7).binds (ps := ["self"]) fun _ _ _ _ _ _ us hl => match us, hl with | [_], _ => rfl⟩ }⟩
theorem mk_law_list_book {f : Addr} {od an : Option Addr} {sl : Array (Option Value)} {oc kV dc pm cd ct : Value} (X : K.In h) (G : h.Ns mainGlobals mg) (a : PySem.W.nsIn K mainGlobals "_law_list_book" = some (some (.ref f)))
  (l : K.lookup f = some ⟨oc, od, .func (PySem.W.fnOf "_law_list_book" "_law_list_book" (defArgs s_law_list_book) (defBody s_law_list_book) (defScope s_law_list_book) .none kV dc pm an cd ct), sl⟩) (c : PySem.W.codeIn K cd "_law_list_book" = true) (k : PySem.W.keepIn K (.ref f) = true) :
  ∃ f fd, L2.Fun K "_law_list_book" "_law_list_book" s_law_list_book f fd ∧ mg "_law_list_book" = some (.ref f) ∧ Binds K fd ["_law_rows"] [] :=
 have F := fun_mk (st := s_law_list_book) l c k
 ⟨_, _, F, PySem.W.mg_of X G a, F.binds (ps := ["_law_rows"]) fun _ _ _ _ _ _ us hl => match us, hl with | [_], _ => rfl⟩
theorem mk_law_claim_book {f : Addr} {od an : Option Addr} {sl : Array (Option Value)} {oc kV dc pm cd ct : Value} (X : K.In h) (G : h.Ns mainGlobals mg) (a : PySem.W.nsIn K mainGlobals "_law_claim_book" = some (some (.ref f)))
  (l : K.lookup f = some ⟨oc, od, .func (PySem.W.fnOf "_law_claim_book" "_law_claim_book" (defArgs s_law_claim_book) (defBody s_law_claim_book) (defScope s_law_claim_book) .none kV dc pm an cd ct), sl⟩) (c : PySem.W.codeIn K cd "_law_claim_book" = true) (k : PySem.W.keepIn K (.ref f) = true) :
  ∃ f fd, L2.Fun K "_law_claim_book" "_law_claim_book" s_law_claim_book f fd ∧ mg "_law_claim_book" = some (.ref f) ∧ Binds K fd ["_law_claim_here"] [] :=
 have F := fun_mk (st := s_law_claim_book) l c k
 ⟨_, _, F, PySem.W.mg_of X G a, F.binds (ps := ["_law_claim_here"]) fun _ _ _ _ _ _ us hl => match us, hl with | [_], _ => rfl⟩
theorem mk_law_book {f : Addr} {od an : Option Addr} {sl : Array (Option Value)} {oc kV dc pm cd ct : Value} (X : K.In h) (G : h.Ns mainGlobals mg) (a : PySem.W.nsIn K mainGlobals "_law_book" = some (some (.ref f)))
  (l : K.lookup f = some ⟨oc, od, .func (PySem.W.fnOf "_law_book" "_law_book" (defArgs s_law_book) (defBody s_law_book) (defScope s_law_book) .none kV dc pm an cd ct), sl⟩) (c : PySem.W.codeIn K cd "_law_book" = true) (k : PySem.W.keepIn K (.ref f) = true) :
  ∃ f fd, L2.Fun K "_law_book" "_law_book" s_law_book f fd ∧ mg "_law_book" = some (.ref f) ∧ Binds K fd ["_law_certificate_here"] [] :=
 have F := fun_mk (st := s_law_book) l c k
 ⟨_, _, F, PySem.W.mg_of X G a, F.binds (ps := ["_law_certificate_here"]) fun _ _ _ _ _ _ us hl => match us, hl with | [_], _ => rfl⟩
theorem mk_law_cell {f : Addr} {od an : Option Addr} {sl : Array (Option Value)} {oc kV dc pm cd ct : Value} (X : K.In h) (G : h.Ns mainGlobals mg) (a : PySem.W.nsIn K mainGlobals "_law_cell" = some (some (.ref f)))
  (l : K.lookup f = some ⟨oc, od, .func (PySem.W.fnOf "_law_cell" "_law_cell" (defArgs s_law_cell) (defBody s_law_cell) (defScope s_law_cell) .none kV dc pm an cd ct), sl⟩) (c : PySem.W.codeIn K cd "_law_cell" = true) (k : PySem.W.keepIn K (.ref f) = true) :
  ∃ f fd, L2.Fun K "_law_cell" "_law_cell" s_law_cell f fd ∧ mg "_law_cell" = some (.ref f) ∧ Binds K fd ["_law_script", "_law_k"] [] :=
 have F := fun_mk (st := s_law_cell) l c k
 ⟨_, _, F, PySem.W.mg_of X G a, F.binds (ps := ["_law_script", "_law_k"]) fun _ _ _ _ _ _ us hl => match us, hl with | [_, _], _ => rfl⟩
theorem mk_law_digits {f : Addr} {od an : Option Addr} {sl : Array (Option Value)} {oc kV dc pm cd ct : Value} (X : K.In h) (G : h.Ns mainGlobals mg) (a : PySem.W.nsIn K mainGlobals "_law_digits" = some (some (.ref f)))
  (l : K.lookup f = some ⟨oc, od, .func (PySem.W.fnOf "_law_digits" "_law_digits" (defArgs s_law_digits) (defBody s_law_digits) (defScope s_law_digits) .none kV dc pm an cd ct), sl⟩) (c : PySem.W.codeIn K cd "_law_digits" = true) (k : PySem.W.keepIn K (.ref f) = true) :
  ∃ f fd, L2.Fun K "_law_digits" "_law_digits" s_law_digits f fd ∧ mg "_law_digits" = some (.ref f) ∧ Binds K fd ["_law_cell_here", "_law_base", "_law_most"] [] :=
 have F := fun_mk (st := s_law_digits) l c k
 ⟨_, _, F, PySem.W.mg_of X G a, F.binds (ps := ["_law_cell_here", "_law_base", "_law_most"]) fun _ _ _ _ _ _ us hl => match us, hl with | [_, _, _], _ => rfl⟩
theorem mk_law_take {f : Addr} {od an : Option Addr} {sl : Array (Option Value)} {oc kV dc pm cd ct : Value} (X : K.In h) (G : h.Ns mainGlobals mg) (a : PySem.W.nsIn K mainGlobals "_law_take" = some (some (.ref f)))
  (l : K.lookup f = some ⟨oc, od, .func (PySem.W.fnOf "_law_take" "_law_take" (defArgs s_law_take) (defBody s_law_take) (defScope s_law_take) .none kV dc pm an cd ct), sl⟩) (c : PySem.W.codeIn K cd "_law_take" = true) (k : PySem.W.keepIn K (.ref f) = true) :
  ∃ f fd, L2.Fun K "_law_take" "_law_take" s_law_take f fd ∧ mg "_law_take" = some (.ref f) ∧ Binds K fd ["_law_tape", "_law_count"] [] :=
 have F := fun_mk (st := s_law_take) l c k
 ⟨_, _, F, PySem.W.mg_of X G a, F.binds (ps := ["_law_tape", "_law_count"]) fun _ _ _ _ _ _ us hl => match us, hl with | [_, _], _ => rfl⟩
theorem mk_law_number {f : Addr} {od an : Option Addr} {sl : Array (Option Value)} {oc kV dc pm cd ct : Value} (X : K.In h) (G : h.Ns mainGlobals mg) (a : PySem.W.nsIn K mainGlobals "_law_number" = some (some (.ref f)))
  (l : K.lookup f = some ⟨oc, od, .func (PySem.W.fnOf "_law_number" "_law_number" (defArgs s_law_number) (defBody s_law_number) (defScope s_law_number) .none kV dc pm an cd ct), sl⟩) (c : PySem.W.codeIn K cd "_law_number" = true) (k : PySem.W.keepIn K (.ref f) = true) :
  ∃ f fd, L2.Fun K "_law_number" "_law_number" s_law_number f fd ∧ mg "_law_number" = some (.ref f) ∧ Binds K fd ["_law_tape"] [] :=
 have F := fun_mk (st := s_law_number) l c k
 ⟨_, _, F, PySem.W.mg_of X G a, F.binds (ps := ["_law_tape"]) fun _ _ _ _ _ _ us hl => match us, hl with | [_], _ => rfl⟩
theorem mk_law_claim {f : Addr} {od an : Option Addr} {sl : Array (Option Value)} {oc kV dc pm cd ct : Value} (X : K.In h) (G : h.Ns mainGlobals mg) (a : PySem.W.nsIn K mainGlobals "_law_claim" = some (some (.ref f)))
  (l : K.lookup f = some ⟨oc, od, .func (PySem.W.fnOf "_law_claim" "_law_claim" (defArgs s_law_claim) (defBody s_law_claim) (defScope s_law_claim) .none kV dc pm an cd ct), sl⟩) (c : PySem.W.codeIn K cd "_law_claim" = true) (k : PySem.W.keepIn K (.ref f) = true) :
  ∃ f fd, L2.Fun K "_law_claim" "_law_claim" s_law_claim f fd ∧ mg "_law_claim" = some (.ref f) ∧ Binds K fd ["_law_tape", "_law_n"] [] :=
 have F := fun_mk (st := s_law_claim) l c k
 ⟨_, _, F, PySem.W.mg_of X G a, F.binds (ps := ["_law_tape", "_law_n"]) fun _ _ _ _ _ _ us hl => match us, hl with | [_, _], _ => rfl⟩
theorem mk_law_certificate {f : Addr} {od an : Option Addr} {sl : Array (Option Value)} {oc kV dc pm cd ct : Value} (X : K.In h) (G : h.Ns mainGlobals mg) (a : PySem.W.nsIn K mainGlobals "_law_certificate" = some (some (.ref f)))
  (l : K.lookup f = some ⟨oc, od, .func (PySem.W.fnOf "_law_certificate" "_law_certificate" (defArgs s_law_certificate) (defBody s_law_certificate) (defScope s_law_certificate) .none kV dc pm an cd ct), sl⟩) (c : PySem.W.codeIn K cd "_law_certificate" = true) (k : PySem.W.keepIn K (.ref f) = true) :
  ∃ f fd, L2.Fun K "_law_certificate" "_law_certificate" s_law_certificate f fd ∧ mg "_law_certificate" = some (.ref f) ∧ Binds K fd ["_law_tape", "_law_n"] [] :=
 have F := fun_mk (st := s_law_certificate) l c k
 ⟨_, _, F, PySem.W.mg_of X G a, F.binds (ps := ["_law_tape", "_law_n"]) fun _ _ _ _ _ _ us hl => match us, hl with | [_, _], _ => rfl⟩
theorem mk_law_changed {f : Addr} {od an : Option Addr} {sl : Array (Option Value)} {oc kV dc pm cd ct : Value} (X : K.In h) (G : h.Ns mainGlobals mg) (a : PySem.W.nsIn K mainGlobals "_law_changed" = some (some (.ref f)))
  (l : K.lookup f = some ⟨oc, od, .func (PySem.W.fnOf "_law_changed" "_law_changed" (defArgs s_law_changed) (defBody s_law_changed) (defScope s_law_changed) .none kV dc pm an cd ct), sl⟩) (c : PySem.W.codeIn K cd "_law_changed" = true) (k : PySem.W.keepIn K (.ref f) = true) :
  ∃ f fd, L2.Fun K "_law_changed" "_law_changed" s_law_changed f fd ∧ mg "_law_changed" = some (.ref f) ∧ Binds K fd ["_law_book_here", "_law_cell_here"] [] :=
 have F := fun_mk (st := s_law_changed) l c k
 ⟨_, _, F, PySem.W.mg_of X G a, F.binds (ps := ["_law_book_here", "_law_cell_here"]) fun _ _ _ _ _ _ us hl => match us, hl with | [_, _], _ => rfl⟩
theorem mk_law_told {f : Addr} {od an : Option Addr} {sl : Array (Option Value)} {oc kV dc pm cd ct : Value} (X : K.In h) (G : h.Ns mainGlobals mg) (a : PySem.W.nsIn K mainGlobals "_law_told" = some (some (.ref f)))
  (l : K.lookup f = some ⟨oc, od, .func (PySem.W.fnOf "_law_told" "_law_told" (defArgs s_law_told) (defBody s_law_told) (defScope s_law_told) .none kV dc pm an cd ct), sl⟩) (c : PySem.W.codeIn K cd "_law_told" = true) (k : PySem.W.keepIn K (.ref f) = true) :
  ∃ f fd, L2.Fun K "_law_told" "_law_told" s_law_told f fd ∧ mg "_law_told" = some (.ref f) ∧ Binds K fd ["_law_numbers", "_law_n"] [] :=
 have F := fun_mk (st := s_law_told) l c k
 ⟨_, _, F, PySem.W.mg_of X G a, F.binds (ps := ["_law_numbers", "_law_n"]) fun _ _ _ _ _ _ us hl => match us, hl with | [_, _], _ => rfl⟩
theorem mk_put_list {f : Addr} {od an : Option Addr} {sl : Array (Option Value)} {oc kV dc pm cd ct : Value} (X : K.In h) (G : h.Ns mainGlobals mg) (a : PySem.W.nsIn K mainGlobals "put_list" = some (some (.ref f)))
  (l : K.lookup f = some ⟨oc, od, .func (PySem.W.fnOf "put_list" "put_list" (defArgs s_put_list) (defBody s_put_list) (defScope s_put_list) .none kV dc pm an cd ct), sl⟩) (c : PySem.W.codeIn K cd "put_list" = true) (k : PySem.W.keepIn K (.ref f) = true) :
  ∃ f fd, L2.Fun K "put_list" "put_list" s_put_list f fd ∧ mg "put_list" = some (.ref f) ∧ Binds K fd ["parts"] [] :=
 have F := fun_mk (st := s_put_list) l c k
 ⟨_, _, F, PySem.W.mg_of X G a, F.binds (ps := ["parts"]) fun _ _ _ _ _ _ us hl => match us, hl with | [_], _ => rfl⟩
theorem mk_put_numbers {f : Addr} {od an : Option Addr} {sl : Array (Option Value)} {oc kV dc pm cd ct : Value} (X : K.In h) (G : h.Ns mainGlobals mg) (a : PySem.W.nsIn K mainGlobals "put_numbers" = some (some (.ref f)))
  (l : K.lookup f = some ⟨oc, od, .func (PySem.W.fnOf "put_numbers" "put_numbers" (defArgs s_put_numbers) (defBody s_put_numbers) (defScope s_put_numbers) .none kV dc pm an cd ct), sl⟩) (c : PySem.W.codeIn K cd "put_numbers" = true) (k : PySem.W.keepIn K (.ref f) = true) :
  ∃ f fd, L2.Fun K "put_numbers" "put_numbers" s_put_numbers f fd ∧ mg "put_numbers" = some (.ref f) ∧ Binds K fd ["numbers"] [] :=
 have F := fun_mk (st := s_put_numbers) l c k
 ⟨_, _, F, PySem.W.mg_of X G a, F.binds (ps := ["numbers"]) fun _ _ _ _ _ _ us hl => match us, hl with | [_], _ => rfl⟩
theorem mk_put_claim {f : Addr} {od an : Option Addr} {sl : Array (Option Value)} {oc kV dc pm cd ct : Value} (X : K.In h) (G : h.Ns mainGlobals mg) (a : PySem.W.nsIn K mainGlobals "put_claim" = some (some (.ref f)))
  (l : K.lookup f = some ⟨oc, od, .func (PySem.W.fnOf "put_claim" "put_claim" (defArgs s_put_claim) (defBody s_put_claim) (defScope s_put_claim) .none kV dc pm an cd ct), sl⟩) (c : PySem.W.codeIn K cd "put_claim" = true) (k : PySem.W.keepIn K (.ref f) = true) :
  ∃ f fd, L2.Fun K "put_claim" "put_claim" s_put_claim f fd ∧ mg "put_claim" = some (.ref f) ∧ Binds K fd ["claim"] [] :=
 have F := fun_mk (st := s_put_claim) l c k
 ⟨_, _, F, PySem.W.mg_of X G a, F.binds (ps := ["claim"]) fun _ _ _ _ _ _ us hl => match us, hl with | [_], _ => rfl⟩
theorem mk_put_claims {f : Addr} {od an : Option Addr} {sl : Array (Option Value)} {oc kV dc pm cd ct : Value} (X : K.In h) (G : h.Ns mainGlobals mg) (a : PySem.W.nsIn K mainGlobals "put_claims" = some (some (.ref f)))
  (l : K.lookup f = some ⟨oc, od, .func (PySem.W.fnOf "put_claims" "put_claims" (defArgs s_put_claims) (defBody s_put_claims) (defScope s_put_claims) .none kV dc pm an cd ct), sl⟩) (c : PySem.W.codeIn K cd "put_claims" = true) (k : PySem.W.keepIn K (.ref f) = true) :
  ∃ f fd, L2.Fun K "put_claims" "put_claims" s_put_claims f fd ∧ mg "put_claims" = some (.ref f) ∧ Binds K fd ["claims"] [] :=
 have F := fun_mk (st := s_put_claims) l c k
 ⟨_, _, F, PySem.W.mg_of X G a, F.binds (ps := ["claims"]) fun _ _ _ _ _ _ us hl => match us, hl with | [_], _ => rfl⟩
theorem mk_write_book {f : Addr} {od an : Option Addr} {sl : Array (Option Value)} {oc kV dc pm cd ct : Value} (X : K.In h) (G : h.Ns mainGlobals mg) (a : PySem.W.nsIn K mainGlobals "write_book" = some (some (.ref f)))
  (l : K.lookup f = some ⟨oc, od, .func (PySem.W.fnOf "write_book" "write_book" (defArgs s_write_book) (defBody s_write_book) (defScope s_write_book) .none kV dc pm an cd ct), sl⟩) (c : PySem.W.codeIn K cd "write_book" = true) (k : PySem.W.keepIn K (.ref f) = true) :
  ∃ f fd, L2.Fun K "write_book" "write_book" s_write_book f fd ∧ mg "write_book" = some (.ref f) ∧ Binds K fd ["certificate"] [] :=
 have F := fun_mk (st := s_write_book) l c k
 ⟨_, _, F, PySem.W.mg_of X G a, F.binds (ps := ["certificate"]) fun _ _ _ _ _ _ us hl => match us, hl with | [_], _ => rfl⟩
theorem mk_law_is_integer {f : Addr} {od an : Option Addr} {sl : Array (Option Value)} {oc kV dc pm cd ct : Value} (X : K.In h) (G : h.Ns mainGlobals mg) (a : PySem.W.nsIn K mainGlobals "_law_is_integer" = some (some (.ref f)))
  (l : K.lookup f = some ⟨oc, od, .func (PySem.W.fnOf "_law_is_integer" "_law_is_integer" (defArgs s_law_is_integer) (defBody s_law_is_integer) (defScope s_law_is_integer) .none kV dc pm an cd ct), sl⟩) (c : PySem.W.codeIn K cd "_law_is_integer" = true) (k : PySem.W.keepIn K (.ref f) = true) :
  ∃ f fd, L2.Fun K "_law_is_integer" "_law_is_integer" s_law_is_integer f fd ∧ mg "_law_is_integer" = some (.ref f) ∧ Binds K fd ["_law_item"] [] :=
 have F := fun_mk (st := s_law_is_integer) l c k
 ⟨_, _, F, PySem.W.mg_of X G a, F.binds (ps := ["_law_item"]) fun _ _ _ _ _ _ us hl => match us, hl with | [_], _ => rfl⟩
theorem mk_law_is_claims {f : Addr} {od an : Option Addr} {sl : Array (Option Value)} {oc kV dc pm cd ct : Value} (X : K.In h) (G : h.Ns mainGlobals mg) (a : PySem.W.nsIn K mainGlobals "_law_is_claims" = some (some (.ref f)))
  (l : K.lookup f = some ⟨oc, od, .func (PySem.W.fnOf "_law_is_claims" "_law_is_claims" (defArgs s_law_is_claims) (defBody s_law_is_claims) (defScope s_law_is_claims) .none kV dc pm an cd ct), sl⟩) (c : PySem.W.codeIn K cd "_law_is_claims" = true) (k : PySem.W.keepIn K (.ref f) = true) :
  ∃ f fd, L2.Fun K "_law_is_claims" "_law_is_claims" s_law_is_claims f fd ∧ mg "_law_is_claims" = some (.ref f) ∧ Binds K fd ["_law_claims"] [] :=
 have F := fun_mk (st := s_law_is_claims) l c k
 ⟨_, _, F, PySem.W.mg_of X G a, F.binds (ps := ["_law_claims"]) fun _ _ _ _ _ _ us hl => match us, hl with | [_], _ => rfl⟩
theorem mk_law_is_certificate {f : Addr} {od an : Option Addr} {sl : Array (Option Value)} {oc kV dc pm cd ct : Value} (X : K.In h) (G : h.Ns mainGlobals mg) (a : PySem.W.nsIn K mainGlobals "_law_is_certificate" = some (some (.ref f)))
  (l : K.lookup f = some ⟨oc, od, .func (PySem.W.fnOf "_law_is_certificate" "_law_is_certificate" (defArgs s_law_is_certificate) (defBody s_law_is_certificate) (defScope s_law_is_certificate) .none kV dc pm an cd ct), sl⟩) (c : PySem.W.codeIn K cd "_law_is_certificate" = true) (k : PySem.W.keepIn K (.ref f) = true) :
  ∃ f fd, L2.Fun K "_law_is_certificate" "_law_is_certificate" s_law_is_certificate f fd ∧ mg "_law_is_certificate" = some (.ref f) ∧ Binds K fd ["_law_told_here", "_law_n"] [] :=
 have F := fun_mk (st := s_law_is_certificate) l c k
 ⟨_, _, F, PySem.W.mg_of X G a, F.binds (ps := ["_law_told_here", "_law_n"]) fun _ _ _ _ _ _ us hl => match us, hl with | [_, _], _ => rfl⟩
theorem mk_law {f : Addr} {od an : Option Addr} {sl : Array (Option Value)} {oc kV dc pm cd ct : Value} (X : K.In h) (G : h.Ns mainGlobals mg) (a : PySem.W.nsIn K mainGlobals "law" = some (some (.ref f)))
  (l : K.lookup f = some ⟨oc, od, .func (PySem.W.fnOf "law" "law" (defArgs s_law) (defBody s_law) (defScope s_law) .none kV dc pm an cd ct), sl⟩) (c : PySem.W.codeIn K cd "law" = true) (k : PySem.W.keepIn K (.ref f) = true) :
  ∃ f fd, L2.Fun K "law" "law" s_law f fd ∧ mg "law" = some (.ref f) ∧ Binds K fd ["_law_script"] [] :=
 have F := fun_mk (st := s_law) l c k
 ⟨_, _, F, PySem.W.mg_of X G a, F.binds (ps := ["_law_script"]) fun _ _ _ _ _ _ us hl => match us, hl with | [_], _ => rfl⟩
theorem mk_read_book {f : Addr} {od an : Option Addr} {sl : Array (Option Value)} {oc kV dc pm cd ct : Value} (X : K.In h) (G : h.Ns mainGlobals mg) (a : PySem.W.nsIn K mainGlobals "read_book" = some (some (.ref f)))
  (l : K.lookup f = some ⟨oc, od, .func (PySem.W.fnOf "read_book" "read_book" (defArgs s_read_book) (defBody s_read_book) (defScope s_read_book) .none kV dc pm an cd ct), sl⟩) (c : PySem.W.codeIn K cd "read_book" = true) (k : PySem.W.keepIn K (.ref f) = true) :
  ∃ f fd, L2.Fun K "read_book" "read_book" s_read_book f fd ∧ mg "read_book" = some (.ref f) ∧ KBinds K fd ["numbers", "n"] ["n"] kw2 kw2 :=
 have F := fun_mk (st := s_read_book) l c k
 ⟨_, _, F, PySem.W.mg_of X G a, kbinds_of F fun _ _ _ _ _ _ _ _ => rfl⟩
theorem law_F {l : PySem.W.OpenLaw} {w : World} {fa : Addr} (hfa : mg "law" = some (.ref fa)) (T : Tx K mg) :
  ∃ (x : Str) (fd : FuncData), L2.Fun K x x s_law fa fd ∧ (∀ (s : Shared) (u : Value), BindsTo s fd ⟨[u], []⟩ [("_law_script", u)]) ∧
   ∀ base : Heap, K.In base → base.Ns mainGlobals mg → Bx l.prog base → ∀ (cdv : Value) (A : Around) (outer : List Env) (s : Shared) (H : Hp) (E : XK), Room 47 (A.deeper (PyProof.Rows.envOfC x (defScope s_law) s.heap.objs.size fa cdv)) →
    (A.deeper (PyProof.Rows.envOfC x (defScope s_law) s.heap.objs.size fa cdv)).guards = some [] → ∃ t T, JB ⟨K, [], none, nm_law.length, none⟩ (cxOf CX0 l.prog w K mg base nm_law x (defScope s_law) fa cdv A outer s H E).nox (Zf mg) T (defBody s_law) t fb_law := by
 obtain ⟨f, fd, F, hm, _⟩ := T.F_law
 have e := hfa.symm.trans hm
 cases e
 refine ⟨"law", fd, F, fun s u => ?_, fun base _ _ B cdv A outer s H E hr hA => d_law T B fa cdv A outer s H E hr hA⟩
 obtain ⟨oc, od, kV, doc, pm, an, cdv, ct, osl, rfl, lk, hcd⟩ := F.ex
 exact .of_eq rfl
end
end Lw
open PySem PySem.W PyProof.Rows
set_option maxHeartbeats 0 in
theorem PySem.Challenge.cw_floodmark_k55_books_refused_holds : PySem.Challenge.rw_floodmark_k55_books_refused.Holds := by
  w_on; o_law; k_head; (case hw => w_witness2)
  k_fill
  refine Fx.walk_G (l := PySem.Challenge.rw_floodmark_k55_books_refused) (n := 63) (k := 47) (N := Lw.nm_law) (v := "_law_script") (st := Lw.s_law) (fb := Lw.fb_law) rfl (by decide) rfl ⟨rfl, by decide, by decide⟩ (fun w h Y => PySem.W.kIn_of Y) (by decide +kernel) rfl ?F Lw.sc_law ?yes
  case yes =>
    intro ns hl hb
    exact Lw.law_yes ns hl hb
  case F =>
    intro w mg fa h KX G hmg
    have m_abs : mg "abs" = none := PySem.W.mg_none_of KX G (by k_is)
    have m_bool : mg "bool" = none := PySem.W.mg_none_of KX G (by k_is)
    have m_int : mg "int" = none := PySem.W.mg_none_of KX G (by k_is)
    have m_isinstance : mg "isinstance" = none := PySem.W.mg_none_of KX G (by k_is)
    have m_len : mg "len" = none := PySem.W.mg_none_of KX G (by k_is)
    have m_list : mg "list" = none := PySem.W.mg_none_of KX G (by k_is)
    have m_min : mg "min" = none := PySem.W.mg_none_of KX G (by k_is)
    have m_range : mg "range" = none := PySem.W.mg_none_of KX G (by k_is)
    have m_tuple : mg "tuple" = none := PySem.W.mg_none_of KX G (by k_is)
    refine Lw.law_F hmg ?TT
    case TT =>
     refine { cls := ?cls, ob_BookReader := ?ob_BookReader, m_abs := m_abs, m_bool := m_bool, m_int := m_int, m_isinstance := m_isinstance, m_len := m_len, m_list := m_list, m_min := m_min, m_range := m_range, m_tuple := m_tuple, F_law_list_book := ?F_law_list_book, F_law_claim_book := ?F_law_claim_book, F_law_book := ?F_law_book, F_law_cell := ?F_law_cell, F_law_digits := ?F_law_digits, F_law_take := ?F_law_take, F_law_number := ?F_law_number, F_law_claim := ?F_law_claim, F_law_certificate := ?F_law_certificate, F_law_changed := ?F_law_changed, F_law_told := ?F_law_told, F_put_list := ?F_put_list, F_put_numbers := ?F_put_numbers, F_put_claim := ?F_put_claim, F_put_claims := ?F_put_claims, F_write_book := ?F_write_book, F_law_is_integer := ?F_law_is_integer, F_law_is_claims := ?F_law_is_claims, F_law_is_certificate := ?F_law_is_certificate, F_law := ?F_law, F_read_book := ?F_read_book }
     case cls =>
      refine' Lw.mk_cls KX G ?q0 ?q1 ?q2 ?q3 ?q4 ?q5 ?q6 ?q7 ?q8 ?q9 ?q10 ?q11 ?q12 ?q13 ?q14 ?q15 ?q16 ?q17 ?q18 ?q19 ?q20 ?q21
      (case q0 => k_is)
      (case q1 => k_is)
      (case q2 => k_is)
      (case q3 => k_is)
      (case q4 => k_is)
      (case q5 => k_is)
      (case q6 => first | rfl | k_is)
      (case q7 => k_exc)
      (case q8 => k_is)
      (case q9 => k_is)
      (case q10 => k_is)
      (case q11 => k_is)
      (case q12 => first | kit_is | k_is | rfl)
      (case q13 => first | kit_is | k_is | rfl)
      (case q14 => k_is)
      (case q15 => k_is)
      (case q16 => k_is)
      (case q17 => k_is)
      (case q18 => k_is)
      (case q19 => k_is)
      (case q20 => k_is)
      (case q21 => k_is)
     case ob_BookReader =>
      refine' Lw.mk_ob_BookReader KX G ?oaC ?oa0 ?oi0 ?ol0 ?oc0 ?ok0 ?oa1 ?oi1 ?ol1 ?oc1 ?ok1 ?oa2 ?oi2 ?ol2 ?oc2 ?ok2 ?oa3 ?oi3 ?ol3 ?oc3 ?ok3 ?oa4 ?oi4 ?ol4 ?oc4 ?ok4 ?oa5 ?oi5 ?ol5 ?oc5 ?ok5 ?oa6 ?oi6 ?ol6 ?oc6 ?ok6 ?oa7 ?oi7 ?ol7 ?oc7 ?ok7 ?opg ?ohd ?opo ?osa ?omk ?okc ?on0 ?on1 ?on2
      (case oaC => k_is)
      (case oa0 => k_is)
      (case oi0 => k_is)
      (case ol0 => k_is)
      (case oc0 => k_is)
      (case ok0 => k_is)
      (case oa1 => k_is)
      (case oi1 => k_is)
      (case ol1 => k_is)
      (case oc1 => k_is)
      (case ok1 => k_is)
      (case oa2 => k_is)
      (case oi2 => k_is)
      (case ol2 => k_is)
      (case oc2 => k_is)
      (case ok2 => k_is)
      (case oa3 => k_is)
      (case oi3 => k_is)
      (case ol3 => k_is)
      (case oc3 => k_is)
      (case ok3 => k_is)
      (case oa4 => k_is)
      (case oi4 => k_is)
      (case ol4 => k_is)
      (case oc4 => k_is)
      (case ok4 => k_is)
      (case oa5 => k_is)
      (case oi5 => k_is)
      (case ol5 => k_is)
      (case oc5 => k_is)
      (case ok5 => k_is)
      (case oa6 => k_is)
      (case oi6 => k_is)
      (case ol6 => k_is)
      (case oc6 => k_is)
      (case ok6 => k_is)
      (case oa7 => k_is)
      (case oi7 => k_is)
      (case ol7 => k_is)
      (case oc7 => k_is)
      (case ok7 => k_is)
      (case opg => k_is)
      (case ohd => k_is)
      (case opo => k_is)
      (case osa => k_is)
      (case omk => k_is)
      (case okc => k_is)
      (case on0 => k_is)
      (case on1 => k_is)
      (case on2 => k_is)
     case F_law_list_book =>
      refine' Lw.mk_law_list_book KX G ?a ?l ?c ?k
      (case a => k_is); (case l => k_is); (case c => k_is); (case k => k_is)
     case F_law_claim_book =>
      refine' Lw.mk_law_claim_book KX G ?a ?l ?c ?k
      (case a => k_is); (case l => k_is); (case c => k_is); (case k => k_is)
     case F_law_book =>
      refine' Lw.mk_law_book KX G ?a ?l ?c ?k
      (case a => k_is); (case l => k_is); (case c => k_is); (case k => k_is)
     case F_law_cell =>
      refine' Lw.mk_law_cell KX G ?a ?l ?c ?k
      (case a => k_is); (case l => k_is); (case c => k_is); (case k => k_is)
     case F_law_digits =>
      refine' Lw.mk_law_digits KX G ?a ?l ?c ?k
      (case a => k_is); (case l => k_is); (case c => k_is); (case k => k_is)
     case F_law_take =>
      refine' Lw.mk_law_take KX G ?a ?l ?c ?k
      (case a => k_is); (case l => k_is); (case c => k_is); (case k => k_is)
     case F_law_number =>
      refine' Lw.mk_law_number KX G ?a ?l ?c ?k
      (case a => k_is); (case l => k_is); (case c => k_is); (case k => k_is)
     case F_law_claim =>
      refine' Lw.mk_law_claim KX G ?a ?l ?c ?k
      (case a => k_is); (case l => k_is); (case c => k_is); (case k => k_is)
     case F_law_certificate =>
      refine' Lw.mk_law_certificate KX G ?a ?l ?c ?k
      (case a => k_is); (case l => k_is); (case c => k_is); (case k => k_is)
     case F_law_changed =>
      refine' Lw.mk_law_changed KX G ?a ?l ?c ?k
      (case a => k_is); (case l => k_is); (case c => k_is); (case k => k_is)
     case F_law_told =>
      refine' Lw.mk_law_told KX G ?a ?l ?c ?k
      (case a => k_is); (case l => k_is); (case c => k_is); (case k => k_is)
     case F_put_list =>
      refine' Lw.mk_put_list KX G ?a ?l ?c ?k
      (case a => k_is); (case l => k_is); (case c => k_is); (case k => k_is)
     case F_put_numbers =>
      refine' Lw.mk_put_numbers KX G ?a ?l ?c ?k
      (case a => k_is); (case l => k_is); (case c => k_is); (case k => k_is)
     case F_put_claim =>
      refine' Lw.mk_put_claim KX G ?a ?l ?c ?k
      (case a => k_is); (case l => k_is); (case c => k_is); (case k => k_is)
     case F_put_claims =>
      refine' Lw.mk_put_claims KX G ?a ?l ?c ?k
      (case a => k_is); (case l => k_is); (case c => k_is); (case k => k_is)
     case F_write_book =>
      refine' Lw.mk_write_book KX G ?a ?l ?c ?k
      (case a => k_is); (case l => k_is); (case c => k_is); (case k => k_is)
     case F_law_is_integer =>
      refine' Lw.mk_law_is_integer KX G ?a ?l ?c ?k
      (case a => k_is); (case l => k_is); (case c => k_is); (case k => k_is)
     case F_law_is_claims =>
      refine' Lw.mk_law_is_claims KX G ?a ?l ?c ?k
      (case a => k_is); (case l => k_is); (case c => k_is); (case k => k_is)
     case F_law_is_certificate =>
      refine' Lw.mk_law_is_certificate KX G ?a ?l ?c ?k
      (case a => k_is); (case l => k_is); (case c => k_is); (case k => k_is)
     case F_law =>
      refine' Lw.mk_law KX G ?a ?l ?c ?k
      (case a => k_is); (case l => k_is); (case c => k_is); (case k => k_is)
     case F_read_book =>
      refine' Lw.mk_read_book KX G ?a ?l ?c ?k
      (case a => k_is); (case l => k_is); (case c => k_is); (case k => k_is)
