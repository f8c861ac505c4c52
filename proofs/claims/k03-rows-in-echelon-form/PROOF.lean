import PyProof.Rows.All
import HandS.ForMost
import HandS.Deep
import HandS.Lambda
import HandS.IsInst
import HandS.Walk
import HandS.Flow
import HandS.WideBits
import HandS.TupAny
import HandS.Gcd
import HandS.ForExc
import HandS.ExcIs
import HandS.TryOnly
import HandS.Ends
import HandS.EndBits
import HandS.Sort
import HandS.Keys
import KE.KSortKey
import KE.KNestM
import KE.SortCalls
import PySem.Challenge.RW_floodmark_k03_rows_in_echelon_form
set_option Elab.async false
set_option linter.all false
set_option maxRecDepth 100000
/-! Fx: what a reading computes, as a plain function on data. Values: data (PyData); a slot holds shared data, or a list (tree) that it owns alone. -/
namespace Fx
open PySem PySem.Spec L2

abbrev D := PyData
/-- the object whose fields are slots too: the slot that holds it, its class, its fields -/
structure Ob where
  slot : Nat
  cls : Addr
  names : List Str
/-- the known part of the heap, the tables of code objects that may grow, the object -/
structure Kc where
  fr : PySem.W.Frag
  tb : List (Addr × Str)
  ob : Option Ob
  /-- how many slots are names -/
  n : Nat
  /-- the slot that holds a caught exception, and where it stands -/
  ex : Option (Nat × Addr) := none
abbrev Fr := Kc
abbrev Dp (K : Kc) := L2.Dp K.fr
abbrev DpAll (K : Kc) := L2.DpAll K.fr
abbrev SqL (K : Kc) := L2.SqL K.fr
abbrev SqT (K : Kc) := L2.SqT K.fr
abbrev TruV (K : Kc) := L2.TruV K.fr
abbrev gTup (K : Kc) := L2.gTup K.fr
abbrev gLst (K : Kc) := L2.gLst K.fr
abbrev Itl (K : Kc) := L2.Itl K.fr
abbrev Itt (K : Kc) := L2.Itt K.fr
abbrev Itz (K : Kc) := L2.Itz K.fr
abbrev Ite (K : Kc) := L2.Ite K.fr
abbrev Itv (K : Kc) := L2.Itv K.fr
abbrev iList (K : Kc) := L2.iList K.fr
abbrev iTup (K : Kc) := L2.iTup K.fr
abbrev iZip (K : Kc) := L2.iZip K.fr
abbrev iEnum (K : Kc) := L2.iEnum K.fr
abbrev iRev (K : Kc) := L2.iRev K.fr
abbrev rIxL (K : Kc) := L2.rIxL K.fr
abbrev rIxT (K : Kc) := L2.rIxT K.fr
abbrev rEqD (K : Kc) := L2.rEqD K.fr
abbrev rNeD (K : Kc) := L2.rNeD K.fr
abbrev rInD (K : Kc) := L2.rInD K.fr
abbrev rNotInD (K : Kc) := L2.rNotInD K.fr
abbrev rSum (K : Kc) := L2.rSum K.fr
abbrev rAll (K : Kc) := L2.rAll K.fr
abbrev rSlL (K : Kc) := L2.rSlL K.fr
abbrev rIsi (K : Kc) := L2.rIsi K.fr
abbrev tBM (K : Kc) := L2.tBM K.fr
abbrev TyX (K : Kc) := L2.TyX K.fr
/-- no table, no code object -/
def NB (x : HO) : Prop := ∀ ps, x ≠ .tbl ps
def NT (x : HO) : Prop := (∀ ps, x ≠ .tbl ps) ∧ ∀ φ, x ≠ .ext φ
theorem nt_lst {xs : List V} : NT (.lst xs) := ⟨fun _ h => (nomatch h), fun _ h => (nomatch h)⟩
theorem nt_tup {xs : List V} : NT (.tup xs) := ⟨fun _ h => (nomatch h), fun _ h => (nomatch h)⟩
theorem nt_ins {C dx : Addr} {fs : List (Str × V)} : NT (.ins C dx fs) := ⟨fun _ h => (nomatch h), fun _ h => (nomatch h)⟩
theorem nt_own {a : Addr} : NT (.own a) := ⟨fun _ h => (nomatch h), fun _ h => (nomatch h)⟩
/-- all but the tables stay -/
def SameN (H H' : Hp) : Prop := ∀ b x, H b = some x → NT x → H' b = some x
theorem SameN.refl (H : Hp) : SameN H H := fun _ _ e _ => e
theorem SameN.trans {H H1 H2 : Hp} (a : SameN H H1) (b : SameN H1 H2) : SameN H H2 := fun c x e n => b c x (a c x e n) n
theorem SameN.of {H H' : Hp} (a : Same H H') : SameN H H' := fun b x e _ => a b x e
/-- the tables of code objects: those of tb, and no other -/
def TabX (tb : List (Addr × Str)) (H : Hp) : Prop := LamX.Tabs tb H ∧ ∀ b ps, H b = some (.tbl ps) → b ∈ tb.map Prod.fst
theorem TabX.ext {tb : List (Addr × Str)} {H H' : Hp} (t : TabX tb H) (s : Same H H') (n : ∀ b x, H' b = some x → H b = some x ∨ NT x) : TabX tb H' :=
  ⟨t.1.ext s, fun b ps e => (n b _ e).elim (t.2 b ps) fun z => absurd rfl (z.1 ps)⟩
/-- one place more that is no table -/
theorem nt_upd {H : Hp} {p : Addr} {o : HO} (h : NT o) : ∀ b x, upd H p o b = some x → H b = some x ∨ NT x := fun b x e => by
  by_cases z : b = p
  · subst z; rw [upd_same] at e; cases e; exact .inr h
  · rw [upd_ne z] at e; exact .inl e
/-- p, as a Bool that nothing reckons -/
noncomputable def yes (p : Prop) : Bool := @decide p (Classical.propDecidable p)
theorem of_yes {p : Prop} (h : yes p = true) : p := @of_decide_eq_true p (Classical.propDecidable p) h
theorem yes_of {p : Prop} (h : p) : yes p = true := @decide_eq_true p (Classical.propDecidable p) h
mutual
theorem dpMono {K : Fr} {G H : Hp} (e : Same G H) : ∀ (d : D) (v : V), Dp K G v d → Dp K H v d
  | .none, _, h => by cases h; exact .non
  | .bool b, _, h => by cases h; exact .bl b
  | .int i, _, h => by cases h; exact .int i
  | .str x, _, h => by cases h; exact .str x
  | .list ds, _, h => by
    cases h with
    | lst hs ha => exact .lst (e.seq hs) (dpsMono e ds _ ha)
  | .tuple ds, _, h => by
    cases h with
    | tup hs ha =>
      refine .tup ?_ (dpsMono e ds _ ha)
      rcases hs with (h | ⟨o, h⟩) | h
      · exact .inl (.inl (e _ _ h))
      · exact .inl (.inr ⟨o, e _ _ h⟩)
      · exact .inr h
  | .dict _, _, h => by cases h
theorem dpsMono {K : Fr} {G H : Hp} (e : Same G H) : ∀ (ds : List D) (vs : List V), DpAll K G vs ds → DpAll K H vs ds
  | [], _, h => by cases h; exact .nil
  | d :: ds, _, h => by
    cases h with
    | cons h1 h2 => exact .cons (dpMono e d _ h1) (dpsMono e ds _ h2)
end
theorem dpsLen {K : Fr} {G : Hp} : ∀ {vs : List V} {ds : List D}, DpAll K G vs ds → vs.length = ds.length
  | _, _, .nil => rfl
  | _, _, .cons _ h => by simp [dpsLen h]
theorem dpsApp {K : Fr} {G : Hp} : ∀ {vs ws : List V} {ds es : List D}, DpAll K G vs ds → DpAll K G ws es → DpAll K G (vs ++ ws) (ds ++ es)
  | _, _, _, _, .nil, h => h
  | _, _, _, _, .cons a t, h => .cons a (dpsApp t h)
theorem dpsGet {K : Fr} {G : Hp} : ∀ {vs : List V} {ds : List D} {i : Nat} {d : D}, DpAll K G vs ds → ds[i]? = some d → ∃ v, vs[i]? = some v ∧ Dp K G v d
  | _, _, _, _, .nil, e => by simp at e
  | _, _, 0, _, .cons a _, e => by simp at e; subst e; exact ⟨_, by simp, a⟩
  | _, _, i + 1, _, .cons _ t, e => by
    obtain ⟨v, h1, h2⟩ := dpsGet (i := i) t (by simpa using e)
    exact ⟨v, by simpa using h1, h2⟩
theorem dpsGetV {K : Fr} {G : Hp} : ∀ {vs : List V} {ds : List D} {i : Nat} {v : V}, DpAll K G vs ds → vs[i]? = some v → ∃ d, ds[i]? = some d ∧ Dp K G v d
  | _, _, _, _, .nil, e => by simp at e
  | _, _, 0, _, .cons a _, e => by simp at e; subst e; exact ⟨_, by simp, a⟩
  | _, _, i + 1, _, .cons _ t, e => by
    obtain ⟨v, h1, h2⟩ := dpsGetV (i := i) t (by simpa using e)
    exact ⟨v, by simpa using h1, h2⟩
theorem dpsSet {K : Fr} {G : Hp} {v : V} {d : D} (h : Dp K G v d) : ∀ {vs : List V} {ds : List D} (i : Nat), DpAll K G vs ds → DpAll K G (vs.set i v) (ds.set i d)
  | _, _, _, .nil => .nil
  | _, _, 0, .cons _ t => .cons h t
  | _, _, i + 1, .cons a t => .cons a (dpsSet h i t)
theorem dpsTake {K : Fr} {G : Hp} : ∀ {vs : List V} {ds : List D} (n : Nat), DpAll K G vs ds → DpAll K G (vs.take n) (ds.take n)
  | _, _, 0, _ => by simpa using DpAll.nil
  | _, _, _ + 1, .nil => by simpa using DpAll.nil
  | _, _, n + 1, .cons a t => by simpa using DpAll.cons a (dpsTake n t)
theorem dpsDrop {K : Fr} {G : Hp} : ∀ {vs : List V} {ds : List D} (n : Nat), DpAll K G vs ds → DpAll K G (vs.drop n) (ds.drop n)
  | _, _, 0, h => by simpa using h
  | _, _, _ + 1, .nil => by simpa using DpAll.nil
  | _, _, n + 1, .cons _ t => by simpa using dpsDrop n t

/-! ### scalars -/
/-- a scalar and its value: no object -/
inductive Sc : V → D → Prop
  | non : Sc .non .none
  | bl (b : Bool) : Sc (.bl b) (.bool b)
  | int (i : Int) : Sc (.int i) (.int i)
  | str (x : Str) : Sc (.str x) (.str x)
theorem Sc.dp {K : Fr} {G : Hp} {v : V} {d : D} (h : Sc v d) : Dp K G v d := by
  cases h
  · exact .non
  · exact .bl _
  · exact .int _
  · exact .str _
def isSc : D → Bool
  | .none | .bool _ | .int _ | .str _ => true
  | _ => false
theorem scOf {K : Fr} {G : Hp} {v : V} {d : D} (h : Dp K G v d) (s : isSc d = true) : Sc v d := by
  cases h
  · exact .non
  · exact .bl _
  · exact .int _
  · exact .str _
  · cases s
  · cases s

/-! ### owned trees -/
mutual
/-- v stands for d, every object of it at its own place in fp -/
inductive Tr (H : Hp) : V → D → List Addr → Prop
  | sc {v : V} {d : D} : Sc v d → Tr H v d []
  | lst {a : Addr} {xs : List V} {ds : List D} {fp : List Addr} : H a = some (.lst xs) → TrAll H xs ds fp → Tr H (.ref a) (.list ds) (a :: fp)
  | tup {a : Addr} {xs : List V} {ds : List D} {fp : List Addr} : H a = some (.tup xs) → TrAll H xs ds fp → Tr H (.ref a) (.tuple ds) (a :: fp)
inductive TrAll (H : Hp) : List V → List D → List Addr → Prop
  | nil : TrAll H [] [] []
  | cons {v : V} {vs : List V} {d : D} {ds : List D} {fp fq : List Addr} : Tr H v d fp → TrAll H vs ds fq → TrAll H (v :: vs) (d :: ds) (fp ++ fq)
end
mutual
theorem trMono {H H' : Hp} : ∀ (d : D) (v : V) (fp : List Addr), Tr H v d fp → (∀ b ∈ fp, ∀ x, H b = some x → H' b = some x) → Tr H' v d fp
  | .none, _, _, h, _ => by cases h; exact .sc (by assumption)
  | .bool b, _, _, h, _ => by cases h; exact .sc (by assumption)
  | .int i, _, _, h, _ => by cases h; exact .sc (by assumption)
  | .str x, _, _, h, _ => by cases h; exact .sc (by assumption)
  | .list ds, _, _, h, k => by
    cases h with
    | sc h => cases h
    | lst h1 h2 => exact .lst (k _ (by simp) _ h1) (trsMono ds _ _ h2 fun b hb => k b (by simp [hb]))
  | .tuple ds, _, _, h, k => by
    cases h with
    | sc h => cases h
    | tup h1 h2 => exact .tup (k _ (by simp) _ h1) (trsMono ds _ _ h2 fun b hb => k b (by simp [hb]))
  | .dict _, _, _, h, _ => by cases h with
    | sc h => cases h
theorem trsMono {H H' : Hp} : ∀ (ds : List D) (vs : List V) (fp : List Addr), TrAll H vs ds fp → (∀ b ∈ fp, ∀ x, H b = some x → H' b = some x) → TrAll H' vs ds fp
  | [], _, _, h, _ => by cases h; exact .nil
  | d :: ds, _, _, h, k => by
    cases h with
    | cons h1 h2 => exact .cons (trMono d _ _ h1 fun b hb => k b (by simp [hb])) (trsMono ds _ _ h2 fun b hb => k b (by simp [hb]))
end
mutual
theorem trDp {K : Fr} {H : Hp} : ∀ (d : D) (v : V) (fp : List Addr), Tr H v d fp → Dp K H v d
  | .none, _, _, h => by cases h with | sc h => exact h.dp
  | .bool b, _, _, h => by cases h with | sc h => exact h.dp
  | .int i, _, _, h => by cases h with | sc h => exact h.dp
  | .str x, _, _, h => by cases h with | sc h => exact h.dp
  | .list ds, _, _, h => by
    cases h with
    | sc h => cases h
    | lst h1 h2 => exact .lst (SqL.of h1) (trsDp ds _ _ h2)
  | .tuple ds, _, _, h => by
    cases h with
    | sc h => cases h
    | tup h1 h2 => exact .tup (SqT.of h1) (trsDp ds _ _ h2)
  | .dict _, _, _, h => by cases h with
    | sc h => cases h
theorem trsDp {K : Fr} {H : Hp} : ∀ (ds : List D) (vs : List V) (fp : List Addr), TrAll H vs ds fp → DpAll K H vs ds
  | [], _, _, h => by cases h; exact .nil
  | d :: ds, _, _, h => by
    cases h with
    | cons h1 h2 => exact .cons (trDp d _ _ h1) (trsDp ds _ _ h2)
end
theorem trsApp {H : Hp} : ∀ {vs ws : List V} {ds es : List D} {fp fq : List Addr}, TrAll H vs ds fp → TrAll H ws es fq → TrAll H (vs ++ ws) (ds ++ es) (fp ++ fq)
  | _, _, _, _, _, _, .nil, h => h
  | _, _, _, _, _, _, .cons a t, h => by rw [List.append_assoc]; exact .cons a (trsApp t h)
theorem trsSc {H : Hp} {K : Fr} {G : Hp} : ∀ {vs : List V} {ds : List D}, DpAll K G vs ds → ds.all isSc = true → TrAll H vs ds []
  | _, _, .nil, _ => .nil
  | _, _, .cons a t, e => by
    rw [List.all_cons, Bool.and_eq_true] at e
    exact .cons (fp := []) (.sc (scOf a e.1)) (trsSc t e.2)

/-! ### what a slot holds; what an expression gives -/
inductive OV where
  /-- shared data, never to be changed -/
  | sh (d : D)
  /-- a list of one's own, of shared items -/
  | flat (l : List D)
  /-- data that nobody else holds, nor any part of it -/
  | tree (d : D)
def OV.view : OV → D
  | .sh d => d
  | .flat l => .list l
  | .tree d => d
/-- as something that nobody else holds -/
def OV.own? : OV → Option D
  | .sh d => if isSc d then some d else none
  | .flat l => if l.all isSc then some (.list l) else none
  | .tree d => some d
def Rep (K : Fr) (G H : Hp) (v : V) (o : OV) (fp : List Addr) : Prop :=
  match o with
  | .sh d => Dp K G v d ∧ fp = []
  | .flat l => ∃ a xs, v = .ref a ∧ H a = some (.lst xs) ∧ DpAll K G xs l ∧ fp = [a]
  | .tree d => Tr H v d fp
theorem Rep.view {K : Fr} {G H : Hp} {v : V} {o : OV} {fp : List Addr} (r : Rep K G H v o fp) (s : Same G H) : Dp K H v o.view := by
  cases o with
  | sh d => exact dpMono s d v r.1
  | flat l =>
    obtain ⟨a, xs, rfl, h1, h2, _⟩ := r
    exact .lst (SqL.of h1) (dpsMono s l xs h2)
  | tree d => exact trDp d v fp r
theorem Rep.mono {K : Fr} {G G' H H' : Hp} {v : V} {o : OV} {fp : List Addr} (r : Rep K G H v o fp) (s : Same G G') (k : ∀ b ∈ fp, ∀ x, H b = some x → H' b = some x) : Rep K G' H' v o fp := by
  cases o with
  | sh d => exact ⟨dpMono s d v r.1, r.2⟩
  | flat l =>
    obtain ⟨a, xs, rfl, h1, h2, rfl⟩ := r
    exact ⟨a, xs, rfl, k _ (by simp) _ h1, dpsMono s l xs h2, rfl⟩
  | tree d => exact trMono d v fp r k
theorem Rep.own {K : Fr} {G H : Hp} {v : V} {o : OV} {d : D} {fp : List Addr} (r : Rep K G H v o fp) (e : o.own? = some d) : Tr H v d fp := by
  cases o with
  | sh d' =>
    simp only [OV.own?] at e
    split at e
    · cases e
      rw [r.2]
      exact .sc (scOf r.1 (by assumption))
    · cases e
  | flat l =>
    simp only [OV.own?] at e
    split at e
    · cases e
      obtain ⟨a, xs, rfl, h1, h2, rfl⟩ := r
      exact .lst h1 (trsSc h2 (by assumption))
    · cases e
  | tree d' => cases e; exact r

abbrev DS := List (Option OV)
/-- what slot i holds: a name's value, or a field's -/
def look (K : Kc) (H : Hp) (σ : St) (i : Nat) (v : V) : Prop :=
  σ[i]? = some (some v) ∨ (σ.length ≤ i ∧ ∃ o a C dx fs n, K.ob = some o ∧ σ[o.slot]? = some (some (.ref a)) ∧ H a = some (.ins C dx fs) ∧ o.names[i - σ.length]? = some n ∧ fs.lookup n = some v)
def Kc.nf (K : Kc) : Nat := match K.ob with
  | none => 0
  | some o => o.names.length
/-- slot i is not the object's -/
def Kc.free (K : Kc) (i : Nat) : Prop := (match K.ob with
  | none => True
  | some o => o.slot ≠ i) ∧ (match K.ex with
  | none => True
  | some p => p.1 ≠ i)
theorem look_eq {K : Kc} {H : Hp} {σ : St} {i : Nat} {v w : V} (h : look K H σ i v) (e : σ[i]? = some (some w)) : v = w := by
  rcases h with h | ⟨h, _⟩
  · rw [h] at e; cases e; rfl
  · rw [List.getElem?_eq_none h] at e; cases e
theorem look_at {K : Kc} {H : Hp} {σ : St} {i : Nat} {v : V} (h : look K H σ i v) (hi : i < σ.length) : σ[i]? = some (some v) := by
  rcases h with h | ⟨h, _⟩
  · exact h
  · omega
/-- the object stands -/
def ObjAt (o : Ob) (H : Hp) (σ : St) (n : Nat) (F : Nat → List Addr) : Prop := o.slot < σ.length ∧ ∃ a dx fs, σ[o.slot]? = some (some (.ref a)) ∧ F n = [a, dx] ∧ H a = some (.ins o.cls dx fs) ∧ H dx = some (.own a) ∧ (fs.map (·.1)).Nodup ∧ ∀ p ∈ fs, p.1 ∈ o.names
/-- the state: σ's slots as ds tells; F i: the places that slot i owns; G: what is shared -/
structure SI (K : Fr) (G H : Hp) (σ : St) (ds : DS) (F : Nat → List Addr) : Prop where
  sub : Same G H
  gnt : ∀ b x, G b = some x → NT x
  tab : TabX K.tb H
  sl : σ.length = K.n
  len : ds.length = K.n + K.nf
  rep : ∀ i o, ds[i]? = some (some o) → ∃ v, look K H σ i v ∧ Rep K G H v o (F i)
  nod : ∀ i, (F i).Nodup
  off : ∀ i a, a ∈ F i → G a = none ∧ ∃ x, H a = some x ∧ NT x
  dis : ∀ i j a, a ∈ F i → a ∈ F j → i = j
  obj : ∀ o, K.ob = some o → ds[o.slot]? = some none ∧ ObjAt o H σ ds.length F
  exs : ∀ p, K.ex = some p → ds[p.1]? = some none ∧ σ[p.1]? = some (some (.ref p.2))
/-- the owned places -/
def Wf (F : Nat → List Addr) (a : Addr) : Prop := ∃ i, a ∈ F i
/-- from one state to a later one -/
structure Step (W : Addr → Prop) (G H G' H' : Hp) (W' : Addr → Prop) : Prop where
  sg : Same G G'
  keep : ∀ b x, H b = some x → ¬ W b → NB x → H' b = some x
  dom : ∀ b x, H b = some x → ∃ y, H' b = some y
  new : ∀ b x, G' b = some x → (∃ y, G b = some y) ∨ W b ∨ H b = none
  own : ∀ b, W' b → W b ∨ H b = none
theorem some_or {α : Type} (o : Option α) : (∃ x, o = some x) ∨ o = none := by
  cases o with
  | none => exact .inr rfl
  | some x => exact .inl ⟨x, rfl⟩
theorem Step.refl (W : Addr → Prop) (G H : Hp) : Step W G H G H W :=
  ⟨Same.refl G, fun _ _ e _ _ => e, fun _ x e => ⟨x, e⟩, fun b x e => .inl ⟨x, e⟩, fun _ h => .inl h⟩
theorem Step.trans {W W1 W2 : Addr → Prop} {G H G1 H1 G2 H2 : Hp} (a : Step W G H G1 H1 W1) (b : Step W1 G1 H1 G2 H2 W2) : Step W G H G2 H2 W2 where
  sg := a.sg.trans b.sg
  keep := fun c x e n nt => b.keep c x (a.keep c x e n nt) (fun h => (a.own c h).elim n fun z => by rw [e] at z; cases z) nt
  dom := fun c x e => let ⟨y, h⟩ := a.dom c x e; b.dom c y h
  new := fun c x e => by
    have back : H1 c = none → H c = none := fun z => by
      rcases some_or (H c) with ⟨y, h⟩ | h
      · obtain ⟨y', h'⟩ := a.dom c y h
        rw [h'] at z; cases z
      · exact h
    rcases b.new c x e with ⟨y, h⟩ | h | h
    · exact a.new c y h
    · exact .inr (a.own c h)
    · exact .inr (.inr (back h))
  own := fun c h => by
    rcases b.own c h with h | z
    · exact a.own c h
    · refine .inr ?_
      rcases some_or (H c) with ⟨y, h⟩ | h
      · obtain ⟨y', h'⟩ := a.dom c y h
        rw [h'] at z; cases z
      · exact h
theorem Step.back {W W' : Addr → Prop} {G H G' H' : Hp} (a : Step W G H G' H' W') {b : Addr} (z : H' b = none) : H b = none := by
  rcases some_or (H b) with ⟨y, h⟩ | h
  · obtain ⟨y', h'⟩ := a.dom b y h
    rw [h'] at z; cases z
  · exact h
/-- the heap grew by fresh places -/
theorem Step.grow {W : Addr → Prop} {G H G' H' : Hp} (s1 : Same G G') (s2 : Same H H') (n : ∀ b x, G' b = some x → (∃ y, G b = some y) ∨ H b = none) : Step W G H G' H' W :=
  ⟨s1, fun b x e _ _ => s2 b x e, fun b x e => ⟨x, s2 b x e⟩, fun b x e => (n b x e).imp id .inr, fun _ h => .inl h⟩
theorem look.same {K : Fr} {H H' : Hp} {σ : St} {i : Nat} {v : V} (s : SameN H H') (h : look K H σ i v) : look K H' σ i v := by
  rcases h with h | ⟨h, o, a, C, dx, fs, n, h1, h2, h3, h4, h5⟩
  · exact .inl h
  · exact .inr ⟨h, o, a, C, dx, fs, n, h1, h2, s _ _ h3 nt_ins, h4, h5⟩
theorem ObjAt.same {o : Ob} {H H' : Hp} {σ : St} {n : Nat} {F : Nat → List Addr} (s : SameN H H') (h : ObjAt o H σ n F) : ObjAt o H' σ n F := by
  obtain ⟨h0, a, dx, fs, h1, h2, h3, h4, h5, h6⟩ := h
  exact ⟨h0, a, dx, fs, h1, h2, s _ _ h3 nt_ins, s _ _ h4 nt_own, h5, h6⟩
theorem SI.grow {K : Fr} {G H G' H' : Hp} {σ : St} {ds : DS} {F : Nat → List Addr} (S : SI K G H σ ds F) (s1 : Same G G') (s2 : Same H H') (s3 : Same G' H') (n : ∀ b x, G' b = some x → (∃ y, G b = some y) ∨ H b = none) (nt : ∀ b x, G' b = some x → NT x) (n2 : ∀ b x, H' b = some x → H b = some x ∨ NT x) : SI K G' H' σ ds F where
  sub := s3
  gnt := nt
  tab := S.tab.ext s2 n2
  sl := S.sl
  len := S.len
  rep := fun i o e => let ⟨v, h1, h2⟩ := S.rep i o e; ⟨v, h1.same (SameN.of s2), h2.mono s1 fun b _ x h => s2 b x h⟩
  nod := S.nod
  off := fun i a h => by
    obtain ⟨h1, x, h2, h3⟩ := S.off i a h
    refine ⟨?_, x, s2 a x h2, h3⟩
    rcases some_or (G' a) with ⟨y, e⟩ | e
    · rcases n a y e with ⟨z, e'⟩ | e'
      · rw [h1] at e'; cases e'
      · rw [h2] at e'; cases e'
    · exact e
  dis := S.dis
  obj := fun o e => ⟨(S.obj o e).1, (S.obj o e).2.same (SameN.of s2)⟩
  exs := S.exs

/-- what an expression gives: a value, or the owned thing of slot i -/
inductive RV where
  | ov (o : OV)
  | loc (i : Nat)
def VRep (K : Fr) (G H : Hp) (σ : St) (v : V) (r : RV) (fp : List Addr) : Prop :=
  match r with
  | .ov o => Rep K G H v o fp
  | .loc i => σ[i]? = some (some v) ∧ fp = []
inductive VReps (K : Fr) (G H : Hp) (σ : St) : List V → List RV → List Addr → Prop
  | nil : VReps K G H σ [] [] []
  | cons {v : V} {vs : List V} {r : RV} {rs : List RV} {fp fq : List Addr} : VRep K G H σ v r fp → VReps K G H σ vs rs fq → VReps K G H σ (v :: vs) (r :: rs) (fp ++ fq)
/-- places of passing values: nobody's, and new since the start (W₀, H₀) -/
structure Fp (G H : Hp) (W : Addr → Prop) (W0 : Addr → Prop) (H0 : Hp) (fp : List Addr) : Prop where
  nod : fp.Nodup
  off : ∀ a ∈ fp, G a = none ∧ (∃ x, H a = some x ∧ NT x) ∧ ¬ W a
  new : ∀ a ∈ fp, W0 a ∨ H0 a = none
theorem Fp.nil {G H : Hp} {W W0 : Addr → Prop} {H0 : Hp} : Fp G H W W0 H0 [] := ⟨.nil, fun _ h => (nomatch h), fun _ h => (nomatch h)⟩
/-- passing values stay through a step -/
theorem Fp.step {G H G' H' H0 : Hp} {W W' W0 : Addr → Prop} {fp : List Addr} (f : Fp G H W W0 H0 fp) (t : Step W G H G' H' W') : Fp G' H' W' W0 H0 fp :=
  ⟨f.nod, fun a h => (by
    obtain ⟨h1, ⟨x, h2, nt⟩, h3⟩ := f.off a h
    refine ⟨?_, ⟨x, t.keep a x h2 h3 nt.1, nt⟩, fun w => ?_⟩
    · rcases some_or (G' a) with ⟨y, e⟩ | e
      · rcases t.new a y e with ⟨z, e'⟩ | w | e'
        · rw [h1] at e'; cases e'
        · exact absurd w h3
        · rw [h2] at e'; cases e'
      · exact e
    · rcases t.own a w with w | e'
      · exact h3 w
      · rw [h2] at e'; cases e'), f.new⟩
theorem Fp.keeps {G H G' H' H0 : Hp} {W W' W0 : Addr → Prop} {fp : List Addr} (f : Fp G H W W0 H0 fp) (t : Step W G H G' H' W') : ∀ b ∈ fp, ∀ x, H b = some x → H' b = some x :=
  fun b hb x e => t.keep b x e (f.off b hb).2.2 (by
    obtain ⟨_, ⟨y, h2, nt⟩, _⟩ := f.off b hb
    rw [e] at h2; cases h2; exact nt.1)
theorem VRep.step {K : Fr} {G H G' H' H0 : Hp} {W W' W0 : Addr → Prop} {σ : St} {v : V} {r : RV} {fp : List Addr} (h : VRep K G H σ v r fp) (f : Fp G H W W0 H0 fp) (t : Step W G H G' H' W') : VRep K G' H' σ v r fp := by
  cases r with
  | ov o => exact Rep.mono h t.sg (f.keeps t)
  | loc i => exact h
theorem Fp.app {G H H0 : Hp} {W W0 : Addr → Prop} {fp fq : List Addr} (a : Fp G H W W0 H0 fp) (b : Fp G H W W0 H0 fq) (d : ∀ x ∈ fp, x ∉ fq) : Fp G H W W0 H0 (fp ++ fq) :=
  ⟨List.nodup_append.mpr ⟨a.nod, b.nod, fun x h1 y h2 e => d x h1 (e ▸ h2)⟩, fun x h => (List.mem_append.mp h).elim (a.off x) (b.off x), fun x h => (List.mem_append.mp h).elim (a.new x) (b.new x)⟩
theorem Fp.left {G H H0 : Hp} {W W0 : Addr → Prop} {fp fq : List Addr} (a : Fp G H W W0 H0 (fp ++ fq)) : Fp G H W W0 H0 fp :=
  ⟨(List.nodup_append.mp a.nod).1, fun x h => a.off x (List.mem_append_left _ h), fun x h => a.new x (List.mem_append_left _ h)⟩
theorem Fp.right {G H H0 : Hp} {W W0 : Addr → Prop} {fp fq : List Addr} (a : Fp G H W W0 H0 (fp ++ fq)) : Fp G H W W0 H0 fq :=
  ⟨(List.nodup_append.mp a.nod).2.1, fun x h => a.off x (List.mem_append_right _ h), fun x h => a.new x (List.mem_append_right _ h)⟩
/-- from an earlier start: what is new since a later state -/
theorem Fp.since {G H G0 H0 G1 H1 : Hp} {W W0 W1 : Addr → Prop} {fp : List Addr} (f : Fp G H W W1 H1 fp) (t : Step W0 G0 H0 G1 H1 W1) : Fp G H W W0 H0 fp :=
  ⟨f.nod, f.off, fun a h => (f.new a h).elim (t.own a) fun z => .inr (t.back z)⟩

/-! ### the wishes -/
/-- an expression's reading t computes f -/
def RE (K : Fr) (t : TE) (f : DS → Option (RV × DS)) : Prop :=
  ∀ (G H : Hp) (F : Nat → List Addr) (σ : St) (ds : DS) (r : RV) (ds' : DS) (Q : VK), SI K G H σ ds F → f ds = some (r, ds') →
    (∀ v G' H' F' fp, SI K G' H' σ ds' F' → Step (Wf F) G H G' H' (Wf F') → VRep K G' H' σ v r fp → Fp G' H' (Wf F') (Wf F) H fp → Q v H') → t σ H Q
def RT (K : Fr) (t : TT) (f : DS → Option (Bool × DS)) : Prop :=
  ∀ (G H : Hp) (F : Nat → List Addr) (σ : St) (ds : DS) (b : Bool) (ds' : DS) (Q : Bool → Hp → Prop), SI K G H σ ds F → f ds = some (b, ds') →
    (∀ G' H' F', SI K G' H' σ ds' F' → Step (Wf F) G H G' H' (Wf F') → Q b H') → t σ H Q
def RA (K : Fr) (t : TA) (f : DS → Option (List RV × DS)) : Prop :=
  ∀ (G H : Hp) (F : Nat → List Addr) (σ : St) (ds : DS) (rs : List RV) (ds' : DS) (Q : List V → Hp → Prop), SI K G H σ ds F → f ds = some (rs, ds') →
    (∀ vs G' H' F' fp, SI K G' H' σ ds' F' → Step (Wf F) G H G' H' (Wf F') → VReps K G' H' σ vs rs fp → Fp G' H' (Wf F') (Wf F) H fp → Q vs H') → t σ H Q
/-- how a statement ends -/
inductive Out where
  | nx (ds : DS)
  | ret (o : OV) (ds : DS)
  | bk (ds : DS)
  | ct (ds : DS)
  /-- an exception of the text's own class x -/
  | ex (x : Str) (ds : DS)
/-- σ' is σ but at the slots T -/
def Off (T : List Nat) (σ σ' : St) : Prop := σ'.length = σ.length ∧ ∀ i, i ∉ T → σ'[i]? = σ[i]?
theorem Off.refl (T : List Nat) (σ : St) : Off T σ σ := ⟨rfl, fun _ _ => rfl⟩
theorem Off.trans {T : List Nat} {σ σ1 σ2 : St} (a : Off T σ σ1) (b : Off T σ1 σ2) : Off T σ σ2 := ⟨b.1.trans a.1, fun i h => (b.2 i h).trans (a.2 i h)⟩
theorem Off.mono {T T' : List Nat} {σ σ' : St} (a : Off T σ σ') (h : ∀ i ∈ T, i ∈ T') : Off T' σ σ' := ⟨a.1, fun i n => a.2 i fun z => n (h i z)⟩
theorem Off.left {T T' : List Nat} {σ σ' : St} (a : Off T σ σ') : Off (T ++ T') σ σ' := a.mono fun _ h => List.mem_append_left _ h
theorem Off.right {T T' : List Nat} {σ σ' : St} (a : Off T' σ σ') : Off (T ++ T') σ σ' := a.mono fun _ h => List.mem_append_right _ h
theorem Off.set (i : Nat) (v : Option V) (σ : St) : Off [i] σ (σ.set i v) := ⟨List.length_set, fun j hj => List.getElem?_set_ne fun e => hj (by simp [e])⟩
/-- what is wished of an exception; the text's classes by their names -/
structure Zc where
  W : WX
  mg : Str → Option Value
/-- the wishes E are served by the end o; only the slots T are stored -/
def Ended (K : Fr) (Z : Zc) (T : List Nat) (G H : Hp) (F : Nat → List Addr) (σ : St) (E : Ends) : Out → Prop
  | .nx ds' => ∀ σ' G' H' F', SI K G' H' σ' ds' F' → Step (Wf F) G H G' H' (Wf F') → Off T σ σ' → E.nx σ' H'
  | .bk ds' => ∀ σ' G' H' F', SI K G' H' σ' ds' F' → Step (Wf F) G H G' H' (Wf F') → Off T σ σ' → E.bk σ' H'
  | .ct ds' => ∀ σ' G' H' F', SI K G' H' σ' ds' F' → Step (Wf F) G H G' H' (Wf F') → Off T σ σ' → E.ct σ' H'
  | .ret o ds' => ∀ v σ' G' H' F' fp, SI K G' H' σ' ds' F' → Step (Wf F) G H G' H' (Wf F') → Off T σ σ' → Rep K G' H' v o fp → Fp G' H' (Wf F') (Wf F) H fp → E.rt v H'
  | .ex x ds' => ∀ C σ' G' H' F', Z.mg x = some (.ref C) → SI K G' H' σ' ds' F' → Step (Wf F) G H G' H' (Wf F') → Off T σ σ' → Z.W (.ref C) none σ' H'
theorem Ended.later {K : Fr} {Z : Zc} {T T' : List Nat} {G H G1 H1 : Hp} {F F1 : Nat → List Addr} {σ σ1 : St} {E : Ends} {o : Out} (t1 : Step (Wf F) G H G1 H1 (Wf F1)) (f1 : Off T σ σ1) (hT : ∀ i ∈ T', i ∈ T) (q : Ended K Z T G H F σ E o) : Ended K Z T' G1 H1 F1 σ1 E o := by
  cases o with
  | nx d' => exact fun σ2 G2 H2 F2 S2 t2 f2 => q σ2 G2 H2 F2 S2 (t1.trans t2) (f1.trans (f2.mono hT))
  | bk d' => exact fun σ2 G2 H2 F2 S2 t2 f2 => q σ2 G2 H2 F2 S2 (t1.trans t2) (f1.trans (f2.mono hT))
  | ct d' => exact fun σ2 G2 H2 F2 S2 t2 f2 => q σ2 G2 H2 F2 S2 (t1.trans t2) (f1.trans (f2.mono hT))
  | ret r d' => exact fun v σ2 G2 H2 F2 fp S2 t2 f2 r2 p2 => q v σ2 G2 H2 F2 fp S2 (t1.trans t2) (f1.trans (f2.mono hT)) r2 (p2.since t1)
  | ex x d' => exact fun C σ2 G2 H2 F2 m S2 t2 f2 => q C σ2 G2 H2 F2 m S2 (t1.trans t2) (f1.trans (f2.mono hT))
def RS (K : Fr) (Z : Zc) (T : List Nat) (t : TS) (f : DS → Option Out) : Prop :=
  ∀ (G H : Hp) (F : Nat → List Addr) (σ : St) (ds : DS) (o : Out) (E : Ends), SI K G H σ ds F → f ds = some o → Ended K Z T G H F σ E o → t E σ H
end Fx
set_option Elab.async false
set_option linter.all false
set_option maxRecDepth 100000
namespace Fx
open PySem PySem.Spec L2

/-! ### freezing and looking -/
/-- the places fp of H become shared -/
def lay (G H : Hp) (fp : List Addr) : Hp := fun b => if b ∈ fp then H b else G b
theorem lay_in {G H : Hp} {fp : List Addr} {b : Addr} (h : b ∈ fp) : lay G H fp b = H b := by unfold lay; rw [if_pos h]
theorem lay_out {G H : Hp} {fp : List Addr} {b : Addr} (h : b ∉ fp) : lay G H fp b = G b := by unfold lay; rw [if_neg h]
theorem same_lay {G H : Hp} {fp : List Addr} (n : ∀ b ∈ fp, G b = none) : Same G (lay G H fp) := fun b x e => by
  by_cases h : b ∈ fp
  · rw [n b h] at e; cases e
  · rw [lay_out h]; exact e
theorem lay_same {G H : Hp} {fp : List Addr} (s : Same G H) : Same (lay G H fp) H := fun b x e => by
  by_cases h : b ∈ fp
  · rw [lay_in h] at e; exact e
  · rw [lay_out h] at e; exact s b x e
theorem Rep.freeze {K : Fr} {G H : Hp} {v : V} {o : OV} {fp : List Addr} (r : Rep K G H v o fp) (n : ∀ b ∈ fp, G b = none) : Dp K (lay G H fp) v o.view := by
  have s := same_lay (H := H) n
  cases o with
  | sh d => exact dpMono s d v r.1
  | flat l =>
    obtain ⟨a, xs, rfl, h1, h2, rfl⟩ := r
    exact .lst (SqL.of (by rw [lay_in (by simp)]; exact h1)) (dpsMono s l xs h2)
  | tree d => exact trDp d v fp (trMono d v fp r fun b hb x e => by rw [lay_in hb]; exact e)
theorem Step.lay {W0 W : Addr → Prop} {G0 H0 G H : Hp} {fp : List Addr} (t : Step W0 G0 H0 G H W) (n : ∀ b ∈ fp, G b = none) (nw : ∀ b ∈ fp, W0 b ∨ H0 b = none) : Step W0 G0 H0 (Fx.lay G H fp) H W :=
  ⟨t.sg.trans (same_lay n), t.keep, t.dom, fun b x e => by
    by_cases h : b ∈ fp
    · exact .inr (nw b h)
    · rw [lay_out h] at e; exact t.new b x e, t.own⟩
theorem Step.reown {W0 W W' : Addr → Prop} {G0 H0 G H : Hp} (t : Step W0 G0 H0 G H W) (n : ∀ b, W' b → W0 b ∨ H0 b = none) : Step W0 G0 H0 G H W' := ⟨t.sg, t.keep, t.dom, t.new, n⟩
theorem lay_nt {G H : Hp} {fp : List Addr} (g : ∀ b x, G b = some x → NT x) (h : ∀ b ∈ fp, ∃ x, H b = some x ∧ NT x) : ∀ b x, lay G H fp b = some x → NT x := fun b x e => by
  by_cases hb : b ∈ fp
  · rw [lay_in hb] at e
    obtain ⟨y, h1, h2⟩ := h b hb
    rw [e] at h1; cases h1; exact h2
  · rw [lay_out hb] at e; exact g b x e
/-- a passing value's places become shared -/
theorem SI.lay {K : Fr} {G H H0 : Hp} {σ : St} {ds : DS} {F : Nat → List Addr} {W0 : Addr → Prop} {fp : List Addr} (S : SI K G H σ ds F) (f : Fp G H (Wf F) W0 H0 fp) : SI K (Fx.lay G H fp) H σ ds F where
  sub := lay_same S.sub
  gnt := lay_nt S.gnt fun b hb => (f.off b hb).2.1
  tab := S.tab
  sl := S.sl
  len := S.len
  rep := fun i o e => let ⟨v, h1, h2⟩ := S.rep i o e; ⟨v, h1, h2.mono (same_lay fun b hb => (f.off b hb).1) fun _ _ _ e => e⟩
  nod := S.nod
  off := fun i a h => by
    have hn : a ∉ fp := fun z => (f.off a z).2.2 ⟨i, h⟩
    rw [lay_out hn]
    exact S.off i a h
  dis := S.dis
  obj := S.obj
  exs := S.exs
theorem Fp.lay {G H H0 : Hp} {W W0 : Addr → Prop} {fp fq : List Addr} (f : Fp G H W W0 H0 fq) (d : ∀ b ∈ fq, b ∉ fp) : Fp (Fx.lay G H fp) H W W0 H0 fq :=
  ⟨f.nod, fun a h => by rw [lay_out (d a h)]; exact f.off a h, f.new⟩
/-- slot i gives up what it owns -/
def offF (F : Nat → List Addr) (i : Nat) (fp : List Addr) : Nat → List Addr := fun j => if j = i then fp else F j
theorem SI.drop {K : Fr} {G H : Hp} {σ : St} {ds : DS} {F : Nat → List Addr} (S : SI K G H σ ds F) (i : Nat) (o : OV) (h : ds[i]? = some (some o)) :
    SI K (Fx.lay G H (F i)) H σ (ds.set i (some (.sh o.view))) (offF F i []) where
  sub := lay_same S.sub
  gnt := lay_nt S.gnt fun b hb => (S.off i b hb).2
  tab := S.tab
  sl := S.sl
  len := by rw [List.length_set]; exact S.len
  obj := fun u e => by
    obtain ⟨h1, h2, a, dx, fs, k1, k2, k3⟩ := S.obj u e
    have hi : i ≠ u.slot := fun z => by rw [z, h1] at h; cases h
    have hl : i < ds.length := (List.getElem?_eq_some_iff.mp h).1
    refine ⟨by rw [List.getElem?_set_ne hi]; exact h1, h2, a, dx, fs, k1, ?_, k3⟩
    rw [List.length_set]
    unfold offF; rw [if_neg (by omega)]; exact k2
  exs := fun p e => by
    obtain ⟨h1, h2⟩ := S.exs p e
    have hi : i ≠ p.1 := fun z => by rw [z, h1] at h; cases h
    exact ⟨by rw [List.getElem?_set_ne hi]; exact h1, h2⟩
  rep := fun j u e => by
    have sm : Same G (Fx.lay G H (F i)) := same_lay fun b hb => (S.off i b hb).1
    by_cases hj : j = i
    · subst hj
      have hl : j < ds.length := (List.getElem?_eq_some_iff.mp h).1
      rw [List.getElem?_set_self hl] at e
      cases e
      obtain ⟨v, h1, h2⟩ := S.rep j o h
      refine ⟨v, h1, h2.freeze fun b hb => (S.off j b hb).1, ?_⟩
      unfold offF; rw [if_pos rfl]
    · rw [List.getElem?_set_ne (Ne.symm hj)] at e
      obtain ⟨v, h1, h2⟩ := S.rep j u e
      refine ⟨v, h1, ?_⟩
      unfold offF; rw [if_neg hj]
      exact h2.mono sm fun _ _ _ e => e
  nod := fun j => by unfold offF; split; exact .nil; exact S.nod j
  off := fun j a ha => by
    unfold offF at ha
    split at ha
    · cases ha
    · rename_i hj
      have hn : a ∉ F i := fun z => hj (S.dis j i a ha z)
      rw [lay_out hn]
      exact S.off j a ha
  dis := fun j k a h1 h2 => by
    unfold offF at h1 h2
    split at h1
    · cases h1
    · split at h2
      · cases h2
      · exact S.dis j k a h1 h2
theorem wf_off {F : Nat → List Addr} {i : Nat} {fp : List Addr} {b : Addr} (h : Wf (offF F i fp) b) : Wf F b ∨ b ∈ fp := by
  obtain ⟨j, h⟩ := h
  unfold offF at h
  split at h
  · exact .inr h
  · exact .inl ⟨j, h⟩

def see : RV → DS → Option D
  | .ov o, _ => some o.view
  | .loc i, ds => match ds[i]? with
    | some (some o) => some o.view
    | _ => none
def frz : RV → DS → Option (D × DS)
  | .ov o, ds => some (o.view, ds)
  | .loc i, ds => match ds[i]? with
    | some (some o) => some (o.view, ds.set i (some (.sh o.view)))
    | _ => none
theorem see_ok {K : Fr} {G H : Hp} {σ : St} {ds : DS} {F : Nat → List Addr} {v : V} {r : RV} {fp : List Addr} {d : D} (S : SI K G H σ ds F) (h : VRep K G H σ v r fp) (e : see r ds = some d) : Dp K H v d := by
  cases r with
  | ov o => cases e; exact Rep.view h S.sub
  | loc i =>
    simp only [see] at e
    split at e
    · rename_i o ho
      cases e
      obtain ⟨u, h1, h2⟩ := S.rep i o ho
      obtain rfl := look_eq h1 h.1
      exact h2.view S.sub
    · cases e
theorem frz_ok {K : Fr} {G H G0 H0 : Hp} {σ : St} {ds ds' : DS} {F : Nat → List Addr} {W0 : Addr → Prop} {v : V} {r : RV} {fp fq : List Addr} {d : D} (S : SI K G H σ ds F) (t : Step W0 G0 H0 G H (Wf F)) (h : VRep K G H σ v r fp) (f : Fp G H (Wf F) W0 H0 (fp ++ fq))
    (e : frz r ds = some (d, ds')) : ∃ G' F', SI K G' H σ ds' F' ∧ Step W0 G0 H0 G' H (Wf F') ∧ Same G G' ∧ Dp K G' v d ∧ Fp G' H (Wf F') W0 H0 fq := by
  have dj : ∀ b ∈ fq, b ∉ fp := fun b h1 h2 => (List.nodup_append.mp f.nod).2.2 b h2 b h1 rfl
  cases r with
  | ov o =>
    cases e
    have n : ∀ b ∈ fp, G b = none := fun b hb => (f.left.off b hb).1
    exact ⟨_, F, S.lay f.left, t.lay n f.left.new, same_lay n, Rep.freeze h n, f.right.lay dj⟩
  | loc i =>
    simp only [frz] at e
    split at e
    · rename_i o ho
      cases e
      obtain ⟨u, h1, h2⟩ := S.rep i o ho
      have h' : σ[i]? = some (some v) := h.1
      obtain rfl := look_eq h1 h'
      have n : ∀ b ∈ F i, G b = none := fun b hb => (S.off i b hb).1
      have ow : ∀ b, Wf (offF F i []) b → W0 b ∨ H0 b = none := fun b hb => (wf_off hb).elim (t.own b) fun z => nomatch z
      refine ⟨_, _, S.drop i o ho, (t.lay n fun b hb => t.own b ⟨i, hb⟩).reown ow, same_lay n, h2.freeze n, ?_⟩
      · refine ⟨f.right.nod, fun a ha => ?_, f.right.new⟩
        obtain ⟨q1, q2, q3⟩ := f.right.off a ha
        refine ⟨?_, q2, fun z => ?_⟩
        · rw [lay_out fun z => q3 ⟨i, z⟩]; exact q1
        · rcases wf_off z with z | z
          · exact q3 z
          · cases z
    · cases e
theorem frz_see {r : RV} {ds ds' : DS} {d : D} (e : frz r ds = some (d, ds')) : see r ds = some d ∧ ∀ r', see r' ds' = see r' ds := by
  cases r with
  | ov o => cases e; exact ⟨rfl, fun _ => rfl⟩
  | loc i =>
    simp only [frz] at e
    split at e
    · rename_i o ho
      cases e
      refine ⟨by simp only [see, ho], fun r' => ?_⟩
      cases r' with
      | ov o' => rfl
      | loc j =>
        by_cases hj : i = j
        · subst hj
          have hl := (List.getElem?_eq_some_iff.mp ho).1
          simp only [see, List.getElem?_set_self hl, ho]
          rfl
        · simp only [see, List.getElem?_set_ne hj]
    · cases e
def sees : List RV → DS → Option (List D)
  | [], _ => some []
  | r :: rs, ds => (see r ds).bind fun d => (sees rs ds).map fun l => d :: l
def frzs : List RV → DS → Option (List D × DS)
  | [], ds => some ([], ds)
  | r :: rs, ds => (frz r ds).bind fun p => (frzs rs p.2).map fun q => (p.1 :: q.1, q.2)
theorem frzs_sees : ∀ {rs : List RV} {ds ds' : DS} {l : List D}, frzs rs ds = some (l, ds') → sees rs ds = some l
  | [], _, _, _, e => by cases e; rfl
  | r :: rs, ds, _, _, e => by
    simp only [frzs, Option.bind_eq_some_iff, Option.map_eq_some_iff] at e
    obtain ⟨p, h1, q, h2, h3⟩ := e
    cases h3
    obtain ⟨a, b⟩ := frz_see (d := p.1) (ds' := p.2) h1
    have c : ∀ qs : List RV, sees qs p.2 = sees qs ds := fun qs => by
      induction qs with
      | nil => rfl
      | cons q qs ih => simp only [sees, b, ih]
    have h := frzs_sees (l := q.1) (ds' := q.2) h2
    rw [c] at h
    simp only [sees, a, h]
    rfl
theorem sees_ok {K : Fr} {G H : Hp} {σ : St} {ds : DS} {F : Nat → List Addr} (S : SI K G H σ ds F) : ∀ {vs : List V} {rs : List RV} {fp : List Addr} {l : List D}, VReps K G H σ vs rs fp → sees rs ds = some l → DpAll K H vs l
  | _, _, _, _, .nil, e => by cases e; exact .nil
  | _, _, _, _, .cons a t, e => by
    simp only [sees, Option.bind_eq_some_iff, Option.map_eq_some_iff] at e
    obtain ⟨d, h1, l, h2, rfl⟩ := e
    exact .cons (see_ok S a h1) (sees_ok S t h2)
theorem VReps.mono {K : Fr} {G G' H : Hp} {σ : St} (s : Same G G') : ∀ {vs : List V} {rs : List RV} {fp : List Addr}, VReps K G H σ vs rs fp → VReps K G' H σ vs rs fp
  | _, _, _, .nil => .nil
  | _, _, _, .cons (r := r) a t => .cons (by
      cases r with
      | ov o => exact Rep.mono a s fun _ _ _ e => e
      | loc i => exact a) (VReps.mono s t)
theorem frzs_ok {K : Fr} {G0 H0 H : Hp} {σ : St} {W0 : Addr → Prop} : ∀ {rs : List RV} {vs : List V} {fp fq : List Addr} {l : List D} {G : Hp} {ds ds' : DS} {F : Nat → List Addr}, SI K G H σ ds F → Step W0 G0 H0 G H (Wf F) → VReps K G H σ vs rs fp → Fp G H (Wf F) W0 H0 (fp ++ fq) →
    frzs rs ds = some (l, ds') → ∃ G' F', SI K G' H σ ds' F' ∧ Step W0 G0 H0 G' H (Wf F') ∧ Same G G' ∧ DpAll K G' vs l ∧ Fp G' H (Wf F') W0 H0 fq
  | [], _, _, _, _, G, _, _, F, S, t, h, f, e => by
    cases h
    cases e
    exact ⟨G, F, S, t, Same.refl G, .nil, f⟩
  | r :: rs, _, _, _, _, G, _, _, F, S, t, h, f, e => by
    cases h with
    | cons a b =>
      simp only [frzs, Option.bind_eq_some_iff, Option.map_eq_some_iff] at e
      obtain ⟨p, h1, q, h2, h3⟩ := e
      cases h3
      rw [List.append_assoc] at f
      obtain ⟨G1, F1, S1, t1, s1, d1, f1⟩ := frz_ok S t a f h1
      obtain ⟨G2, F2, S2, t2, s2, d2, f2⟩ := frzs_ok S1 t1 (b.mono s1) f1 h2
      exact ⟨G2, F2, S2, t2, s1.trans s2, .cons (dpMono s2 _ _ d1) d2, f2⟩

/-! ### names, constants -/
def fVar (i : Nat) (ds : DS) : Option (RV × DS) := match ds[i]? with
  | some (some (.sh d)) => some (.ov (.sh d), ds)
  | some (some _) => some (.loc i, ds)
  | _ => none
variable {K : Fr}
theorem re_var {i : Nat} (hi : i < K.n) : RE K (tVar i) (fVar i) := by
  intro G H F σ ds r ds' Q S e q
  simp only [fVar] at e
  split at e
  · rename_i d hd
    cases e
    obtain ⟨v, h1, h2⟩ := S.rep i _ hd
    have h1 := look_at h1 (by rw [S.sl]; exact hi)
    exact ⟨v, h1, q v G H F [] S (Step.refl _ _ _) ⟨h2.1, rfl⟩ .nil⟩
  · rename_i o hne ho
    cases e
    obtain ⟨v, h1, h2⟩ := S.rep i _ ho
    have h1 := look_at h1 (by rw [S.sl]; exact hi)
    exact ⟨v, h1, q v G H F [] S (Step.refl _ _ _) ⟨h1, rfl⟩ .nil⟩
  · cases e
def fC (d : D) (ds : DS) : Option (RV × DS) := some (.ov (.sh d), ds)
theorem re_c {v : V} {d : D} (h : Sc v d) : RE K (tC v) (fC d) := by
  intro G H F σ ds r ds' Q S e q
  cases e
  exact q v G H F [] S (Step.refl _ _ _) ⟨h.dp, rfl⟩ .nil

/-! ### operators with a scalar answer -/
def VOp (K : Fr) (r : R2) (g : D → D → Option D) : Prop := ∀ (H : Hp) (x y : V) (d e z : D) (Q : VK), Dp K H x d → Dp K H y e → g d e = some z → (∀ v, Sc v z → Q v H) → r x y H Q
def VUn (K : Fr) (r : V → Hp → VK → Prop) (g : D → Option D) : Prop := ∀ (H : Hp) (x : V) (d z : D) (Q : VK), Dp K H x d → g d = some z → (∀ v, Sc v z → Q v H) → r x H Q
def VCa (K : Fr) (r : List V → Hp → VK → Prop) (g : List D → Option D) : Prop := ∀ (H : Hp) (xs : List V) (l : List D) (z : D) (Q : VK), DpAll K H xs l → g l = some z → (∀ v, Sc v z → Q v H) → r xs H Q
def fOp (g : D → D → Option D) (fa fb : DS → Option (RV × DS)) (ds : DS) : Option (RV × DS) :=
  (fa ds).bind fun p => (fb p.2).bind fun q => (see p.1 q.2).bind fun d => (see q.1 q.2).bind fun e => (g d e).map fun z => (.ov (.sh z), q.2)
theorem re_op {r : R2} {g : D → D → Option D} {ta tb : TE} {fa fb : DS → Option (RV × DS)} (hr : VOp K r g) (ha : RE K ta fa) (hb : RE K tb fb) : RE K (tOp r ta tb) (fOp g fa fb) := by
  intro G H F σ ds rv ds' Q S e q
  simp only [fOp, Option.bind_eq_some_iff, Option.map_eq_some_iff] at e
  obtain ⟨⟨ra, d1⟩, e1, ⟨rb, d2⟩, e2, d, e3, d', e4, z, e5, e6⟩ := e
  cases e6
  refine ha G H F σ ds ra d1 _ S e1 fun v1 G1 H1 F1 fp1 S1 t1 r1 f1 => ?_
  refine hb G1 H1 F1 σ d1 rb d2 _ S1 e2 fun v2 G2 H2 F2 fp2 S2 t2 r2 f2 => ?_
  refine hr H2 v1 v2 d d' z _ (see_ok S2 (r1.step f1 t2) e3) (see_ok S2 r2 e4) e5 fun v hv => ?_
  exact q v G2 H2 F2 [] S2 (t1.trans t2) ⟨hv.dp, rfl⟩ .nil
def fUn (g : D → Option D) (fa : DS → Option (RV × DS)) (ds : DS) : Option (RV × DS) :=
  (fa ds).bind fun p => (see p.1 p.2).bind fun d => (g d).map fun z => (.ov (.sh z), p.2)
theorem re_un {r : V → Hp → VK → Prop} {g : D → Option D} {ta : TE} {fa : DS → Option (RV × DS)} (hr : VUn K r g) (ha : RE K ta fa) : RE K (tUn r ta) (fUn g fa) := by
  intro G H F σ ds rv ds' Q S e q
  simp only [fUn, Option.bind_eq_some_iff, Option.map_eq_some_iff] at e
  obtain ⟨⟨ra, d1⟩, e1, d, e3, z, e5, e6⟩ := e
  cases e6
  refine ha G H F σ ds ra d1 _ S e1 fun v1 G1 H1 F1 fp1 S1 t1 r1 f1 => ?_
  refine hr H1 v1 d z _ (see_ok S1 r1 e3) e5 fun v hv => ?_
  exact q v G1 H1 F1 [] S1 t1 ⟨hv.dp, rfl⟩ .nil

/-! ### arguments -/
def fNil (ds : DS) : Option (List RV × DS) := some ([], ds)
def fCons (fa : DS → Option (RV × DS)) (fr : DS → Option (List RV × DS)) (ds : DS) : Option (List RV × DS) :=
  (fa ds).bind fun p => (fr p.2).map fun q => (p.1 :: q.1, q.2)
theorem ra_nil : RA K tNil fNil := by
  intro G H F σ ds rs ds' Q S e q
  cases e
  exact q [] G H F [] S (Step.refl _ _ _) .nil .nil
theorem ra_cons {ta : TE} {tr : TA} {fa : DS → Option (RV × DS)} {fr : DS → Option (List RV × DS)} (ha : RE K ta fa) (hr : RA K tr fr) : RA K (tCons ta tr) (fCons fa fr) := by
  intro G H F σ ds rs ds' Q S e q
  simp only [fCons, Option.bind_eq_some_iff, Option.map_eq_some_iff] at e
  obtain ⟨⟨ra, d1⟩, e1, ⟨rb, d2⟩, e2, e6⟩ := e
  cases e6
  refine ha G H F σ ds ra d1 _ S e1 fun v1 G1 H1 F1 fp1 S1 t1 r1 f1 => ?_
  refine hr G1 H1 F1 σ d1 rb d2 _ S1 e2 fun v2 G2 H2 F2 fp2 S2 t2 r2 f2 => ?_
  refine q (v1 :: v2) G2 H2 F2 (fp1 ++ fp2) S2 (t1.trans t2) (.cons (r1.step f1 t2) r2) ((f1.step t2).app (f2.since t1) fun x h1 h2 => ?_)
  obtain ⟨_, ⟨y, hy⟩, nw⟩ := f1.off x h1
  rcases f2.new x h2 with z | z
  · exact nw z
  · rw [hy.1] at z; cases z

/-! ### calls of built-ins -/
def fCa (g : List D → Option D) (fa : DS → Option (List RV × DS)) (ds : DS) : Option (RV × DS) :=
  (fa ds).bind fun p => (sees p.1 p.2).bind fun l => (g l).map fun z => (.ov (.sh z), p.2)
theorem re_cb {r : List V → Hp → VK → Prop} {g : List D → Option D} {t : TA} {fa : DS → Option (List RV × DS)} (hr : VCa K r g) (ha : RA K t fa) : RE K (tCB r t) (fCa g fa) := by
  intro G H F σ ds rv ds' Q S e q
  simp only [fCa, Option.bind_eq_some_iff, Option.map_eq_some_iff] at e
  obtain ⟨⟨ra, d1⟩, e1, l, e3, z, e5, e6⟩ := e
  cases e6
  refine ha G H F σ ds ra d1 _ S e1 fun v1 G1 H1 F1 fp1 S1 t1 r1 f1 => ?_
  refine hr H1 v1 l z _ (sees_ok S1 r1 e3) e5 fun v hv => ?_
  exact q v G1 H1 F1 [] S1 t1 ⟨hv.dp, rfl⟩ .nil
/-- a call (an operator) that makes a new list of shared items -/
def NCa (K : Fr) (r : List V → Hp → VK → Prop) (g : List D → Option (List D)) : Prop := ∀ (G H : Hp) (xs : List V) (l z : List D) (Q : VK), Same G H → DpAll K G xs l → g l = some z →
  (∀ p ys, H p = none → DpAll K G ys z → Q (.ref p) (upd H p (.lst ys))) → r xs H Q
def NOp (K : Fr) (r : R2) (g : D → D → Option (List D)) : Prop := ∀ (G H : Hp) (x y : V) (d e : D) (z : List D) (Q : VK), Same G H → Dp K G x d → Dp K G y e → g d e = some z →
  (∀ p ys, H p = none → DpAll K G ys z → Q (.ref p) (upd H p (.lst ys))) → r x y H Q
/-- behind a new list -/
theorem new_list {G0 H0 G H : Hp} {σ : St} {ds : DS} {F : Nat → List Addr} {W0 : Addr → Prop} {p : Addr} {ys : List V} {z : List D} (S : SI K G H σ ds F) (t : Step W0 G0 H0 G H (Wf F)) (hp : H p = none) (hd : DpAll K G ys z) :
    SI K G (upd H p (.lst ys)) σ ds F ∧ Step W0 G0 H0 G (upd H p (.lst ys)) (Wf F) ∧ Rep K G (upd H p (.lst ys)) (.ref p) (.flat z) [p] ∧ Fp G (upd H p (.lst ys)) (Wf F) W0 H0 [p] := by
  have s2 : Same H (upd H p (.lst ys)) := fun b x e => by rw [upd_ne (ne_of_none e hp)]; exact e
  have gp : G p = none := S.sub.free hp
  refine ⟨S.grow (Same.refl G) s2 (S.sub.trans s2) (fun b x e => .inl ⟨x, e⟩) S.gnt (nt_upd nt_lst), t.trans (Step.grow (Same.refl G) s2 fun b x e => .inl ⟨x, e⟩), ⟨p, ys, rfl, upd_same, hd, rfl⟩, ⟨by simp, fun a ha => ?_, fun a ha => ?_⟩⟩
  · obtain rfl : a = p := by simpa using ha
    refine ⟨gp, ⟨_, upd_same, nt_lst⟩, fun ⟨i, hi⟩ => ?_⟩
    obtain ⟨_, x, h⟩ := S.off i a hi
    rw [hp] at h; cases h.1
  · obtain rfl : a = p := by simpa using ha
    exact .inr (t.back hp)
def fNew (g : List D → Option (List D)) (fa : DS → Option (List RV × DS)) (ds : DS) : Option (RV × DS) :=
  (fa ds).bind fun p => (frzs p.1 p.2).bind fun q => (g q.1).map fun z => (.ov (.flat z), q.2)
theorem re_new {r : List V → Hp → VK → Prop} {g : List D → Option (List D)} {t : TA} {fa : DS → Option (List RV × DS)} (hr : NCa K r g) (ha : RA K t fa) : RE K (tCB r t) (fNew g fa) := by
  intro G H F σ ds rv ds' Q S e q
  simp only [fNew, Option.bind_eq_some_iff, Option.map_eq_some_iff] at e
  obtain ⟨⟨ra, d1⟩, e1, ⟨l, d2⟩, e3, z, e5, e6⟩ := e
  cases e6
  refine ha G H F σ ds ra d1 _ S e1 fun v1 G1 H1 F1 fp1 S1 t1 r1 f1 => ?_
  obtain ⟨G2, F2, S2, t2, s2, dd, _⟩ := frzs_ok (fq := []) S1 t1 r1 (by rw [List.append_nil]; exact f1) e3
  refine hr G2 H1 v1 l z _ S2.sub dd e5 fun p ys hp hd => ?_
  obtain ⟨S3, t3, r3, f3⟩ := new_list S2 t2 hp hd
  exact q _ _ _ _ _ S3 t3 r3 f3
def fNewOp (g : D → D → Option (List D)) (fa fb : DS → Option (RV × DS)) (ds : DS) : Option (RV × DS) :=
  (fa ds).bind fun p => (fb p.2).bind fun q => (frzs [p.1, q.1] q.2).bind fun w => match w.1 with
    | [d, e] => (g d e).map fun z => (.ov (.flat z), w.2)
    | _ => none
theorem re_newop {r : R2} {g : D → D → Option (List D)} {ta tb : TE} {fa fb : DS → Option (RV × DS)} (hr : NOp K r g) (ha : RE K ta fa) (hb : RE K tb fb) : RE K (tOp r ta tb) (fNewOp g fa fb) := by
  intro G H F σ ds rv ds' Q S e q
  simp only [fNewOp, Option.bind_eq_some_iff] at e
  obtain ⟨⟨ra, d1⟩, e1, ⟨rb, d2⟩, e2, ⟨l, d3⟩, e3, e6⟩ := e
  split at e6
  · rename_i d d' hl
    simp only [Option.map_eq_some_iff] at e6
    obtain ⟨z, e5, e6⟩ := e6
    cases e6
    refine ha G H F σ ds ra d1 _ S e1 fun v1 G1 H1 F1 fp1 S1 t1 r1 f1 => ?_
    refine hb G1 H1 F1 σ d1 rb d2 _ S1 e2 fun v2 G2 H2 F2 fp2 S2 t2 r2 f2 => ?_
    have ff : Fp G2 H2 (Wf F2) (Wf F) H (fp1 ++ fp2) := (f1.step t2).app (f2.since t1) fun x h1 h2 => by
      obtain ⟨_, ⟨y, hy⟩, nw⟩ := f1.off x h1
      rcases f2.new x h2 with z | z
      · exact nw z
      · rw [hy.1] at z; cases z
    have hh : VReps K G2 H2 σ [v1, v2] [ra, rb] (fp1 ++ fp2) := by
      have := VReps.cons (r1.step f1 t2) (VReps.cons r2 VReps.nil)
      rwa [List.append_nil] at this
    obtain ⟨G3, F3, S3, t3, s3, dd, _⟩ := frzs_ok (fq := []) S2 (t1.trans t2) hh (by rw [List.append_nil]; exact ff) e3
    have hl' : l = [d, d'] := hl
    rw [hl'] at dd
    cases dd with
    | cons da dr =>
      cases dr with
      | cons db dn =>
        refine hr G3 H2 v1 v2 d d' z _ S3.sub da db e5 fun p ys hp hd => ?_
        obtain ⟨S4, t4, r4, f4⟩ := new_list S3 t3 hp hd
        exact q _ _ _ _ _ S4 t4 r4 f4
  · cases e6

/-! ### displays -/
/-- [a, b, ..] of shared items -/
def fLst (fa : DS → Option (List RV × DS)) (ds : DS) : Option (RV × DS) := (fa ds).bind fun p => (frzs p.1 p.2).bind fun q => if q.1.length ≤ 1000 then some (.ov (.flat q.1), q.2) else none
theorem re_lst {t : TA} {fa : DS → Option (List RV × DS)} (ha : RA K t fa) : RE K (tLst t) (fLst fa) := by
  intro G H F σ ds rv ds' Q S e q
  simp only [fLst, Option.bind_eq_some_iff] at e
  obtain ⟨⟨ra, d1⟩, e1, ⟨l, d2⟩, e3, e6⟩ := e
  split at e6
  · rename_i hz
    cases e6
    refine ha G H F σ ds ra d1 _ S e1 fun v1 G1 H1 F1 fp1 S1 t1 r1 f1 => ?_
    obtain ⟨G2, F2, S2, t2, s2, dd, _⟩ := frzs_ok (fq := []) S1 t1 r1 (by rw [List.append_nil]; exact f1) e3
    refine ⟨by rw [dpsLen dd]; exact Nat.le_of_lt (small1000 hz), fun p hp => ?_⟩
    obtain ⟨S4, t4, r4, f4⟩ := new_list S2 t2 hp dd
    exact q _ _ _ _ _ S4 t4 r4 f4
  · cases e6
/-- (a, b, ..) of shared items -/
def fTup (fa : DS → Option (List RV × DS)) (ds : DS) : Option (RV × DS) := (fa ds).bind fun p => (frzs p.1 p.2).bind fun q => if q.1.length ≤ 1000 then some (.ov (.sh (.tuple q.1)), q.2) else none
theorem new_tup {G0 H0 G H : Hp} {σ : St} {ds : DS} {F : Nat → List Addr} {W0 : Addr → Prop} {p : Addr} {ys : List V} {z : List D} (S : SI K G H σ ds F) (t : Step W0 G0 H0 G H (Wf F)) (hp : H p = none) (hd : DpAll K G ys z) :
    SI K (upd G p (.tup ys)) (upd H p (.tup ys)) σ ds F ∧ Step W0 G0 H0 (upd G p (.tup ys)) (upd H p (.tup ys)) (Wf F) ∧ Same G (upd G p (.tup ys)) ∧ Dp K (upd G p (.tup ys)) (.ref p) (.tuple z) := by
  have gp : G p = none := S.sub.free hp
  have s2 : Same H (upd H p (.tup ys)) := fun b x e => by rw [upd_ne (ne_of_none e hp)]; exact e
  have s1 : Same G (upd G p (.tup ys)) := fun b x e => by rw [upd_ne (ne_of_none e gp)]; exact e
  have s3 : Same (upd G p (.tup ys)) (upd H p (.tup ys)) := fun b x e => by
    by_cases h : b = p
    · subst h; rw [upd_same] at e ⊢; exact e
    · rw [upd_ne h] at e ⊢; exact S.sub b x e
  have n : ∀ b x, (upd G p (.tup ys)) b = some x → (∃ y, G b = some y) ∨ H b = none := fun b x e => by
    by_cases h : b = p
    · subst h; exact .inr hp
    · rw [upd_ne h] at e; exact .inl ⟨x, e⟩
  have nt : ∀ b x, (upd G p (.tup ys)) b = some x → NT x := fun b x e => by
    by_cases h : b = p
    · subst h; rw [upd_same] at e; cases e; exact nt_tup
    · rw [upd_ne h] at e; exact S.gnt b x e
  exact ⟨S.grow s1 s2 s3 n nt (nt_upd nt_tup), t.trans (Step.grow s1 s2 n), s1, .tup (SqT.of upd_same) (dpsMono s1 z ys hd)⟩
theorem re_tup {t : TA} {fa : DS → Option (List RV × DS)} (ha : RA K t fa) : RE K (tTup t) (fTup fa) := by
  intro G H F σ ds rv ds' Q S e q
  simp only [fTup, Option.bind_eq_some_iff] at e
  obtain ⟨⟨ra, d1⟩, e1, ⟨l, d2⟩, e3, e6⟩ := e
  split at e6
  · rename_i hz
    cases e6
    refine ha G H F σ ds ra d1 _ S e1 fun v1 G1 H1 F1 fp1 S1 t1 r1 f1 => ?_
    obtain ⟨G2, F2, S2, t2, s2, dd, _⟩ := frzs_ok (fq := []) S1 t1 r1 (by rw [List.append_nil]; exact f1) e3
    refine ⟨by rw [dpsLen dd]; exact Nat.le_of_lt (small1000 hz), fun p hp => ?_⟩
    obtain ⟨S4, t4, s4, r4⟩ := new_tup S2 t2 hp dd
    exact q _ _ _ _ [] S4 t4 ⟨r4, rfl⟩ .nil
  · cases e6

end Fx
set_option Elab.async false
set_option linter.all false
set_option maxRecDepth 100000
namespace Fx
open PySem PySem.Spec L2
variable {K : Fr}

/-! ### tests -/
def fBool (f : DS → Option (RV × DS)) (ds : DS) : Option (Bool × DS) := (f ds).bind fun p => match p.1 with
  | .ov (.sh (.bool b)) => some (b, p.2)
  | _ => none
theorem rt_bool {t : TE} {f : DS → Option (RV × DS)} (h : RE K t f) : RT K (tTest t) (fBool f) := by
  intro G H F σ ds b ds' Q S e q
  simp only [fBool, Option.bind_eq_some_iff] at e
  obtain ⟨⟨r, d1⟩, e1, e2⟩ := e
  split at e2
  · rename_i b' hb
    cases e2
    have hb : r = .ov (.sh (.bool b)) := hb
    subst hb
    refine h G H F σ ds _ _ _ S e1 fun v G1 H1 F1 fp1 S1 t1 r1 f1 => ?_
    have r1 : Dp K G1 v (.bool b) := r1.1
    cases r1
    exact ⟨b, rfl, q G1 H1 F1 S1 t1⟩
  · cases e2
/-- the truth of data -/
def truD : D → Option Bool
  | .none => some false
  | .bool b => some b
  | .int i => some (i != 0)
  | .list l => some (!l.isEmpty)
  | .tuple l => some (!l.isEmpty)
  | .str _ => none
  | .dict _ => none
theorem tru_ok {H : Hp} {v : V} {d : D} {b : Bool} (h : Dp K H v d) (e : truD d = some b) : TruV K v H b := by
  cases h with
  | non => cases e; rfl
  | bl c => cases e; rfl
  | int i => cases e; rfl
  | str x => cases e
  | @lst a xs ds h1 h2 =>
    refine .inl ⟨xs, h1, ?_⟩
    have e : (!ds.isEmpty) = b := Option.some.inj e
    rw [← e]
    cases h2 <;> rfl
  | @tup a xs ds h1 h2 =>
    refine .inr (.inl ⟨xs, h1, ?_⟩)
    have e : (!ds.isEmpty) = b := Option.some.inj e
    rw [← e]
    cases h2 <;> rfl
def tTru (K : Fr) (ta : TE) : TT := fun σ H Q => ta σ H fun x H' => ∃ k, TruV K x H' k ∧ Q k H'
def fTru (f : DS → Option (RV × DS)) (ds : DS) : Option (Bool × DS) := (f ds).bind fun p => (see p.1 p.2).bind fun d => (truD d).map fun b => (b, p.2)
theorem rt_tru {t : TE} {f : DS → Option (RV × DS)} (h : RE K t f) : RT K (tTru K t) (fTru f) := by
  intro G H F σ ds b ds' Q S e q
  simp only [fTru, Option.bind_eq_some_iff, Option.map_eq_some_iff] at e
  obtain ⟨⟨r, d1⟩, e1, d, e2, b', e3, e4⟩ := e
  cases e4
  refine h G H F σ ds _ _ _ S e1 fun v G1 H1 F1 fp1 S1 t1 r1 f1 => ?_
  exact ⟨b, tru_ok (see_ok S1 r1 e2) e3, q G1 H1 F1 S1 t1⟩
def fAndT (f g : DS → Option (Bool × DS)) (ds : DS) : Option (Bool × DS) := (f ds).bind fun p => if p.1 = true then g p.2 else some (false, p.2)
def fOrT (f g : DS → Option (Bool × DS)) (ds : DS) : Option (Bool × DS) := (f ds).bind fun p => if p.1 = true then some (true, p.2) else g p.2
def fNotT (f : DS → Option (Bool × DS)) (ds : DS) : Option (Bool × DS) := (f ds).map fun p => (!p.1, p.2)
theorem rt_and {t u : TT} {f g : DS → Option (Bool × DS)} (h : RT K t f) (k : RT K u g) : RT K (tAnd t u) (fAndT f g) := by
  intro G H F σ ds b ds' Q S e q
  simp only [fAndT, Option.bind_eq_some_iff] at e
  obtain ⟨⟨c, d1⟩, e1, e2⟩ := e
  refine h G H F σ ds c d1 _ S e1 fun G1 H1 F1 S1 t1 => ?_
  cases c with
  | true => exact k G1 H1 F1 σ d1 b ds' Q S1 e2 fun G2 H2 F2 S2 t2 => q G2 H2 F2 S2 (t1.trans t2)
  | false => cases e2; exact q G1 H1 F1 S1 t1
theorem rt_or {t u : TT} {f g : DS → Option (Bool × DS)} (h : RT K t f) (k : RT K u g) : RT K (tOr t u) (fOrT f g) := by
  intro G H F σ ds b ds' Q S e q
  simp only [fOrT, Option.bind_eq_some_iff] at e
  obtain ⟨⟨c, d1⟩, e1, e2⟩ := e
  refine h G H F σ ds c d1 _ S e1 fun G1 H1 F1 S1 t1 => ?_
  cases c with
  | false => exact k G1 H1 F1 σ d1 b ds' Q S1 e2 fun G2 H2 F2 S2 t2 => q G2 H2 F2 S2 (t1.trans t2)
  | true => cases e2; exact q G1 H1 F1 S1 t1
theorem rt_not {t : TT} {f : DS → Option (Bool × DS)} (h : RT K t f) : RT K (tNot t) (fNotT f) := by
  intro G H F σ ds b ds' Q S e q
  simp only [fNotT, Option.map_eq_some_iff] at e
  obtain ⟨⟨c, d1⟩, e1, e2⟩ := e
  cases e2
  exact h G H F σ ds c _ _ S e1 fun G1 H1 F1 S1 t1 => q G1 H1 F1 S1 t1
def fYes (ds : DS) : Option (Bool × DS) := some (true, ds)
theorem rt_yes : RT K tYes fYes := by
  intro G H F σ ds b ds' Q S e q
  cases e
  exact q G H F S (Step.refl _ _ _)
/-- as values -/
def fAndV (f g : DS → Option (RV × DS)) (ds : DS) : Option (RV × DS) := (fBool f ds).bind fun p => if p.1 = true then g p.2 else some (.ov (.sh (.bool false)), p.2)
def fOrV (f g : DS → Option (RV × DS)) (ds : DS) : Option (RV × DS) := (fBool f ds).bind fun p => if p.1 = true then some (.ov (.sh (.bool true)), p.2) else g p.2
def fNotV (f : DS → Option (RV × DS)) (ds : DS) : Option (RV × DS) := (fBool f ds).map fun p => (.ov (.sh (.bool (!p.1))), p.2)
theorem re_and {t u : TE} {f g : DS → Option (RV × DS)} (h : RE K t f) (k : RE K u g) : RE K (tAndV t u) (fAndV f g) := by
  intro G H F σ ds r ds' Q S e q
  simp only [fAndV, Option.bind_eq_some_iff] at e
  obtain ⟨⟨c, d1⟩, e1, e2⟩ := e
  refine rt_bool h G H F σ ds c d1 (fun c H1 => if c = true then u σ H1 Q else Q (.bl false) H1) S e1 fun G1 H1 F1 S1 t1 => ?_
  cases c with
  | true => exact k G1 H1 F1 σ d1 r ds' Q S1 e2 fun v G2 H2 F2 fp S2 t2 r2 f2 => q v G2 H2 F2 fp S2 (t1.trans t2) r2 (f2.since t1)
  | false => cases e2; exact q _ G1 H1 F1 [] S1 t1 ⟨.bl _, rfl⟩ .nil
theorem re_or {t u : TE} {f g : DS → Option (RV × DS)} (h : RE K t f) (k : RE K u g) : RE K (tOrV t u) (fOrV f g) := by
  intro G H F σ ds r ds' Q S e q
  simp only [fOrV, Option.bind_eq_some_iff] at e
  obtain ⟨⟨c, d1⟩, e1, e2⟩ := e
  refine rt_bool h G H F σ ds c d1 (fun c H1 => if c = true then Q (.bl true) H1 else u σ H1 Q) S e1 fun G1 H1 F1 S1 t1 => ?_
  cases c with
  | false => exact k G1 H1 F1 σ d1 r ds' Q S1 e2 fun v G2 H2 F2 fp S2 t2 r2 f2 => q v G2 H2 F2 fp S2 (t1.trans t2) r2 (f2.since t1)
  | true => cases e2; exact q _ G1 H1 F1 [] S1 t1 ⟨.bl _, rfl⟩ .nil
theorem re_not {t : TE} {f : DS → Option (RV × DS)} (h : RE K t f) : RE K (tNotV t) (fNotV f) := by
  intro G H F σ ds r ds' Q S e q
  simp only [fNotV, Option.map_eq_some_iff] at e
  obtain ⟨⟨c, d1⟩, e1, e2⟩ := e
  cases e2
  exact rt_bool h G H F σ ds c _ (fun c H1 => Q (.bl (!c)) H1) S e1 fun G1 H1 F1 S1 t1 => q _ G1 H1 F1 [] S1 t1 ⟨.bl _, rfl⟩ .nil
def fIf (c : DS → Option (Bool × DS)) (f g : DS → Option (RV × DS)) (ds : DS) : Option (RV × DS) := (c ds).bind fun p => if p.1 = true then f p.2 else g p.2
theorem re_if {tc : TT} {t u : TE} {c : DS → Option (Bool × DS)} {f g : DS → Option (RV × DS)} (hc : RT K tc c) (h : RE K t f) (k : RE K u g) : RE K (tIf tc t u) (fIf c f g) := by
  intro G H F σ ds r ds' Q S e q
  simp only [fIf, Option.bind_eq_some_iff] at e
  obtain ⟨⟨b, d1⟩, e1, e2⟩ := e
  refine hc G H F σ ds b d1 _ S e1 fun G1 H1 F1 S1 t1 => ?_
  cases b with
  | true => exact h G1 H1 F1 σ d1 r ds' Q S1 e2 fun v G2 H2 F2 fp S2 t2 r2 f2 => q v G2 H2 F2 fp S2 (t1.trans t2) r2 (f2.since t1)
  | false => exact k G1 H1 F1 σ d1 r ds' Q S1 e2 fun v G2 H2 F2 fp S2 t2 r2 f2 => q v G2 H2 F2 fp S2 (t1.trans t2) r2 (f2.since t1)

/-! ### targets -/
theorem same_sqt {G H : Hp} {a : Addr} {xs : List V} (s : Same G H) (h : SqT K G a xs) : SqT K H a xs := by
  rcases h with (h | ⟨o, h⟩) | h
  · exact .inl (.inl (s _ _ h))
  · exact .inl (.inr ⟨o, s _ _ h⟩)
  · exact .inr h
theorem Kc.free_ne {K : Kc} {i : Nat} (h : K.free i) {o : Ob} (e : K.ob = some o) : o.slot ≠ i := by
  unfold Kc.free at h
  have h := h.1
  rw [e] at h
  exact h
theorem Kc.free_ex {K : Kc} {i : Nat} (h : K.free i) {p : Nat × Addr} (e : K.ex = some p) : p.1 ≠ i := by
  unfold Kc.free at h
  have h := h.2
  rw [e] at h
  exact h
theorem look_set {K : Kc} {H : Hp} {σ : St} {i j : Nat} {w : V} {x : Option V} (hf : K.free i) (hj : j ≠ i) (h : look K H σ j w) : look K H (σ.set i x) j w := by
  rcases h with h | ⟨h, o, a, C, dx, fs, n, h1, h2, h3⟩
  · exact .inl (by rw [List.getElem?_set_ne (Ne.symm hj)]; exact h)
  · refine .inr ⟨by rw [List.length_set]; exact h, o, a, C, dx, fs, n, h1, by rw [List.getElem?_set_ne (Ne.symm (Kc.free_ne hf h1))]; exact h2, ?_⟩
    rw [List.length_set]; exact h3
/-- slot i gets a value -/
theorem SI.put {G H H0 : Hp} {σ : St} {ds : DS} {F : Nat → List Addr} {W0 : Addr → Prop} {v : V} {o : OV} {fp : List Addr} (S : SI K G H σ ds F) (i : Nat) (hi : i < K.n) (hf : K.free i) (r : Rep K G H v o fp) (f : Fp G H (Wf F) W0 H0 fp) : SI K G H (σ.set i (some v)) (ds.set i (some o)) (offF F i fp) where
  sub := S.sub
  gnt := S.gnt
  tab := S.tab
  sl := by rw [List.length_set]; exact S.sl
  len := by rw [List.length_set]; exact S.len
  obj := fun u e => by
    obtain ⟨h1, h2, a, dx, fs, k1, k2, k3⟩ := S.obj u e
    have hn := Kc.free_ne hf e
    refine ⟨by rw [List.getElem?_set_ne (Ne.symm hn)]; exact h1, by rw [List.length_set]; exact h2, a, dx, fs, by rw [List.getElem?_set_ne (Ne.symm hn)]; exact k1, ?_, k3⟩
    rw [List.length_set]
    have := S.len
    unfold offF; rw [if_neg (by omega)]; exact k2
  exs := fun p e => by
    obtain ⟨h1, h2⟩ := S.exs p e
    have hn := Kc.free_ex hf e
    exact ⟨by rw [List.getElem?_set_ne (Ne.symm hn)]; exact h1, by rw [List.getElem?_set_ne (Ne.symm hn)]; exact h2⟩
  rep := fun j u e => by
    by_cases hj : j = i
    · subst hj
      have hl : j < ds.length := by
        have := (List.getElem?_eq_some_iff.mp e).1
        rwa [List.length_set] at this
      rw [List.getElem?_set_self hl] at e
      cases e
      refine ⟨v, .inl (List.getElem?_set_self (by rw [S.sl]; exact hi)), ?_⟩
      unfold offF; rw [if_pos rfl]
      exact r
    · rw [List.getElem?_set_ne (Ne.symm hj)] at e
      obtain ⟨w, h1, h2⟩ := S.rep j u e
      refine ⟨w, look_set hf hj h1, ?_⟩
      unfold offF; rw [if_neg hj]
      exact h2
  nod := fun j => by unfold offF; split; exact f.nod; exact S.nod j
  off := fun j a ha => by
    unfold offF at ha
    split at ha
    · exact ⟨(f.off a ha).1, (f.off a ha).2.1⟩
    · exact S.off j a ha
  dis := fun j k a h1 h2 => by
    unfold offF at h1 h2
    split at h1
    · split at h2
      · rename_i e1 e2
        rw [e1, e2]
      · exact absurd ⟨k, h2⟩ (f.off a h1).2.2
    · split at h2
      · exact absurd ⟨j, h1⟩ (f.off a h2).2.2
      · exact S.dis j k a h1 h2
theorem Step.put {W0 : Addr → Prop} {G0 H0 G H : Hp} {F : Nat → List Addr} {i : Nat} {fp : List Addr} (t : Step W0 G0 H0 G H (Wf F)) (n : ∀ a ∈ fp, W0 a ∨ H0 a = none) : Step W0 G0 H0 G H (Wf (offF F i fp)) :=
  t.reown fun b hb => (wf_off hb).elim (t.own b) (n b)
/-- a target's reading stores shared data -/
def RG (K : Fr) (T : List Nat) (g : TG) (fg : D → DS → Option DS) : Prop := ∀ (G H : Hp) (F : Nat → List Addr) (σ : St) (ds : DS) (v : V) (d : D) (ds' : DS) (Q : St → Hp → Prop), SI K G H σ ds F → Dp K G v d → fg d ds = some ds' →
  (∀ σ' F', SI K G H σ' ds' F' → (∀ b, Wf F' b → Wf F b) → Off T σ σ' → Q σ' H) → g v σ H Q
def fgName (i : Nat) (d : D) (ds : DS) : Option DS := some (ds.set i (some (.sh d)))
theorem rg_name {i : Nat} (hi : i < K.n) (hf : K.free i) : RG K [i] (gName i) (fgName i) := by
  intro G H F σ ds v d ds' Q S h e q
  cases e
  exact q _ _ (S.put i hi hf (W0 := Wf F) (H0 := H) ⟨h, rfl⟩ .nil) (fun b hb => (wf_off hb).elim id fun z => nomatch z) ⟨List.length_set, fun j hj => List.getElem?_set_ne fun e => hj (by simp [e])⟩
/-- several targets -/
def RGs (K : Fr) (T : List Nat) (g : TGs) (fg : List D → DS → Option DS) : Prop := ∀ (G H : Hp) (F : Nat → List Addr) (σ : St) (ds : DS) (vs : List V) (l : List D) (ds' : DS) (Q : St → Hp → Prop), SI K G H σ ds F → DpAll K G vs l → fg l ds = some ds' →
  (∀ σ' F', SI K G H σ' ds' F' → (∀ b, Wf F' b → Wf F b) → Off T σ σ' → Q σ' H) → g vs σ H Q
def fgNil (l : List D) (ds : DS) : Option DS := match l with
  | [] => some ds
  | _ => none
def fgCons (f : D → DS → Option DS) (g : List D → DS → Option DS) (l : List D) (ds : DS) : Option DS := match l with
  | d :: r => (f d ds).bind fun ds1 => g r ds1
  | [] => none
theorem rgs_nil : RGs K [] gNil fgNil := by
  intro G H F σ ds vs l ds' Q S h e q
  cases h with
  | nil => cases e; exact ⟨rfl, q σ F S (fun _ h => h) ⟨rfl, fun _ _ => rfl⟩⟩
  | cons _ _ => cases e
theorem rgs_cons {T T' : List Nat} {t : TG} {u : TGs} {f : D → DS → Option DS} {g : List D → DS → Option DS} (h1 : RG K T t f) (h2 : RGs K T' u g) : RGs K (T ++ T') (gCons t u) (fgCons f g) := by
  intro G H F σ ds vs l ds' Q S h e q
  cases h with
  | nil => cases e
  | cons a b =>
    simp only [fgCons, Option.bind_eq_some_iff] at e
    obtain ⟨d1, e1, e2⟩ := e
    refine ⟨_, _, rfl, h1 G H F σ ds _ _ d1 _ S a e1 fun σ1 F1 S1 w1 o1 => ?_⟩
    refine h2 G H F1 σ1 d1 _ _ ds' Q S1 b e2 fun σ2 F2 S2 w2 o2 => q σ2 F2 S2 (fun x hx => w1 x (w2 x hx)) ⟨o2.1.trans o1.1, fun i hi => ?_⟩
    rw [List.mem_append, not_or] at hi
    exact (o2.2 i hi.2).trans (o1.2 i hi.1)
def fgTup (n : Nat) (g : List D → DS → Option DS) (d : D) (ds : DS) : Option DS := match d with
  | .tuple l => if l.length = n then g l ds else none
  | _ => none
theorem rg_tup {T : List Nat} {n : Nat} {t : TGs} {g : List D → DS → Option DS} (h : RGs K T t g) : RG K T (gTup K n t) (fgTup n g) := by
  intro G H F σ ds v d ds' Q S hd e q
  cases hd with
  | tup h1 h2 =>
    simp only [fgTup] at e
    split at e
    · rename_i hn
      exact ⟨_, _, rfl, same_sqt S.sub h1, by rw [dpsLen h2]; exact hn, h G H F σ ds _ _ ds' Q S h2 e q⟩
    · cases e
  | _ => cases e

/-- slot i is shut -/
theorem SI.shut {G H : Hp} {σ : St} {ds : DS} {F : Nat → List Addr} (S : SI K G H σ ds F) (i : Nat) (hi : i < K.n) : SI K G H σ (ds.set i none) (offF F i []) where
  sub := S.sub
  gnt := S.gnt
  tab := S.tab
  sl := S.sl
  len := by rw [List.length_set]; exact S.len
  obj := fun u e => by
    obtain ⟨h1, h2, a, dx, fs, k1, k2, k3⟩ := S.obj u e
    refine ⟨?_, h2, a, dx, fs, k1, ?_, k3⟩
    · by_cases hn : i = u.slot
      · subst hn
        exact List.getElem?_set_self (List.getElem?_eq_some_iff.mp h1).1
      · rw [List.getElem?_set_ne hn]; exact h1
    · rw [List.length_set]
      have := S.len
      unfold offF; rw [if_neg (by omega)]; exact k2
  exs := fun p e => by
    obtain ⟨h1, h2⟩ := S.exs p e
    refine ⟨?_, h2⟩
    by_cases hn : i = p.1
    · subst hn
      exact List.getElem?_set_self (List.getElem?_eq_some_iff.mp h1).1
    · rw [List.getElem?_set_ne hn]; exact h1
  rep := fun j o e => by
    by_cases hj : j = i
    · subst hj
      by_cases hl : j < ds.length
      · rw [List.getElem?_set_self hl] at e; cases e
      · rw [List.getElem?_eq_none (by rw [List.length_set]; omega)] at e; cases e
    · rw [List.getElem?_set_ne (Ne.symm hj)] at e
      obtain ⟨v, h1, h2⟩ := S.rep j o e
      refine ⟨v, h1, ?_⟩
      unfold offF; rw [if_neg hj]
      exact h2
  nod := fun j => by unfold offF; split; exact .nil; exact S.nod j
  off := fun j a ha => by
    unfold offF at ha
    split at ha
    · cases ha
    · exact S.off j a ha
  dis := fun j k a h1 h2 => by
    unfold offF at h1 h2
    split at h1
    · cases h1
    · split at h2
      · cases h2
      · exact S.dis j k a h1 h2
theorem wf_shut {F : Nat → List Addr} {i : Nat} {b : Addr} (h : Wf (offF F i []) b) : Wf F b := (wf_off h).elim id fun z => nomatch z
/-! ### statements -/
section
variable {Z : Zc}
def fNext (ds : DS) : Option Out := some (.nx ds)
theorem rs_next : RS K Z [] tNext fNext := by
  intro G H F σ ds o E S e q
  cases e
  exact q σ G H F S (Step.refl _ _ _) (Off.refl _ _)
def fBreak (ds : DS) : Option Out := some (.bk ds)
theorem rs_break : RS K Z [] tBreak fBreak := by
  intro G H F σ ds o E S e q
  cases e
  exact q σ G H F S (Step.refl _ _ _) (Off.refl _ _)
def fCont (ds : DS) : Option Out := some (.ct ds)
theorem rs_cont : RS K Z [] tCont fCont := by
  intro G H F σ ds o E S e q
  cases e
  exact q σ G H F S (Step.refl _ _ _) (Off.refl _ _)
def fSeq (f g : DS → Option Out) (ds : DS) : Option Out := (f ds).bind fun o => match o with
  | .nx d => g d
  | o => some o
theorem rs_seq {T T' : List Nat} {t u : TS} {f g : DS → Option Out} (h : RS K Z T t f) (k : RS K Z T' u g) : RS K Z (T ++ T') (tSeq t u) (fSeq f g) := by
  intro G H F σ ds o E S e q
  simp only [fSeq, Option.bind_eq_some_iff] at e
  obtain ⟨o1, e1, e2⟩ := e
  refine h G H F σ ds o1 _ S e1 ?_
  cases o1 with
  | nx d => exact fun σ1 G1 H1 F1 S1 t1 f1 => k G1 H1 F1 σ1 d o E S1 e2 (Ended.later t1 f1.left (fun i hi => List.mem_append_right _ hi) q)
  | bk d => cases e2; exact fun σ1 G1 H1 F1 S1 t1 f1 => q σ1 G1 H1 F1 S1 t1 f1.left
  | ct d => cases e2; exact fun σ1 G1 H1 F1 S1 t1 f1 => q σ1 G1 H1 F1 S1 t1 f1.left
  | ret r d => cases e2; exact fun v σ1 G1 H1 F1 fp S1 t1 f1 => q v σ1 G1 H1 F1 fp S1 t1 f1.left
  | ex x d => cases e2; exact fun C σ1 G1 H1 F1 m S1 t1 f1 => q C σ1 G1 H1 F1 m S1 t1 f1.left
def fExpr (f : DS → Option (RV × DS)) (ds : DS) : Option Out := (f ds).map fun p => .nx p.2
theorem rs_expr {t : TE} {f : DS → Option (RV × DS)} (h : RE K t f) : RS K Z [] (tDrop t) (fExpr f) := by
  intro G H F σ ds o E S e q
  simp only [fExpr, Option.map_eq_some_iff] at e
  obtain ⟨⟨r, d1⟩, e1, e2⟩ := e
  cases e2
  exact h G H F σ ds r d1 _ S e1 fun v G1 H1 F1 fp S1 t1 _ _ => q σ G1 H1 F1 S1 t1 (Off.refl _ _)
/-- what a value hands on when it is moved out -/
def mov : RV → DS → Option (OV × DS)
  | .ov o, ds => some (o, ds)
  | .loc i, ds => match ds[i]? with
    | some (some o) => some (o, ds.set i none)
    | _ => none
def fRet (f : DS → Option (RV × DS)) (ds : DS) : Option Out := (f ds).bind fun p => (mov p.1 p.2).map fun q => .ret q.1 q.2
theorem mov_ok {G H G0 H0 : Hp} {σ : St} {ds ds' : DS} {F : Nat → List Addr} {W0 : Addr → Prop} {v : V} {r : RV} {fp fq : List Addr} {o : OV} (S : SI K G H σ ds F) (t : Step W0 G0 H0 G H (Wf F)) (h : VRep K G H σ v r fp) (f : Fp G H (Wf F) W0 H0 (fp ++ fq)) (e : mov r ds = some (o, ds')) :
    ∃ F' fp', SI K G H σ ds' F' ∧ Step W0 G0 H0 G H (Wf F') ∧ Rep K G H v o fp' ∧ Fp G H (Wf F') W0 H0 (fp' ++ fq) ∧ (∀ b, Wf F' b → Wf F b) := by
  cases r with
  | ov u => cases e; exact ⟨F, fp, S, t, h, f, fun _ h => h⟩
  | loc i =>
    simp only [mov] at e
    split at e
    · rename_i u hu
      cases e
      obtain ⟨w, h1, h2⟩ := S.rep i _ hu
      have h' : σ[i]? = some (some v) := h.1
      obtain rfl := look_eq h1 h'
      have hi : i < K.n := by rw [← S.sl]; exact (List.getElem?_eq_some_iff.mp h').1
      refine ⟨_, F i, S.shut i hi, t.reown fun b hb => t.own b (wf_shut hb), h2, ⟨?_, fun a ha => ?_, fun a ha => ?_⟩, fun b hb => wf_shut hb⟩
      · exact List.nodup_append.mpr ⟨S.nod i, f.right.nod, fun x h1 y h2 e => (f.right.off y h2).2.2 ⟨i, e ▸ h1⟩⟩
      · rcases List.mem_append.mp ha with ha | ha
        · refine ⟨(S.off i a ha).1, (S.off i a ha).2, fun ⟨j, hj⟩ => ?_⟩
          unfold offF at hj
          split at hj
          · cases hj
          · rename_i hji
            exact hji (S.dis j i a hj ha)
        · exact ⟨(f.right.off a ha).1, (f.right.off a ha).2.1, fun z => (f.right.off a ha).2.2 (wf_shut z)⟩
      · rcases List.mem_append.mp ha with ha | ha
        · exact t.own a ⟨i, ha⟩
        · exact f.right.new a ha
    · cases e
theorem rs_ret {t : TE} {f : DS → Option (RV × DS)} (h : RE K t f) : RS K Z [] (tRet t) (fRet f) := by
  intro G H F σ ds o E S e q
  simp only [fRet, Option.bind_eq_some_iff, Option.map_eq_some_iff] at e
  obtain ⟨⟨r, d1⟩, e1, ⟨o', d2⟩, e2, e3⟩ := e
  cases e3
  refine h G H F σ ds r d1 _ S e1 fun v G1 H1 F1 fp S1 t1 r1 f1 => ?_
  obtain ⟨F2, fp2, S2, t2, r2, f2, _⟩ := mov_ok (fq := []) S1 t1 r1 (by rw [List.append_nil]; exact f1) e2
  rw [List.append_nil] at f2
  exact q v σ G1 H1 F2 fp2 S2 t2 (Off.refl _ _) r2 f2
def fRetN (ds : DS) : Option Out := some (.ret (.sh .none) ds)
theorem rs_retN : RS K Z [] tRetN fRetN := by
  intro G H F σ ds o E S e q
  cases e
  exact q .non σ G H F [] S (Step.refl _ _ _) (Off.refl _ _) ⟨.non, rfl⟩ .nil
def fIfS (c : DS → Option (Bool × DS)) (f g : DS → Option Out) (ds : DS) : Option Out := (c ds).bind fun p => if p.1 = true then f p.2 else g p.2
theorem rs_if {T T' : List Nat} {tc : TT} {t u : TS} {c : DS → Option (Bool × DS)} {f g : DS → Option Out} (hc : RT K tc c) (h : RS K Z T t f) (k : RS K Z T' u g) : RS K Z (T ++ T') (tIfS tc t u) (fIfS c f g) := by
  intro G H F σ ds o E S e q
  simp only [fIfS, Option.bind_eq_some_iff] at e
  obtain ⟨⟨b, d1⟩, e1, e2⟩ := e
  refine hc G H F σ ds b d1 _ S e1 fun G1 H1 F1 S1 t1 => ?_
  cases b with
  | true => exact h G1 H1 F1 σ d1 o E S1 e2 (Ended.later t1 (Off.refl _ _) (fun i hi => List.mem_append_left _ hi) q)
  | false => exact k G1 H1 F1 σ d1 o E S1 e2 (Ended.later t1 (Off.refl _ _) (fun i hi => List.mem_append_right _ hi) q)
/-- name = value: an owned thing of another name becomes shared -/
def fSet (i : Nat) (f : DS → Option (RV × DS)) (ds : DS) : Option Out := (f ds).bind fun p => match p.1 with
  | .ov o => some (.nx (p.2.set i (some o)))
  | .loc j => (frz (.loc j) p.2).map fun q => .nx (q.2.set i (some (.sh q.1)))
theorem rs_set {i : Nat} (hi : i < K.n) (hf : K.free i) {t : TE} {f : DS → Option (RV × DS)} (h : RE K t f) : RS K Z [i] (tAsg t (gName i)) (fSet i f) := by
  intro G H F σ ds o E S e q
  simp only [fSet, Option.bind_eq_some_iff] at e
  obtain ⟨⟨r, d1⟩, e1, e2⟩ := e
  refine h G H F σ ds r d1 _ S e1 fun v G1 H1 F1 fp S1 t1 r1 f1 => ?_
  cases r with
  | ov u => cases e2; exact q _ G1 H1 _ (S1.put i hi hf r1 f1) (t1.put f1.new) (Off.set i _ σ)
  | loc j =>
    simp only [Option.map_eq_some_iff] at e2
    obtain ⟨⟨d, d2⟩, e3, e4⟩ := e2
    cases e4
    obtain ⟨G2, F2, S2, t2, s2, dd, f2⟩ := frz_ok (fq := []) S1 t1 r1 (by rw [List.append_nil]; exact f1) e3
    exact q _ G2 H1 _ (S2.put i hi hf ⟨dd, rfl⟩ f2) (t2.put f2.new) (Off.set i _ σ)
/-- target = value, any target: the value becomes shared -/
def fAsg (g : D → DS → Option DS) (f : DS → Option (RV × DS)) (ds : DS) : Option Out := (f ds).bind fun p => (frz p.1 p.2).bind fun q => (g q.1 q.2).map fun d => .nx d
theorem rs_asg {T : List Nat} {t : TE} {f : DS → Option (RV × DS)} {g : TG} {fg : D → DS → Option DS} (h : RE K t f) (hg : RG K T g fg) : RS K Z T (tAsg t g) (fAsg fg f) := by
  intro G H F σ ds o E S e q
  simp only [fAsg, Option.bind_eq_some_iff, Option.map_eq_some_iff] at e
  obtain ⟨⟨r, d1⟩, e1, ⟨d, d2⟩, e2, d3, e3, e4⟩ := e
  cases e4
  refine h G H F σ ds r d1 _ S e1 fun v G1 H1 F1 fp S1 t1 r1 f1 => ?_
  obtain ⟨G2, F2, S2, t2, s2, dd, f2⟩ := frz_ok (fq := []) S1 t1 r1 (by rw [List.append_nil]; exact f1) e2
  exact hg G2 H1 F2 σ d2 v d d3 _ S2 dd e3 fun σ' F' S3 w3 o3 => q σ' G2 H1 F' S3 (t2.reown fun b hb => t2.own b (w3 b hb)) o3

/-! ### what is walked -/
/-- J walks data l as long as what stood in Gb stands -/
structure Wk (K : Fr) (Gb : Hp) (J : It) (l : List D) : Prop where
  goes : ∀ i H, i < l.length → Same Gb H → J.go i H
  stops : ∀ H, Same Gb H → J.stop l.length H
  yields : ∀ i d G H x H', l[i]? = some d → Same Gb G → Same G H → J.yld i H x H' → ∃ G', Same G G' ∧ Same H H' ∧ Same G' H' ∧ (∀ b y, G' b = some y → (∃ z, G b = some z) ∨ H b = none) ∧ ((∀ b y, G b = some y → NT y) → ∀ b y, G' b = some y → NT y) ∧ (∀ b y, H' b = some y → H b = some y ∨ NT y) ∧ Dp K G' x d
def RI (K : Fr) (wi : TI) (f : DS → Option (List D × DS)) : Prop :=
  ∀ (G H : Hp) (F : Nat → List Addr) (σ : St) (ds : DS) (l : List D) (ds' : DS) (R : It → Hp → Prop), SI K G H σ ds F → f ds = some (l, ds') →
    (∀ J G' H' F', SI K G' H' σ ds' F' → Step (Wf F) G H G' H' (Wf F') → Wk K G' J l → R J H') → wi σ H R
def loopF (g : D → DS → Option DS) (body : DS → Option Out) : List D → DS → Option Out
  | [], ds => some (.nx ds)
  | d :: l, ds => (g d ds).bind fun ds1 => (body ds1).bind fun o => match o with
    | .nx ds2 => loopF g body l ds2
    | .ct ds2 => loopF g body l ds2
    | .bk ds2 => some (.nx ds2)
    | .ret r ds2 => some (.ret r ds2)
    | .ex x ds2 => some (.ex x ds2)
def fFor (fi : DS → Option (List D × DS)) (g : D → DS → Option DS) (body : DS → Option Out) (ds : DS) : Option Out := (fi ds).bind fun p => loopF g body p.1 p.2
theorem rs_for {T T' : List Nat} {wi : TI} {g : TG} {tb : TS} {fi : DS → Option (List D × DS)} {fg : D → DS → Option DS} {fb : DS → Option Out} (hi : RI K wi fi) (hg : RG K T g fg) (hb : RS K Z T' tb fb) : RS K Z (T ++ T') (tFor wi g tb) (fFor fi fg fb) := by
  intro G0 H0 F0 σ0 ds0 o E S0 e q
  simp only [fFor, Option.bind_eq_some_iff] at e
  obtain ⟨⟨l, ds1⟩, e1, e2⟩ := e
  refine hi G0 H0 F0 σ0 ds0 l ds1 _ S0 e1 fun J Gb H1 F1 S1 t1 wk => ?_
  refine ⟨fun i m σ H => m = l.length - i ∧ i ≤ l.length ∧ ∃ G F ds, SI K G H σ ds F ∧ Step (Wf F0) G0 H0 G H (Wf F) ∧ Same Gb G ∧ Off (T ++ T') σ0 σ ∧ loopF fg fb (l.drop i) ds = some o,
    ⟨l.length, by simp, Nat.zero_le _, Gb, F1, ds1, S1, t1, Same.refl Gb, Off.refl _ _, by simpa using e2⟩, ?_⟩
  rintro i m σ H ⟨rfl, hi, G, F, ds, S, t, sb, off, hl⟩
  by_cases hlt : i < l.length
  · refine .inr ⟨wk.goes i H hlt (sb.trans S.sub), fun σ' H' => ∃ G F ds, SI K G H' σ' ds F ∧ Step (Wf F0) G0 H0 G H' (Wf F) ∧ Same Gb G ∧ Off (T ++ T') σ0 σ' ∧ loopF fg fb (l.drop (i + 1)) ds = some o,
      fun σ' H' h => ⟨l.length - (i + 1), by omega, rfl, hlt, h⟩, fun x H' y => ?_⟩
    have hd : l[i]? = some l[i] := by simp [hlt]
    obtain ⟨G', sG, sH, sGH, nw, nt, n2, dd⟩ := wk.yields i l[i] G H x H' hd sb S.sub y
    have S' := S.grow sG sH sGH nw (nt S.gnt) n2
    have t' := t.trans (Step.grow sG sH nw)
    rw [List.drop_eq_getElem_cons hlt] at hl
    simp only [loopF, Option.bind_eq_some_iff] at hl
    obtain ⟨ds2, h1, oo, h2, h3⟩ := hl
    refine hg G' H' F σ ds x l[i] ds2 _ S' dd h1 fun σ2 F2 S2 w2 o2 => ?_
    have off2 := off.trans (o2.left (T' := T'))
    have t2 : Step (Wf F0) G0 H0 G' H' (Wf F2) := t'.reown fun b hb => t'.own b (w2 b hb)
    refine hb G' H' F2 σ2 ds2 oo _ S2 h2 ?_
    cases oo with
    | nx ds3 => exact fun σ3 G3 H3 F3 S3 t3 f3 => ⟨G3, F3, ds3, S3, t2.trans t3, sb.trans (sG.trans t3.sg), off2.trans f3.right, h3⟩
    | ct ds3 => exact fun σ3 G3 H3 F3 S3 t3 f3 => ⟨G3, F3, ds3, S3, t2.trans t3, sb.trans (sG.trans t3.sg), off2.trans f3.right, h3⟩
    | bk ds3 => cases h3; exact fun σ3 G3 H3 F3 S3 t3 f3 => q σ3 G3 H3 F3 S3 (t2.trans t3) (off2.trans f3.right)
    | ret r d3 => cases h3; exact fun v σ3 G3 H3 F3 fp S3 t3 f3 r3 p3 => q v σ3 G3 H3 F3 fp S3 (t2.trans t3) (off2.trans f3.right) r3 (p3.since t2)
    | ex x d3 => cases h3; exact fun C σ3 G3 H3 F3 m S3 t3 f3 => q C σ3 G3 H3 F3 m S3 (t2.trans t3) (off2.trans f3.right)
  · have ei : i = l.length := by omega
    subst ei
    rw [List.drop_length] at hl
    cases hl
    exact .inl ⟨wk.stops H (sb.trans S.sub), q σ G H F S t off⟩
/-- a list that stands -/
theorem wk_list {G : Hp} {a : Addr} {xs : List V} {l : List D} (h : SqL K G a xs) (hd : DpAll K G xs l) : Wk K G (Itl K a) l where
  goes := fun i H hi s => ⟨xs, xs[i]'(by rw [dpsLen hd]; exact hi), s.seq h, by simp [dpsLen hd, hi]⟩
  stops := fun H s => ⟨xs, s.seq h, by rw [dpsLen hd]; exact Nat.le_refl _⟩
  yields := fun i d G1 H x H' hi s1 s2 y => by
    obtain ⟨rfl, y⟩ := y
    have hx := y xs ((s1.trans s2).seq h)
    obtain ⟨d', e1, e2⟩ := dpsGetV hd hx
    rw [hi] at e1
    cases e1
    exact ⟨G1, Same.refl _, Same.refl _, s2, fun b y e => .inl ⟨y, e⟩, id, fun b y e => .inl e, dpMono s1 _ _ e2⟩
theorem wk_range {G : Hp} {lo : Int} {n : Nat} : Wk K G (Itr lo n) ((List.range n).map fun (i : Nat) => PyData.int (lo + (i : Int))) where
  goes := fun i H hi _ => by
    show i < n
    simpa using hi
  stops := fun H _ => by
    show n ≤ _
    simp
  yields := fun i d G1 H x H' hi s1 s2 y => by
    obtain ⟨rfl, rfl⟩ := y
    rw [List.getElem?_map] at hi
    simp only [Option.map_eq_some_iff] at hi
    obtain ⟨j, hj, rfl⟩ := hi
    have : i = j := by
      obtain ⟨h1, h2⟩ := List.getElem?_eq_some_iff.mp hj
      simpa using h2
    subst this
    exact ⟨G1, Same.refl _, Same.refl _, s2, fun b y e => .inl ⟨y, e⟩, id, fun b y e => .inl e, .int _⟩
def fiList (f : DS → Option (RV × DS)) (ds : DS) : Option (List D × DS) := (f ds).bind fun p => (frz p.1 p.2).bind fun q => match q.1 with
  | .list l => some (l, q.2)
  | _ => none
theorem ri_list {t : TE} {f : DS → Option (RV × DS)} (h : RE K t f) : RI K (iList K t) (fiList f) := by
  intro G H F σ ds l ds' R S e q
  simp only [fiList, Option.bind_eq_some_iff] at e
  obtain ⟨⟨r, d1⟩, e1, ⟨d, d2⟩, e2, e3⟩ := e
  split at e3
  · rename_i l' hl
    cases e3
    have hl : d = .list l := hl
    subst hl
    refine h G H F σ ds r d1 _ S e1 fun v G1 H1 F1 fp S1 t1 r1 f1 => ?_
    obtain ⟨G2, F2, S2, t2, s2, dd, f2⟩ := frz_ok (fq := []) S1 t1 r1 (by rw [List.append_nil]; exact f1) e2
    cases dd with
    | lst h1 h2 => exact ⟨_, rfl, ⟨_, S2.sub.seq h1⟩, q _ G2 H1 F2 S2 t2 (wk_list h1 h2)⟩
  · cases e3
def fiTup (f : DS → Option (RV × DS)) (ds : DS) : Option (List D × DS) := (f ds).bind fun p => (frz p.1 p.2).bind fun q => match q.1 with
  | .tuple l => some (l, q.2)
  | _ => none
theorem wk_tup {G : Hp} {a : Addr} {xs : List V} {l : List D} (h : SqT K G a xs) (hd : DpAll K G xs l) : Wk K G (Itt K a) l where
  goes := fun i H hi s => ⟨xs, xs[i]'(by rw [dpsLen hd]; exact hi), same_sqt s h, by simp [dpsLen hd, hi]⟩
  stops := fun H s => ⟨xs, same_sqt s h, by rw [dpsLen hd]; exact Nat.le_refl _⟩
  yields := fun i d G1 H x H' hi s1 s2 y => by
    obtain ⟨rfl, y⟩ := y
    have hx := y xs (same_sqt (s1.trans s2) h)
    obtain ⟨d', e1, e2⟩ := dpsGetV hd hx
    rw [hi] at e1
    cases e1
    exact ⟨G1, Same.refl _, Same.refl _, s2, fun b y e => .inl ⟨y, e⟩, id, fun b y e => .inl e, dpMono s1 _ _ e2⟩
theorem ri_tup {t : TE} {f : DS → Option (RV × DS)} (h : RE K t f) : RI K (iTup K t) (fiTup f) := by
  intro G H F σ ds l ds' R S e q
  simp only [fiTup, Option.bind_eq_some_iff] at e
  obtain ⟨⟨r, d1⟩, e1, ⟨d, d2⟩, e2, e3⟩ := e
  split at e3
  · rename_i l' hl
    cases e3
    have hl : d = .tuple l := hl
    subst hl
    refine h G H F σ ds r d1 _ S e1 fun v G1 H1 F1 fp S1 t1 r1 f1 => ?_
    obtain ⟨G2, F2, S2, t2, s2, dd, f2⟩ := frz_ok (fq := []) S1 t1 r1 (by rw [List.append_nil]; exact f1) e2
    cases dd with
    | tup h1 h2 => exact ⟨_, rfl, ⟨_, same_sqt S2.sub h1⟩, q _ G2 H1 F2 S2 t2 (wk_tup h1 h2)⟩
  · cases e3
noncomputable def small62 (i : Int) : Bool := yes (-(2 ^ 62) ≤ i ∧ i < 2 ^ 62)
def rangeD (lo hi : Int) : List D := (List.range (hi - lo).toNat).map fun (i : Nat) => PyData.int (lo + (i : Int))
noncomputable def fiR1 (fa : DS → Option (List RV × DS)) (ds : DS) : Option (List D × DS) := (fa ds).bind fun p => (sees p.1 p.2).bind fun l => match l with
  | [.int j] => if small62 j then some (rangeD 0 j, p.2) else none
  | _ => none
noncomputable def fiR2 (fa : DS → Option (List RV × DS)) (ds : DS) : Option (List D × DS) := (fa ds).bind fun p => (sees p.1 p.2).bind fun l => match l with
  | [.int i, .int j] => if small62 i && small62 j then some (rangeD i j, p.2) else none
  | _ => none
theorem ri_r1 {t : TA} {f : DS → Option (List RV × DS)} (h : RA K t f) : RI K (iRng1 t) (fiR1 f) := by
  intro G H F σ ds l ds' R S e q
  simp only [fiR1, Option.bind_eq_some_iff] at e
  obtain ⟨⟨r, d1⟩, e1, l1, e2, e3⟩ := e
  split at e3
  · rename_i j
    split at e3
    · rename_i hs
      cases e3
      refine h G H F σ ds r d1 _ S e1 fun v G1 H1 F1 fp S1 t1 r1 f1 => ?_
      have dd := sees_ok S1 r1 e2
      cases dd with
      | cons a b =>
        cases b
        cases a
        have hs := of_yes hs
        refine ⟨j, rfl, hs.1, hs.2, ?_⟩
        have := q (Itr 0 j.toNat) G1 H1 F1 S1 t1
        rw [show rangeD 0 j = (List.range j.toNat).map fun (i : Nat) => PyData.int (0 + (i : Int)) by unfold rangeD; rw [Int.sub_zero]] at this
        exact this wk_range
    · cases e3
  · cases e3
theorem ri_r2 {t : TA} {f : DS → Option (List RV × DS)} (h : RA K t f) : RI K (iRng2 t) (fiR2 f) := by
  intro G H F σ ds l ds' R S e q
  simp only [fiR2, Option.bind_eq_some_iff] at e
  obtain ⟨⟨r, d1⟩, e1, l1, e2, e3⟩ := e
  split at e3
  · rename_i i j
    split at e3
    · rename_i hs
      cases e3
      refine h G H F σ ds r d1 _ S e1 fun v G1 H1 F1 fp S1 t1 r1 f1 => ?_
      have dd := sees_ok S1 r1 e2
      cases dd with
      | cons a b =>
        cases b with
        | cons b c =>
          cases c
          cases a
          cases b
          rw [Bool.and_eq_true] at hs
          have h1 := of_yes hs.1
          have h2 := of_yes hs.2
          exact ⟨i, j, rfl, ⟨h1.1, h1.2, h2.1, h2.2⟩, q _ G1 H1 F1 S1 t1 wk_range⟩
    · cases e3
  · cases e3
end
end Fx
set_option Elab.async false
set_option linter.all false
set_option maxRecDepth 100000
namespace Fx
open PySem PySem.Spec L2
variable {K : Fr}

theorem szOf {n : Nat} (h : n ≤ 1000000) : n < sizeLine := Nat.lt_of_le_of_lt h (by rw [sizeLine_eq]; decide)

/-! ### comprehensions -/
def wipeD (ds : DS) : List Nat → DS
  | [] => ds
  | v :: vs => (wipeD ds vs).set v none
theorem wipeD_some {ds : DS} {i : Nat} {o : OV} : ∀ {vs : List Nat}, (wipeD ds vs)[i]? = some (some o) → ds[i]? = some (some o) ∧ i ∉ vs
  | [], h => ⟨h, by simp⟩
  | v :: vs, h => by
    unfold wipeD at h
    by_cases e : v = i
    · subst e
      by_cases hl : v < (wipeD ds vs).length
      · rw [List.getElem?_set_self hl] at h; cases h
      · rw [List.getElem?_eq_none (by rw [List.length_set]; omega)] at h; cases h
    · rw [List.getElem?_set_ne e] at h
      obtain ⟨h1, h2⟩ := wipeD_some h
      exact ⟨h1, by simp [h2, Ne.symm e]⟩
theorem wipeD_length (ds : DS) : ∀ vs : List Nat, (wipeD ds vs).length = ds.length
  | [] => rfl
  | v :: vs => by unfold wipeD; rw [List.length_set, wipeD_length]
theorem wipe_outD {ds : DS} {i : Nat} : ∀ {vs : List Nat}, i ∉ vs → (wipeD ds vs)[i]? = ds[i]?
  | [], _ => rfl
  | v :: vs, h => by
    unfold wipeD
    rw [List.getElem?_set_ne (fun e => h (by simp [e])), wipe_outD fun z => h (by simp [z])]
theorem look_wipe {H : Hp} {σ : St} {j : Nat} {w : V} {vs : List Nat} (hf : ∀ i ∈ vs, K.free i) (hj : j ∉ vs) (h : look K H σ j w) : look K H (wipe σ vs) j w := by
  rcases h with h | ⟨h, o, a, C, dx, fs, n, h1, h2, h3⟩
  · exact .inl (by rw [wipe_out hj]; exact h)
  · refine .inr ⟨by rw [wipe_length]; exact h, o, a, C, dx, fs, n, h1, by rw [wipe_out fun z => Kc.free_ne (hf _ z) h1 rfl]; exact h2, ?_⟩
    rw [wipe_length]; exact h3
theorem look_unwipe {H : Hp} {σ : St} {j : Nat} {w : V} {vs : List Nat} (hf : ∀ i ∈ vs, K.free i) (hj : j ∉ vs) (h : look K H (wipe σ vs) j w) : look K H σ j w := by
  rcases h with h | ⟨h, o, a, C, dx, fs, n, h1, h2, h3⟩
  · exact .inl (by rw [wipe_out hj] at h; exact h)
  · rw [wipe_length] at h h3
    refine .inr ⟨h, o, a, C, dx, fs, n, h1, by rw [wipe_out fun z => Kc.free_ne (hf _ z) h1 rfl] at h2; exact h2, h3⟩
theorem SI.wiped {G H : Hp} {σ : St} {ds : DS} {F : Nat → List Addr} (S : SI K G H σ ds F) (vs : List Nat) (hf : ∀ i ∈ vs, K.free i) : SI K G H (wipe σ vs) (wipeD ds vs) F where
  sub := S.sub
  gnt := S.gnt
  tab := S.tab
  sl := by rw [wipe_length]; exact S.sl
  len := by rw [wipeD_length]; exact S.len
  obj := fun u e => by
    obtain ⟨h1, h2, a, dx, fs, k1, k2, k3⟩ := S.obj u e
    have hn : u.slot ∉ vs := fun z => Kc.free_ne (hf _ z) e rfl
    exact ⟨by rw [wipe_outD hn]; exact h1, by rw [wipe_length]; exact h2, a, dx, fs, by rw [wipe_out hn]; exact k1, by rw [wipeD_length]; exact k2, k3⟩
  exs := fun p e => by
    obtain ⟨h1, h2⟩ := S.exs p e
    have hn : p.1 ∉ vs := fun z => Kc.free_ex (hf _ z) e rfl
    exact ⟨by rw [wipe_outD hn]; exact h1, by rw [wipe_out hn]; exact h2⟩
  rep := fun i o e => by
    obtain ⟨h1, h2⟩ := wipeD_some e
    obtain ⟨v, h3, h4⟩ := S.rep i o h1
    exact ⟨v, look_wipe hf h2 h3, h4⟩
  nod := S.nod
  off := S.off
  dis := S.dis
/-- the slots vs as in d0, the others as in d -/
def mend (d0 d : DS) : List Nat → DS
  | [] => d
  | v :: vs => (mend d0 d vs).set v ((d0[v]?).getD none)
theorem mend_length (d0 d : DS) : ∀ vs : List Nat, (mend d0 d vs).length = d.length
  | [] => rfl
  | v :: vs => by unfold mend; rw [List.length_set, mend_length]
theorem mend_at {d0 d : DS} {i : Nat} {o : OV} : ∀ {vs : List Nat}, (mend d0 d vs)[i]? = some (some o) → (i ∈ vs ∧ d0[i]? = some (some o)) ∨ (i ∉ vs ∧ d[i]? = some (some o))
  | [], h => .inr ⟨by simp, h⟩
  | v :: vs, h => by
    unfold mend at h
    by_cases e : v = i
    · subst e
      by_cases hl : v < (mend d0 d vs).length
      · rw [List.getElem?_set_self hl] at h
        refine .inl ⟨by simp, ?_⟩
        cases q : d0[v]? with
        | none => rw [q] at h; cases h
        | some x => rw [q] at h; exact h
      · rw [List.getElem?_eq_none (by rw [List.length_set]; omega)] at h; cases h
    · rw [List.getElem?_set_ne e] at h
      rcases mend_at h with ⟨h1, h2⟩ | ⟨h1, h2⟩
      · exact .inl ⟨by simp [h1], h2⟩
      · exact .inr ⟨by simp [h1, Ne.symm e], h2⟩
def shB : Option (Option OV) → Bool
  | some (some (.sh _)) => true
  | some (some _) => false
  | _ => true
theorem sh_of {x : Option (Option OV)} {o : OV} (h : shB x = true) (e : x = some (some o)) : ∃ d, o = .sh d := by
  subst e
  cases o with
  | sh d => exact ⟨d, rfl⟩
  | flat l => cases h
  | tree d => cases h
def turnC (g : D → DS → Option DS) (ft : DS → Option (Bool × DS)) (fe : DS → Option (RV × DS)) (vs : List Nat) (d : D) (w : DS) : Option (Option D × DS) :=
  (g d w).bind fun ds1 => (ft ds1).bind fun p => if p.1 = true then (fe p.2).bind fun q => (frz q.1 q.2).map fun z => (some z.1, wipeD z.2 vs) else some (none, wipeD p.2 vs)
def own : RV → Option D
  | .ov o => o.own?
  | .loc _ => none
def turnM (g : D → DS → Option DS) (ft : DS → Option (Bool × DS)) (fe : DS → Option (RV × DS)) (vs : List Nat) (d : D) (w : DS) : Option (Option D × DS) :=
  (g d w).bind fun ds1 => (ft ds1).bind fun p => if p.1 = true then (fe p.2).bind fun q => (own q.1).map fun z => (some z, wipeD q.2 vs) else some (none, wipeD p.2 vs)
def lcF (τ : D → DS → Option (Option D × DS)) : List D → DS → List D → Option (List D × DS)
  | [], w, acc => some (acc, w)
  | d :: l, w, acc => (τ d w).bind fun p => lcF τ l p.2 (acc ++ p.1.toList)
def fLcG (mk : List D → OV) (τ : List Nat → D → DS → Option (Option D × DS)) (fi : DS → Option (List D × DS)) (vs : List Nat) (ds : DS) : Option (RV × DS) := (fi ds).bind fun p =>
  if (vs.all fun i => shB p.2[i]?) && decide (p.1.length ≤ 1000000) then (lcF (τ vs) p.1 (wipeD p.2 vs) []).map fun q => (.ov (mk q.1), mend p.2 q.2 vs) else none
/-- a new list of shared items; of owned ones -/
def fLc (fi : DS → Option (List D × DS)) (g : D → DS → Option DS) (ft : DS → Option (Bool × DS)) (fe : DS → Option (RV × DS)) (vs : List Nat) : DS → Option (RV × DS) := fLcG .flat (turnC g ft fe) fi vs
def fLcM (fi : DS → Option (List D × DS)) (g : D → DS → Option DS) (ft : DS → Option (Bool × DS)) (fe : DS → Option (RV × DS)) (vs : List Nat) : DS → Option (RV × DS) := fLcG (fun l => .tree (.list l)) (turnM g ft fe) fi vs
theorem wipe_off {T vs : List Nat} {σ σ' : St} (h : ∀ i ∈ T, i ∈ vs) (o : Off T (wipe σ vs) σ') : wipe σ' vs = wipe σ vs := by
  refine List.ext_getElem? fun i => ?_
  have hl : σ'.length = σ.length := by rw [o.1, wipe_length]
  by_cases hi : i ∈ vs
  · have z : ∀ (τ : St), τ.length = σ.length → (wipe τ vs)[i]? = if i < σ.length then some none else none := fun τ e => by
      clear o
      induction vs with
      | nil => cases hi
      | cons v vs ih =>
        unfold wipe
        by_cases ev : v = i
        · subst ev
          by_cases hlt : v < σ.length
          · rw [List.getElem?_set_self (by rw [wipe_length, e]; exact hlt), if_pos hlt]
          · rw [List.getElem?_eq_none (by rw [List.length_set, wipe_length, e]; omega), if_neg hlt]
        · rw [List.getElem?_set_ne ev]
          have hm : i ∈ vs := by
            rcases List.mem_cons.mp hi with q | q
            · exact absurd q.symm ev
            · exact q
          clear ih
          have go : ∀ us : List Nat, i ∈ us → (wipe τ us)[i]? = if i < σ.length then some none else none := fun us => by
            induction us with
            | nil => intro q; cases q
            | cons u us ih2 =>
              intro q
              unfold wipe
              by_cases eu : u = i
              · subst eu
                by_cases hlt : u < σ.length
                · rw [List.getElem?_set_self (by rw [wipe_length, e]; exact hlt), if_pos hlt]
                · rw [List.getElem?_eq_none (by rw [List.length_set, wipe_length, e]; omega), if_neg hlt]
              · rw [List.getElem?_set_ne eu]
                rcases List.mem_cons.mp q with q | q
                · exact absurd q.symm eu
                · exact ih2 q
          exact go vs hm
    rw [z σ' hl, z σ rfl]
  · rw [wipe_out hi, wipe_out hi, o.2 i fun z => hi (h i z), wipe_out hi]
theorem mend_out {d0 d : DS} {i : Nat} : ∀ {vs : List Nat}, i ∉ vs → (mend d0 d vs)[i]? = d[i]?
  | [], _ => rfl
  | v :: vs, h => by
    unfold mend
    rw [List.getElem?_set_ne (fun e => h (by simp [e])), mend_out fun z => h (by simp [z])]
/-- the state behind a comprehension -/
theorem SI.mended {G0 H0 G H : Hp} {σ : St} {d0 w : DS} {F0 F : Nat → List Addr} {vs : List Nat} (S0 : SI K G0 H0 σ d0 F0) (sg : Same G0 G) (S : SI K G H (wipe σ vs) w F) (hv : ∀ i ∈ vs, shB d0[i]? = true) (hn : ∀ i ∈ vs, i < K.n) (hf : ∀ i ∈ vs, K.free i) :
    ∃ F', SI K G H σ (mend d0 w vs) F' ∧ ∀ b, Wf F' b → Wf F b := by
  have hsl := S.sl
  rw [wipe_length] at hsl
  refine ⟨fun i => if i ∈ vs then [] else F i, ⟨S.sub, S.gnt, S.tab, hsl, ?_, fun i o e => ?_, fun i => ?_, fun i a ha => ?_, fun i j a h1 h2 => ?_, fun u e => ?_, fun p e => ?_⟩, fun b ⟨i, hb⟩ => ?_⟩
  · rw [mend_length]
    exact S.len
  · rcases mend_at e with ⟨h1, h2⟩ | ⟨h1, h2⟩
    · obtain ⟨v, h3, h4⟩ := S0.rep i o h2
      obtain ⟨d, rfl⟩ := sh_of (hv i h1) h2
      exact ⟨v, .inl (look_at h3 (by rw [hsl]; exact hn i h1)), dpMono sg _ _ h4.1, by simp [h1]⟩
    · obtain ⟨v, h3, h4⟩ := S.rep i o h2
      refine ⟨v, look_unwipe hf h1 h3, ?_⟩
      rw [if_neg h1]
      exact h4
  · by_cases h : i ∈ vs
    · simp [h]
    · simp only [h, if_false]; exact S.nod i
  · by_cases h : i ∈ vs
    · simp [h] at ha
    · simp only [h, if_false] at ha; exact S.off i a ha
  · by_cases h : i ∈ vs
    · simp [h] at h1
    · by_cases h' : j ∈ vs
      · simp [h'] at h2
      · simp only [h, if_false] at h1
        simp only [h', if_false] at h2
        exact S.dis i j a h1 h2
  · obtain ⟨h1, h2, a, dx, fs, k1, k2, k3⟩ := S.obj u e
    have hs : u.slot ∉ vs := fun z => Kc.free_ne (hf _ z) e rfl
    rw [wipe_length] at h2
    rw [wipe_out hs] at k1
    refine ⟨by rw [mend_out hs]; exact h1, h2, a, dx, fs, k1, ?_, k3⟩
    rw [mend_length]
    have : w.length ∉ vs := fun z => by have := hn _ z; have := S.len; omega
    show (if w.length ∈ vs then [] else F w.length) = _
    rw [if_neg this]; exact k2
  · obtain ⟨h1, h2⟩ := S.exs p e
    have hs : p.1 ∉ vs := fun z => Kc.free_ex (hf _ z) e rfl
    exact ⟨by rw [mend_out hs]; exact h1, by rw [wipe_out hs] at h2; exact h2⟩
  · by_cases h : i ∈ vs
    · simp [h] at hb
    · simp only [h, if_false] at hb; exact ⟨i, hb⟩
theorem lcF_len {τ : D → DS → Option (Option D × DS)} : ∀ {l : List D} {w : DS} {acc : List D} {es : List D} {w' : DS}, lcF τ l w acc = some (es, w') → es.length ≤ acc.length + l.length
  | [], _, _, _, _, e => by cases e; exact Nat.le_refl _
  | d :: l, _, acc, _, _, e => by
    simp only [lcF, Option.bind_eq_some_iff] at e
    obtain ⟨p, h1, h2⟩ := e
    have := lcF_len h2
    rw [List.length_append] at this
    have : p.1.toList.length ≤ 1 := by cases p.1 <;> simp
    simp only [List.length_cons]
    omega

/-- what stands at the new list -/
structure Acc (K : Fr) (P : Hp → Hp → Addr → List D → List Addr → Prop) : Prop where
  lst : ∀ {G H A es fp}, P G H A es fp → ∃ xs, H A = some (.lst xs) ∧ xs.length = es.length
  zero : ∀ {G H A}, H A = some (.lst []) → P G H A [] []
  step : ∀ {G H G' H' A es fp}, P G H A es fp → Same G G' → (∀ b ∈ A :: fp, ∀ x, H b = some x → H' b = some x) → P G' H' A es fp
def AccC (K : Fr) (G H : Hp) (A : Addr) (es : List D) (fp : List Addr) : Prop := ∃ xs, H A = some (.lst xs) ∧ DpAll K G xs es ∧ fp = []
def AccM (G H : Hp) (A : Addr) (es : List D) (fp : List Addr) : Prop := ∃ xs, H A = some (.lst xs) ∧ TrAll H xs es fp
theorem trsLen {H : Hp} : ∀ {vs : List V} {ds : List D} {fp : List Addr}, TrAll H vs ds fp → vs.length = ds.length
  | _, _, _, .nil => rfl
  | _, _, _, .cons _ h => by simp [trsLen h]
theorem accC : Acc K (AccC K) where
  lst := fun ⟨xs, h1, h2, _⟩ => ⟨xs, h1, dpsLen h2⟩
  zero := fun h => ⟨[], h, .nil, rfl⟩
  step := fun ⟨xs, h1, h2, h3⟩ s k => ⟨xs, k _ (by simp) _ h1, dpsMono s _ _ h2, h3⟩
theorem accM : Acc K AccM where
  lst := fun ⟨xs, h1, h2⟩ => ⟨xs, h1, trsLen h2⟩
  zero := fun h => ⟨[], h, .nil⟩
  step := fun ⟨xs, h1, h2⟩ s k => ⟨xs, k _ (by simp) _ h1, trsMono _ _ _ h2 fun b hb x e => k b (by simp [hb]) x e⟩
/-- the state between two turns -/
def LcI (K : Fr) (P : Hp → Hp → Addr → List D → List Addr → Prop) (W0 : Addr → Prop) (G0 H0 Gb : Hp) (σw : St) (A : Addr) (w : DS) (es : List D) (H : Hp) : Prop :=
  ∃ G F fp, SI K G H σw w F ∧ Step W0 G0 H0 G H (Wf F) ∧ Same Gb G ∧ P G H A es fp ∧ Fp G H (Wf F) W0 H0 (A :: fp)
theorem lc_loop {P : Hp → Hp → Addr → List D → List Addr → Prop} (hP : Acc K P) {J : It} {g : TG} {tt : TT} {te : TE} {vs : List Nat} {τ : D → DS → Option (Option D × DS)} {W0 : Addr → Prop} {G0 H0 Gb : Hp} {σ : St} {A : Addr} {l : List D} {Q : VK}
    (wk : Wk K Gb J l) (hl : l.length ≤ 1000000)
    (turn : ∀ d w (p : Option D × DS) es x H (Nx : Hp → Prop), τ d w = some p → es.length ≤ 1000000 → (∃ G F fp, SI K G H (wipe σ vs) w F ∧ Step W0 G0 H0 G H (Wf F) ∧ Same Gb G ∧ P G H A es fp ∧ Fp G H (Wf F) W0 H0 (A :: fp) ∧ Dp K G x d) →
      (∀ H', LcI K P W0 G0 H0 Gb (wipe σ vs) A p.2 (es ++ p.1.toList) H' → Nx H') → g x (wipe σ vs) H fun σ2 H2 => wipe σ2 vs = wipe σ vs ∧ tt σ2 H2 fun b H3 =>
        if b = true then te σ2 H3 fun y H4 => ∃ acc, H4 A = some (.lst acc) ∧ acc.length < sizeLine ∧ Nx (upd H4 A (.lst (acc ++ [y]))) else Nx H3)
    {w : DS} {es : List D} {w' : DS} (he : lcF τ l w [] = some (es, w')) {H1 : Hp} (h0 : LcI K P W0 G0 H0 Gb (wipe σ vs) A w [] H1) (hd : ∀ H, LcI K P W0 G0 H0 Gb (wipe σ vs) A w' es H → Q (.ref A) H) :
    ∃ W : Nat → Nat → Hp → Prop, (∃ m, W 0 m H1) ∧ ∀ i m H, W i m H →
      (J.stop i H ∧ Q (.ref A) H) ∨ (J.go i H ∧ ∃ Nx : Hp → Prop, (∀ H', Nx H' → ∃ m', m' < m ∧ W (i + 1) m' H') ∧ ∀ x H', J.yld i H x H' → g x (wipe σ vs) H' fun σ2 H2 => wipe σ2 vs = wipe σ vs ∧ tt σ2 H2 fun b H3 =>
        if b = true then te σ2 H3 fun y H4 => ∃ acc, H4 A = some (.lst acc) ∧ acc.length < sizeLine ∧ Nx (upd H4 A (.lst (acc ++ [y]))) else Nx H3) := by
  refine ⟨fun i m H => m = l.length - i ∧ i ≤ l.length ∧ ∃ wi ei, ei.length ≤ i ∧ lcF τ (l.drop i) wi ei = some (es, w') ∧ LcI K P W0 G0 H0 Gb (wipe σ vs) A wi ei H,
    ⟨l.length, by simp, Nat.zero_le _, w, [], Nat.le_refl _, by simpa using he, h0⟩, ?_⟩
  rintro i m H ⟨rfl, hi, wi, ei, hei, hrun, G, F, fp, S, t, sb, hp, hf⟩
  by_cases hlt : i < l.length
  · rw [List.drop_eq_getElem_cons hlt] at hrun
    simp only [lcF, Option.bind_eq_some_iff] at hrun
    obtain ⟨p, h1, h2⟩ := hrun
    refine .inr ⟨wk.goes i H hlt (sb.trans S.sub), fun H' => LcI K P W0 G0 H0 Gb (wipe σ vs) A p.2 (ei ++ p.1.toList) H', fun H' q => ⟨l.length - (i + 1), by omega, rfl, hlt, p.2, _, ?_, h2, q⟩, fun x H' y => ?_⟩
    · rw [List.length_append]
      have : p.1.toList.length ≤ 1 := by cases p.1 <;> simp
      omega
    · have hd' : l[i]? = some l[i] := by simp [hlt]
      obtain ⟨G', sG, sH, sGH, nw, nt, n2, dd⟩ := wk.yields i l[i] G H x H' hd' sb S.sub y
      have st := Step.grow (W := Wf F) sG sH nw
      exact turn l[i] wi p ei x H' _ h1 (by omega) ⟨G', F, fp, S.grow sG sH sGH nw (nt S.gnt) n2, t.trans st, sb.trans sG, hP.step hp sG fun b hb x e => sH b x e, hf.step st, dd⟩ fun _ q => q
  · have ei' : i = l.length := by omega
    subst ei'
    rw [List.drop_length] at hrun
    cases hrun
    exact .inl ⟨wk.stops H (sb.trans S.sub), hd H ⟨G, F, fp, S, t, sb, hp, hf⟩⟩
/-- the place A gets a new list: nothing else sees it -/
theorem SI.poke {G H : Hp} {σ : St} {ds : DS} {F : Nat → List Addr} (S : SI K G H σ ds F) {A : Addr} {o u : HO} (hA : H A = some u) (uA : NT u) (gA : G A = none) (nA : ¬ Wf F A) (ho : NT o) : SI K G (upd H A o) σ ds F := by
  have ne : ∀ i a, a ∈ F i → a ≠ A := fun i a ha z => nA ⟨i, z ▸ ha⟩
  have sN : ∀ b x, b ≠ A → H b = some x → upd H A o b = some x := fun b x h e => by rw [upd_ne h]; exact e
  have objA : ∀ u, K.ob = some u → ∀ a, σ[u.slot]? = some (some (.ref a)) → a ≠ A := fun u e a k => by
    obtain ⟨h1, h2, a', dx, fs, k1, k2, k3⟩ := S.obj u e
    rw [k] at k1; cases k1
    exact ne ds.length a (by rw [k2]; simp)
  refine ⟨fun b x e => ?_, S.gnt, ?_, S.sl, S.len, fun i v e => ?_, S.nod, fun i a ha => ?_, S.dis, fun u e => ?_, S.exs⟩
  · have : b ≠ A := fun z => by subst z; rw [gA] at e; cases e
    exact sN b x this (S.sub b x e)
  · refine ⟨fun p hp => ?_, fun b ps e => (nt_upd ho b _ e).elim (S.tab.2 b ps) fun z => absurd rfl (z.1 ps)⟩
    obtain ⟨ps, h1, h2, h3⟩ := S.tab.1 p hp
    have n1 : p.1 ≠ A := fun z => by rw [z, hA] at h1; cases h1; exact uA.1 ps rfl
    refine ⟨ps, sN _ _ n1 h1, h2, fun pos cv hc => ?_⟩
    obtain ⟨c, e1, e2⟩ := h3 pos cv hc
    by_cases n2 : c = A
    · subst n2
      rw [hA] at e2; cases e2
      exact absurd rfl (uA.2 _)
    · exact ⟨c, e1, sN _ _ n2 e2⟩
  · obtain ⟨w, h1, h2⟩ := S.rep i v e
    refine ⟨w, ?_, h2.mono (Same.refl G) fun b hb x hx => sN b x (ne i b hb) hx⟩
    rcases h1 with h | ⟨h, o', a, C, dx, fs, n, q1, q2, q3, q4⟩
    · exact .inl h
    · exact .inr ⟨h, o', a, C, dx, fs, n, q1, q2, sN _ _ (objA o' q1 a q2) q3, q4⟩
  · obtain ⟨h1, x, h2⟩ := S.off i a ha
    exact ⟨h1, x, sN a x (ne i a ha) h2.1, h2.2⟩
  · obtain ⟨h1, h2, a, dx, fs, k1, k2, k3, k4, k5⟩ := S.obj u e
    exact ⟨h1, h2, a, dx, fs, k1, k2, sN _ _ (ne ds.length a (by rw [k2]; simp)) k3, sN _ _ (ne ds.length dx (by rw [k2]; simp)) k4, k5⟩
theorem Step.poke {W0 W : Addr → Prop} {G0 H0 G H : Hp} (t : Step W0 G0 H0 G H W) {A : Addr} {o : HO} (n : W0 A ∨ H0 A = none) : Step W0 G0 H0 G (upd H A o) W :=
  ⟨t.sg, fun b x e nw n2 => by
    have : b ≠ A := fun z => by
      subst z
      rcases n with n | n
      · exact nw n
      · rw [n] at e; cases e
    rw [upd_ne this]; exact t.keep b x e nw n2, fun b x e => by
    by_cases h : b = A
    · subst h; exact ⟨o, upd_same⟩
    · rw [upd_ne h]; exact t.dom b x e, t.new, t.own⟩
theorem re_lc {T vs : List Nat} {wi : TI} {g : TG} {tt : TT} {te : TE} {fi : DS → Option (List D × DS)} {fg : D → DS → Option DS} {ft : DS → Option (Bool × DS)} {fe : DS → Option (RV × DS)} (hT : ∀ i ∈ T, i ∈ vs) (hn : ∀ i ∈ vs, i < K.n) (hfr : ∀ i ∈ vs, K.free i) (hi : RI K wi fi) (hg : RG K T g fg) (ht : RT K tt ft) (he : RE K te fe) :
    RE K (tLc wi g tt te vs) (fLc fi fg ft fe vs) := by
  intro G0 H0 F0 σ ds r ds' Q S0 e q
  simp only [fLc, fLcG, Option.bind_eq_some_iff] at e
  obtain ⟨⟨l, ds1⟩, e1, e2⟩ := e
  split at e2
  · rename_i hc
    simp only [Bool.and_eq_true, List.all_eq_true, decide_eq_true_eq] at hc
    obtain ⟨hv, hl⟩ := hc
    simp only [Option.map_eq_some_iff] at e2
    obtain ⟨⟨es, w'⟩, e3, e4⟩ := e2
    cases e4
    refine hi G0 H0 F0 σ ds l ds1 _ S0 e1 fun J Gb H1 F1 S1 t1 wk A hA => ?_
    have N := new_list (ys := []) (z := []) (S1.wiped vs hfr) t1 hA .nil
    obtain ⟨S2, t2, r2, f2⟩ := N
    refine lc_loop (σ := σ) (W0 := Wf F0) (G0 := G0) (H0 := H0) (Gb := Gb) accC wk hl ?_ e3 ⟨Gb, F1, [], S2, t2, Same.refl Gb, ⟨[], upd_same, .nil, rfl⟩, f2⟩ ?_
    · rintro d w p es x H Nx hτ hes ⟨G, F, fp, S, t, sb, ⟨xs, hx1, hx2, rfl⟩, hf, dd⟩ nx
      simp only [turnC, Option.bind_eq_some_iff] at hτ
      obtain ⟨d1, k1, ⟨b, d2⟩, k2, k3⟩ := hτ
      refine hg G H F _ w x d d1 _ S dd k1 fun σ2 F2 S2 w2 o2 => ⟨wipe_off hT o2, ?_⟩
      have tt2 : Step (Wf F0) G0 H0 G H (Wf F2) := t.reown fun b hb => t.own b (w2 b hb)
      have hf2 : Fp G H (Wf F2) (Wf F0) H0 [A] := ⟨hf.nod, fun a ha => ⟨(hf.off a ha).1, (hf.off a ha).2.1, fun z => (hf.off a ha).2.2 (w2 a z)⟩, hf.new⟩
      refine ht G H F2 σ2 d1 b d2 _ S2 k2 fun G3 H3 F3 S3 t3 => ?_
      have hf3 := hf2.step t3
      have hx3 : H3 A = some (.lst xs) := hf2.keeps t3 A (by simp) _ hx1
      have ww : wipe σ2 vs = wipe σ vs := wipe_off hT o2
      cases b with
      | true =>
        simp only [if_true, Option.bind_eq_some_iff, Option.map_eq_some_iff] at k3 ⊢
        obtain ⟨⟨rv, d3⟩, k4, ⟨z, d4⟩, k5, k6⟩ := k3
        cases k6
        refine he G3 H3 F3 σ2 d2 rv d3 _ S3 k4 fun v G4 H4 F4 fp4 S4 t4 r4 f4 => ?_
        have hf4 := hf3.step t4
        have hx4 : H4 A = some (.lst xs) := hf3.keeps t4 A (by simp) _ hx3
        have tall := (tt2.trans t3).trans t4
        have f5 : Fp G4 H4 (Wf F4) (Wf F0) H0 (fp4 ++ [A]) := (f4.since (tt2.trans t3)).app hf4 fun y h1 h2 => by
          obtain rfl : y = A := by simpa using h2
          rcases f4.new y h1 with z | z
          · exact (hf3.off y (by simp)).2.2 z
          · rw [hx3] at z; cases z
        obtain ⟨G5, F5, S5, t5, s5, dd5, f6⟩ := frz_ok S4 tall r4 f5 k5
        have fa := f6.off A (by simp)
        refine ⟨xs, hx4, by rw [dpsLen hx2]; exact szOf hes, nx _ ⟨G5, F5, [], ?_, t5.poke (f6.new A (by simp)), ?_, ⟨xs ++ [v], upd_same, ?_, rfl⟩, ⟨f6.nod, fun a ha => ?_, f6.new⟩⟩⟩
        · have := (S5.poke (o := .lst (xs ++ [v])) hx4 nt_lst fa.1 fa.2.2 nt_lst).wiped vs hfr
          rw [ww] at this
          exact this
        · exact ((sb.trans t3.sg).trans t4.sg).trans s5
        · exact dpsApp (dpsMono ((t3.sg.trans t4.sg).trans s5) _ _ hx2) (.cons dd5 .nil)
        · obtain rfl : a = A := by simpa using ha
          exact ⟨fa.1, ⟨_, upd_same, nt_lst⟩, fa.2.2⟩
      | false =>
        simp only [Bool.false_eq_true, if_false] at k3 ⊢
        cases k3
        refine nx _ ⟨G3, F3, [], ?_, tt2.trans t3, sb.trans t3.sg, ⟨xs, hx3, ?_, rfl⟩, hf3⟩
        · have := S3.wiped vs hfr
          rw [ww] at this
          exact this
        · simpa using dpsMono t3.sg _ _ hx2
    · rintro H ⟨G, F, fp, S, t, sb, ⟨xs, hx1, hx2, rfl⟩, hf⟩
      obtain ⟨F', S', w'⟩ := SI.mended S1 sb S hv hn hfr
      refine q (.ref A) G H F' [A] S' (t.reown fun b hb => t.own b (w' b hb)) ⟨A, xs, rfl, hx1, hx2, rfl⟩ ⟨hf.nod, fun a ha => ⟨(hf.off a ha).1, (hf.off a ha).2.1, fun z => (hf.off a ha).2.2 (w' a z)⟩, hf.new⟩
  · cases e2
theorem re_lcM {T vs : List Nat} {wi : TI} {g : TG} {tt : TT} {te : TE} {fi : DS → Option (List D × DS)} {fg : D → DS → Option DS} {ft : DS → Option (Bool × DS)} {fe : DS → Option (RV × DS)} (hT : ∀ i ∈ T, i ∈ vs) (hn : ∀ i ∈ vs, i < K.n) (hfr : ∀ i ∈ vs, K.free i) (hi : RI K wi fi) (hg : RG K T g fg) (ht : RT K tt ft) (he : RE K te fe) :
    RE K (tLc wi g tt te vs) (fLcM fi fg ft fe vs) := by
  intro G0 H0 F0 σ ds r ds' Q S0 e q
  simp only [fLcM, fLcG, Option.bind_eq_some_iff] at e
  obtain ⟨⟨l, ds1⟩, e1, e2⟩ := e
  split at e2
  · rename_i hc
    simp only [Bool.and_eq_true, List.all_eq_true, decide_eq_true_eq] at hc
    obtain ⟨hv, hl⟩ := hc
    simp only [Option.map_eq_some_iff] at e2
    obtain ⟨⟨es, w'⟩, e3, e4⟩ := e2
    cases e4
    refine hi G0 H0 F0 σ ds l ds1 _ S0 e1 fun J Gb H1 F1 S1 t1 wk A hA => ?_
    have N := new_list (ys := []) (z := []) (S1.wiped vs hfr) t1 hA .nil
    obtain ⟨S2, t2, r2, f2⟩ := N
    refine lc_loop (K := K) (σ := σ) (W0 := Wf F0) (G0 := G0) (H0 := H0) (Gb := Gb) accM wk hl ?_ e3 ⟨Gb, F1, [], S2, t2, Same.refl Gb, ⟨[], upd_same, .nil⟩, f2⟩ ?_
    · rintro d w p es x H Nx hτ hes ⟨G, F, fp, S, t, sb, ⟨xs, hx1, hx2⟩, hf, dd⟩ nx
      simp only [turnM, Option.bind_eq_some_iff] at hτ
      obtain ⟨d1, k1, ⟨b, d2⟩, k2, k3⟩ := hτ
      refine hg G H F _ w x d d1 _ S dd k1 fun σ2 F2 S2 w2 o2 => ⟨wipe_off hT o2, ?_⟩
      have tt2 : Step (Wf F0) G0 H0 G H (Wf F2) := t.reown fun b hb => t.own b (w2 b hb)
      have hf2 : Fp G H (Wf F2) (Wf F0) H0 (A :: fp) := ⟨hf.nod, fun a ha => ⟨(hf.off a ha).1, (hf.off a ha).2.1, fun z => (hf.off a ha).2.2 (w2 a z)⟩, hf.new⟩
      refine ht G H F2 σ2 d1 b d2 _ S2 k2 fun G3 H3 F3 S3 t3 => ?_
      have hf3 := hf2.step t3
      have hx3 : H3 A = some (.lst xs) := hf2.keeps t3 A (by simp) _ hx1
      have hy3 : TrAll H3 xs es fp := trsMono _ _ _ hx2 fun b hb x e => hf2.keeps t3 b (by simp [hb]) x e
      have ww : wipe σ2 vs = wipe σ vs := wipe_off hT o2
      cases b with
      | true =>
        simp only [if_true, Option.bind_eq_some_iff, Option.map_eq_some_iff] at k3 ⊢
        obtain ⟨⟨rv, d3⟩, k4, z, k5, k6⟩ := k3
        cases k6
        refine he G3 H3 F3 σ2 d2 rv d3 _ S3 k4 fun v G4 H4 F4 fp4 S4 t4 r4 f4 => ?_
        cases rv with
        | loc i => cases k5
        | ov o =>
        have tr4 : Tr H4 v z fp4 := Rep.own (K := K) (G := G4) r4 k5
        have hf4 := hf3.step t4
        have hx4 : H4 A = some (.lst xs) := hf3.keeps t4 A (by simp) _ hx3
        have hy4 : TrAll H4 xs es fp := trsMono _ _ _ hy3 fun b hb x e => hf3.keeps t4 b (by simp [hb]) x e
        have tall := (tt2.trans t3).trans t4
        have f5 : Fp G4 H4 (Wf F4) (Wf F0) H0 ((A :: fp) ++ fp4) := hf4.app (f4.since (tt2.trans t3)) fun y h1 h2 => by
          rcases f4.new y h2 with z | z
          · exact (hf3.off y h1).2.2 z
          · obtain ⟨_, ⟨x, hx⟩, _⟩ := hf3.off y h1
            rw [hx.1] at z; cases z
        have fa := f5.off A (by simp)
        have nA : A ∉ fp ++ fp4 := (List.nodup_cons.mp f5.nod).1
        refine ⟨xs, hx4, by rw [trsLen hx2]; exact szOf hes, nx _ ⟨G4, F4, fp ++ fp4, ?_, tall.poke (f5.new A (by simp)), ?_, ⟨xs ++ [v], upd_same, ?_⟩, ⟨f5.nod, fun a ha => ?_, f5.new⟩⟩⟩
        · have := (S4.poke (o := .lst (xs ++ [v])) hx4 nt_lst fa.1 fa.2.2 nt_lst).wiped vs hfr
          rw [ww] at this
          exact this
        · exact (sb.trans t3.sg).trans t4.sg
        · have h1 : TrAll H4 (xs ++ [v]) (es ++ [z]) (fp ++ fp4) := by
            have := trsApp hy4 (.cons tr4 .nil)
            rwa [List.append_nil] at this
          exact trsMono _ _ _ h1 fun b hb x e => by
            have nb : b ≠ A := fun z => nA (by rw [← z]; exact hb)
            rw [upd_ne nb]; exact e
        · by_cases h : a = A
          · subst h
            exact ⟨fa.1, ⟨_, upd_same, nt_lst⟩, fa.2.2⟩
          · obtain ⟨h1, h2, h3⟩ := f5.off a ha
            exact ⟨h1, by rw [upd_ne h]; exact h2, h3⟩
      | false =>
        simp only [Bool.false_eq_true, if_false] at k3 ⊢
        cases k3
        refine nx _ ⟨G3, F3, fp, ?_, tt2.trans t3, sb.trans t3.sg, ⟨xs, hx3, ?_⟩, hf3⟩
        · have := S3.wiped vs hfr
          rw [ww] at this
          exact this
        · simpa using hy3
    · rintro H ⟨G, F, fp, S, t, sb, ⟨xs, hx1, hx2⟩, hf⟩
      obtain ⟨F', S', w'⟩ := SI.mended S1 sb S hv hn hfr
      refine q (.ref A) G H F' (A :: fp) S' (t.reown fun b hb => t.own b (w' b hb)) (Tr.lst hx1 hx2) ⟨hf.nod, fun a ha => ⟨(hf.off a ha).1, (hf.off a ha).2.1, fun z => (hf.off a ha).2.2 (w' a z)⟩, hf.new⟩
  · cases e2
end Fx
set_option Elab.async false
set_option linter.all false
set_option maxRecDepth 100000
namespace Fx
open PySem PySem.Spec L2
variable {K : Fr}

/-! ### operators on data -/
theorem OpR.alt {X : Cx} {f : Value → Value → Sem Value} {r r' : R2} (h : OpR X f r) (h' : OpR X f r') : OpR X f (fun x y H Q => r x y H Q ∨ r' x y H Q) := by
  intro pins s σ H x y v u Q I rx ry q
  rcases q with q | q
  · exact h pins s σ H x y v u Q I rx ry q
  · exact h' pins s σ H x y v u Q I rx ry q
/-- two ints under a test that is reckoned -/
def gI (c : Int → Int → Bool) (f : Int → Int → D) (d e : D) : Option D := match d, e with
  | .int i, .int j => if c i j = true then some (f i j) else none
  | _, _ => none
theorem vop_I {C : Int → Int → Prop} {g : Int → Int → V} {c : Int → Int → Bool} {f : Int → Int → D} (h : ∀ i j, c i j = true → C i j) (hs : ∀ i j, Sc (g i j) (f i j)) : VOp K (rI C g) (gI c f) := by
  intro H x y d e z Q hd he hz q
  unfold gI at hz
  split at hz
  · split at hz
    · rename_i i j hc
      cases hz
      cases hd
      cases he
      exact ⟨i, j, rfl, rfl, h i j hc, q _ (hs i j)⟩
    · cases hz
  · cases hz
@[simp] def cT : Int → Int → Bool := fun _ _ => true
theorem vop_I0 {g : Int → Int → V} {f : Int → Int → D} (hs : ∀ i j, Sc (g i j) (f i j)) : VOp K (rI0 g) (gI cT f) := by
  intro H x y d e z Q hd he hz q
  unfold gI at hz
  split at hz
  · split at hz
    · rename_i i j hc
      cases hz
      cases hd
      cases he
      exact ⟨i, j, rfl, rfl, q _ (hs i j)⟩
    · cases hz
  · cases hz
/-- // and * of any size -/
def CFd (i j : Int) : Prop := j ≠ 0 ∧ Builtin.divisionGoesByPylong i j = false
noncomputable def cFd (i j : Int) : Bool := yes (CFd i j)
theorem cFd_ok (i j : Int) (h : cFd i j = true) : CFd i j := of_yes h
section
variable {X : Cx}
theorem op_fdX : OpR X (binaryOp .FloorDiv) (rI CFd fun i j => .int (i.fdiv j)) := L2.opI fun i j _ _ _ _ _ hc q => PyProof.Rows.floordiv_int hc.1 q (.inl hc.2)
/-- list + list, of any that is read -/
def rCatL (K : PySem.W.Frag) : R2 := fun x y H Q => ∃ a b xs ys, x = .ref a ∧ y = .ref b ∧ L2.SqL K H a xs ∧ L2.SqL K H b ys ∧ xs.length + ys.length ≤ sizeLine ∧ ∀ p, H p = none → Q (.ref p) (upd H p (.lst (xs ++ ys)))
theorem op_catL : OpR X (binaryOp .Add) (rCatL X.K) := by
  intro pins s σ H x y v u Q I rx ry h
  obtain ⟨a, b, xs, ys, rfl, rfl, ha, hb, hz, q⟩ := h
  cases rx
  cases ry
  obtain ⟨us, r1, ⟨⟨c1, dd1, da1, sl1⟩, n1, ho1, hc1, hn1, hd1⟩, _⟩ := I.list ha
  obtain ⟨ws, r2, ⟨⟨c2, dd2, da2, sl2⟩, n2, ho2, hc2, hn2, hd2⟩, _⟩ := I.list hb
  simp only at hc1 hd1 hc2 hd2 hn1 hn2
  subst hc1 hd1 hc2 hd2 hn1 hn2
  refine concat_meets ⟨_, ho1, rfl⟩ ⟨_, ho2, rfl⟩ PySem.noFill_list_add PySem.seq_list_add PySem.F.slot_list_add PySem.F.entry_list_add (PySem.F.args_list_add_2 _ _)
    (PyProof.Rows.list_addW a b us.toArray ws.toArray n1 n2 none none sl1 sl2 (by
      rw [List.size_toArray, List.size_toArray, ← r1.length, ← r2.length]
      exact hz)) ⟨ho1, ho2, ?_⟩
  have ea : us.toArray ++ ws.toArray = (us ++ ws).toArray := by simp
  rw [ea]
  exact ⟨.ref _, _, I.lnew (t' := s.toks) (r1.append r2) (by rw [List.length_append]; exact hz), rfl, q _ I.fresh⟩
end
/-! ### shared items of a list -/
/-- the items of a list that is read: shared ones -/
def items (r : RV) (ds : DS) : Option (List D × DS) := match r with
  | .ov o => match o.view with
    | .list l => some (l, ds)
    | .tuple l => some (l, ds)
    | _ => none
  | .loc i => match ds[i]? with
    | some (some (.flat l)) => some (l, ds)
    | some (some o) => match o.view with
      | .list l => some (l, ds.set i (some (.sh (.list l))))
      | .tuple l => some (l, ds.set i (some (.sh (.tuple l))))
      | _ => none
    | _ => none
def isT (r : RV) (ds : DS) : Bool := match see r ds with
  | some (.tuple _) => true
  | _ => false
theorem items_ok {G H G0 H0 : Hp} {σ : St} {ds ds' : DS} {F : Nat → List Addr} {W0 : Addr → Prop} {v : V} {r : RV} {fp fq : List Addr} {l : List D} (S : SI K G H σ ds F) (t : Step W0 G0 H0 G H (Wf F)) (h : VRep K G H σ v r fp) (f : Fp G H (Wf F) W0 H0 (fp ++ fq))
    (e : items r ds = some (l, ds')) : ∃ G' F' a xs, SI K G' H σ ds' F' ∧ Step W0 G0 H0 G' H (Wf F') ∧ Same G G' ∧ v = .ref a ∧ DpAll K G' xs l ∧ Fp G' H (Wf F') W0 H0 fq ∧ ((see r ds = some (.list l) ∧ SqL K H a xs) ∨ (see r ds = some (.tuple l) ∧ SqT K H a xs)) := by
  have fin : ∀ {d : D} {ds'' : DS}, frz r ds = some (d, ds'') → ∀ l, (d = .list l ∨ d = .tuple l) → ∃ G' F' a xs, SI K G' H σ ds'' F' ∧ Step W0 G0 H0 G' H (Wf F') ∧ Same G G' ∧ v = .ref a ∧ DpAll K G' xs l ∧ Fp G' H (Wf F') W0 H0 fq ∧ ((see r ds = some (.list l) ∧ SqL K H a xs) ∨ (see r ds = some (.tuple l) ∧ SqT K H a xs)) := by
    intro d ds'' hz l hl
    obtain ⟨G2, F2, S2, t2, s2, dd, f2⟩ := frz_ok S t h f hz
    have hs := (frz_see hz).1
    rcases hl with rfl | rfl
    · cases dd with
      | lst h1 h2 => exact ⟨G2, F2, _, _, S2, t2, s2, rfl, h2, f2, .inl ⟨hs, S2.sub.seq h1⟩⟩
    · cases dd with
      | tup h1 h2 => exact ⟨G2, F2, _, _, S2, t2, s2, rfl, h2, f2, .inr ⟨hs, same_sqt S2.sub h1⟩⟩
  cases r with
  | ov o =>
    have hz : frz (.ov o) ds = some (o.view, ds) := rfl
    simp only [items] at e
    split at e
    · rename_i l' hl
      cases e
      exact fin hz _ (.inl hl)
    · rename_i l' hl
      cases e
      exact fin hz _ (.inr hl)
    · cases e
  | loc i =>
    simp only [items] at e
    split at e
    · rename_i l' hl
      cases e
      obtain ⟨w, h1, a, xs, h2, h3, h4, h5⟩ := S.rep i _ hl
      have h' : σ[i]? = some (some v) := h.1
      obtain rfl := look_eq h1 h'
      exact ⟨G, F, a, xs, S, t, Same.refl G, h2, h4, f.right, .inl ⟨by simp [see, hl, OV.view], SqL.of h3⟩⟩
    · rename_i o hne ho
      have hz : frz (.loc i) ds = some (o.view, ds.set i (some (.sh o.view))) := by simp [frz, ho]
      split at e
      · rename_i l' hl
        cases e
        rw [hl] at hz
        exact fin hz _ (.inl rfl)
      · rename_i l' hl
        cases e
        rw [hl] at hz
        exact fin hz _ (.inr rfl)
      · cases e
    · cases e
theorem items_see {r : RV} {ds ds' : DS} {l : List D} (e : items r ds = some (l, ds')) : ∀ r', see r' ds' = see r' ds := by
  cases r with
  | ov o =>
    simp only [items] at e
    split at e <;> first | (cases e; exact fun _ => rfl) | cases e
  | loc i =>
    simp only [items] at e
    split at e
    · cases e; exact fun _ => rfl
    · rename_i o hne ho
      have hz : frz (.loc i) ds = some (o.view, ds.set i (some (.sh o.view))) := by simp [frz, ho]
      split at e
      · rename_i l' hl
        cases e
        rw [hl] at hz
        exact (frz_see hz).2
      · rename_i l' hl
        cases e
        rw [hl] at hz
        exact (frz_see hz).2
      · cases e
    · cases e
/-! ### a + b: ints, lists, texts -/
def rAddX (K : PySem.W.Frag) : R2 := fun x y H Q => rI0 (fun i j => .int (i + j)) x y H Q ∨ rCatL K x y H Q
theorem op_addX {X : Cx} : OpR X (binaryOp .Add) (rAddX X.K) := OpR.alt L2.op_add op_catL
/-- lists: their shared items on one side, then the other -/
def fCat (a b : RV) (ds : DS) : Option (RV × DS) := (items a ds).bind fun p => (items b p.2).bind fun q => if isT a ds || isT b ds || decide (1000000 < p.1.length + q.1.length) then none else some (.ov (.flat (p.1 ++ q.1)), q.2)
def fAdd (fa fb : DS → Option (RV × DS)) (ds : DS) : Option (RV × DS) := (fa ds).bind fun p => (fb p.2).bind fun q => match see p.1 q.2, see q.1 q.2 with
  | some (.int i), some (.int j) => some (.ov (.sh (.int (i + j))), q.2)
  | _, _ => fCat p.1 q.1 q.2
theorem fps_app {G1 H1 G2 H2 H : Hp} {W W1 W2 : Addr → Prop} {fp1 fp2 : List Addr} {G : Hp} (f1 : Fp G1 H1 W1 W H fp1) (t1 : Step W G H G1 H1 W1) (t2 : Step W1 G1 H1 G2 H2 W2) (f2 : Fp G2 H2 W2 W1 H1 fp2) : Fp G2 H2 W2 W H (fp1 ++ fp2) :=
  (f1.step t2).app (f2.since t1) fun x h1 h2 => by
    obtain ⟨_, ⟨y, hy⟩, nw⟩ := f1.off x h1
    rcases f2.new x h2 with z | z
    · exact nw z
    · rw [hy.1] at z; cases z
theorem re_add {ta tb : TE} {fa fb : DS → Option (RV × DS)} (ha : RE K ta fa) (hb : RE K tb fb) : RE K (tOp (rAddX K.fr) ta tb) (fAdd fa fb) := by
  intro G H F σ ds rv ds' Q S e q
  simp only [fAdd, Option.bind_eq_some_iff] at e
  obtain ⟨⟨ra, d1⟩, e1, ⟨rb, d2⟩, e2, e3⟩ := e
  refine ha G H F σ ds ra d1 _ S e1 fun v1 G1 H1 F1 fp1 S1 t1 r1 f1 => ?_
  refine hb G1 H1 F1 σ d1 rb d2 _ S1 e2 fun v2 G2 H2 F2 fp2 S2 t2 r2 f2 => ?_
  have t12 := t1.trans t2
  have ff := fps_app f1 t1 t2 f2
  split at e3
  · rename_i i j hi hj
    cases e3
    have x1 := see_ok S2 (r1.step f1 t2) hi
    have x2 := see_ok S2 r2 hj
    cases x1
    cases x2
    exact .inl ⟨i, j, rfl, rfl, q _ G2 H2 F2 [] S2 t12 ⟨.int _, rfl⟩ .nil⟩
  · simp only [fCat, Option.bind_eq_some_iff] at e3
    obtain ⟨⟨l, d3⟩, e4, ⟨m, d4⟩, e5, e6⟩ := e3
    split at e6
    · cases e6
    · rename_i hn
      cases e6
      rw [Bool.or_eq_true, Bool.or_eq_true, not_or, not_or] at hn
      obtain ⟨⟨n1, n2⟩, n3⟩ := hn
      obtain ⟨G3, F3, a, xs, S3, t3, s3, rfl, dd3, f3, alt⟩ := items_ok S2 t12 (r1.step f1 t2) ff e4
      have r2' : VRep K G3 H2 σ v2 rb fp2 := by
        cases rb with
        | ov o => exact Rep.mono r2 s3 fun _ _ _ e => e
        | loc i => exact r2
      obtain ⟨G4, F4, b, ys, S4, t4, s4, rfl, dd4, f4, alt2⟩ := items_ok (fq := []) S3 t3 r2' (by rw [List.append_nil]; exact f3) e5
      have k1 : SqL K H2 a xs := by
        rcases alt with ⟨_, h⟩ | ⟨h, _⟩
        · exact h
        · exact absurd (show isT _ _ = true by unfold isT; rw [h]) n1
      have k2 : SqL K H2 b ys := by
        rcases alt2 with ⟨_, h⟩ | ⟨h, _⟩
        · exact h
        · rw [items_see e4] at h
          exact absurd (show isT _ _ = true by unfold isT; rw [h]) n2
      have hlen : ¬ 1000000 < l.length + m.length := fun z => n3 (decide_eq_true z)
      refine .inr ⟨a, b, xs, ys, rfl, rfl, k1, k2, ?_, fun p hp => ?_⟩
      · rw [dpsLen dd3, dpsLen dd4]
        exact Nat.le_of_lt (szOf (by omega))
      · obtain ⟨S5, t5, r5, f5⟩ := new_list S4 t4 hp (dpsApp (dpsMono s4 _ _ dd3) dd4)
        exact q _ _ _ _ _ S5 t5 r5 f5
/-! ### a * b: ints, list * int -/
def rMulX (K : PySem.W.Frag) : R2 := fun x y H Q => rI CMulX (fun i j => .int (i * j)) x y H Q ∨ rRep x y H Q
theorem op_mulXX {X : Cx} : OpR X (binaryOp .Mult) (rMulX X.K) := OpR.alt L2.op_mulX L2.op_rep
noncomputable def mulOk (i j : Int) : Bool := yes (CMulX i j)
theorem mulOk_ok {i j : Int} (h : mulOk i j = true) : CMulX i j := of_yes h
theorem mulOk_of {i j : Int} (h : CMulX i j) : mulOk i j = true := yes_of h
/-- a list j times -/
def repD (l : List D) (j : Int) : List D := (List.replicate j.toNat l).flatten
noncomputable def repOk (l : List D) (j : Int) : Bool := yes (j ≤ 1000000 ∧ l.length ≤ 1 ∧ -1000000 ≤ j)
theorem repOk_ok {l : List D} {j : Int} (h : repOk l j = true) : j ≤ 1000000 ∧ l.length ≤ 1 ∧ -1000000 ≤ j := of_yes h
theorem repOk_of {l : List D} {j : Int} (h : j ≤ 1000000 ∧ l.length ≤ 1 ∧ -1000000 ≤ j) : repOk l j = true := yes_of h
noncomputable def fMul (fa fb : DS → Option (RV × DS)) (ds : DS) : Option (RV × DS) := (fa ds).bind fun p => (fb p.2).bind fun q => match see q.1 q.2 with
  | some (.int j) => match p.1 with
    | .ov (.flat l) => if repOk l j = true then some (.ov (.flat (repD l j)), q.2) else none
    | r => match see r q.2 with
      | some (.int i) => if mulOk i j = true then some (.ov (.sh (.int (i * j))), q.2) else none
      | _ => none
  | _ => none
theorem dpsRep {G : Hp} {xs : List V} {l : List D} (h : DpAll K G xs l) : ∀ n : Nat, DpAll K G (List.replicate n xs).flatten (List.replicate n l).flatten
  | 0 => .nil
  | n + 1 => by
    rw [List.replicate_succ, List.replicate_succ, List.flatten_cons, List.flatten_cons]
    exact dpsApp h (dpsRep h n)
theorem re_mul {ta tb : TE} {fa fb : DS → Option (RV × DS)} (ha : RE K ta fa) (hb : RE K tb fb) : RE K (tOp (rMulX K.fr) ta tb) (fMul fa fb) := by
  intro G H F σ ds rv ds' Q S e q
  simp only [fMul, Option.bind_eq_some_iff] at e
  obtain ⟨⟨ra, d1⟩, e1, ⟨rb, d2⟩, e2, e3⟩ := e
  refine ha G H F σ ds ra d1 _ S e1 fun v1 G1 H1 F1 fp1 S1 t1 r1 f1 => ?_
  refine hb G1 H1 F1 σ d1 rb d2 _ S1 e2 fun v2 G2 H2 F2 fp2 S2 t2 r2 f2 => ?_
  have t12 := t1.trans t2
  split at e3
  · rename_i j hj
    have x2 := see_ok S2 r2 hj
    cases x2
    split at e3
    · rename_i l hl
      have hl : ra = .ov (.flat l) := hl
      subst hl
      split at e3
      · rename_i hc0
        have hc := repOk_ok hc0
        cases e3
        obtain ⟨a, xs, rfl, h1, h2, h3⟩ := r1.step f1 t2
        refine .inr ⟨a, j, xs, rfl, rfl, h1, by omega, by omega, ?_, fun p hp => ?_⟩
        · have := dpsLen h2
          have e1 : xs.length * j.toNat ≤ 1 * j.toNat := Nat.mul_le_mul_right _ (by omega)
          have e2 : 1000000 < sizeLine := szOf (Nat.le_refl _)
          omega
        · obtain ⟨S5, t5, r5, f5⟩ := new_list S2 t12 hp (dpsRep h2 j.toNat)
          exact q _ _ _ _ _ S5 t5 r5 f5
      · cases e3
    · split at e3
      · rename_i i hi
        split at e3
        · rename_i hc
          cases e3
          have x1 := see_ok S2 (r1.step f1 t2) hi
          cases x1
          exact .inl ⟨i, j, rfl, rfl, mulOk_ok hc, q _ G2 H2 F2 [] S2 t12 ⟨.int _, rfl⟩ .nil⟩
        · cases e3
      · cases e3
  · cases e3
/-! ### a[i] -/
def rIxX (K : PySem.W.Frag) : R2 := fun x y H Q => L2.rIxL K x y H Q ∨ L2.rIxT K x y H Q
theorem ix_X {X : Cx} : IxR X (rIxX X.K) := ix_list.or ix_tup
def fIx (fa fb : DS → Option (RV × DS)) (ds : DS) : Option (RV × DS) := (fa ds).bind fun p => (fb p.2).bind fun q => match see q.1 q.2 with
  | some (.int k) => match see p.1 q.2 with
    | some (.list l) => (atI l k).bind fun e => if isSc e = true then some (.ov (.sh e), q.2) else (items p.1 q.2).map fun w => (.ov (.sh e), w.2)
    | some (.tuple l) => (atI l k).bind fun e => if isSc e = true then some (.ov (.sh e), q.2) else (items p.1 q.2).map fun w => (.ov (.sh e), w.2)
    | _ => none
  | _ => none
theorem atI_dp {G : Hp} {xs : List V} {l : List D} {k : Int} {e : D} (h : DpAll K G xs l) (hk : atI l k = some e) : ∃ v, atI xs k = some v ∧ Dp K G v e := by
  unfold atI at hk ⊢
  rw [dpsLen h]
  simp only [Option.bind_eq_some_iff] at hk
  obtain ⟨j, h1, h2⟩ := hk
  obtain ⟨v, h3, h4⟩ := dpsGet h h2
  exact ⟨v, by rw [h1]; exact h3, h4⟩
theorem re_ix {ta tb : TE} {fa fb : DS → Option (RV × DS)} (ha : RE K ta fa) (hb : RE K tb fb) : RE K (tOp (rIxX K.fr) ta tb) (fIx fa fb) := by
  intro G H F σ ds rv ds' Q S e q
  simp only [fIx, Option.bind_eq_some_iff] at e
  obtain ⟨⟨ra, d1⟩, e1, ⟨rb, d2⟩, e2, e3⟩ := e
  refine ha G H F σ ds ra d1 _ S e1 fun v1 G1 H1 F1 fp1 S1 t1 r1 f1 => ?_
  refine hb G1 H1 F1 σ d1 rb d2 _ S1 e2 fun v2 G2 H2 F2 fp2 S2 t2 r2 f2 => ?_
  have t12 := t1.trans t2
  split at e3
  · rename_i k hk
    have x2 := see_ok S2 r2 hk
    cases x2
    split at e3
    · rename_i l hl
      simp only [Option.bind_eq_some_iff] at e3
      obtain ⟨el, h1, h2⟩ := e3
      split at h2
      · rename_i hsc
        cases h2
        have x1 := see_ok S2 (r1.step f1 t2) hl
        cases x1 with
        | lst g1 g2 =>
          obtain ⟨v, g3, g4⟩ := atI_dp g2 h1
          exact .inl ⟨_, _, k, v, rfl, rfl, g1, g3, q v G2 H2 F2 [] S2 t12 ⟨(scOf g4 hsc).dp, rfl⟩ .nil⟩
      · simp only [Option.map_eq_some_iff] at h2
        obtain ⟨⟨l', d3⟩, h3, h4⟩ := h2
        cases h4
        obtain ⟨G3, F3, a, xs, S3, t3, s3, rfl, dd3, f3, alt⟩ := items_ok S2 t12 (r1.step f1 t2) (fps_app f1 t1 t2 f2) h3
        rcases alt with ⟨h5, h6⟩ | ⟨h5, _⟩
        · rw [hl] at h5
          cases h5
          obtain ⟨v, g3, g4⟩ := atI_dp dd3 h1
          exact .inl ⟨_, _, k, v, rfl, rfl, h6, g3, q v G3 H2 F3 [] S3 t3 ⟨g4, rfl⟩ .nil⟩
        · rw [hl] at h5
          cases h5
    · rename_i l hl
      simp only [Option.bind_eq_some_iff] at e3
      obtain ⟨el, h1, h2⟩ := e3
      split at h2
      · rename_i hsc
        cases h2
        have x1 := see_ok S2 (r1.step f1 t2) hl
        cases x1 with
        | tup g1 g2 =>
          obtain ⟨v, g3, g4⟩ := atI_dp g2 h1
          exact .inr ⟨_, _, k, v, rfl, rfl, g1, g3, q v G2 H2 F2 [] S2 t12 ⟨(scOf g4 hsc).dp, rfl⟩ .nil⟩
      · simp only [Option.map_eq_some_iff] at h2
        obtain ⟨⟨l', d3⟩, h3, h4⟩ := h2
        cases h4
        obtain ⟨G3, F3, a, xs, S3, t3, s3, rfl, dd3, f3, alt⟩ := items_ok S2 t12 (r1.step f1 t2) (fps_app f1 t1 t2 f2) h3
        rcases alt with ⟨h5, _⟩ | ⟨h5, h6⟩
        · rw [hl] at h5
          cases h5
        · rw [hl] at h5
          cases h5
          obtain ⟨v, g3, g4⟩ := atI_dp dd3 h1
          exact .inr ⟨_, _, k, v, rfl, rfl, h6, g3, q v G3 H2 F3 [] S3 t3 ⟨g4, rfl⟩ .nil⟩
    · cases e3
  · cases e3
/-! ### a[i:j] of a list -/
def cutD (l : List D) (lo hi : Option Int) : List D := (l.drop (HT.sIx l.length 0 lo)).take (HT.sIx l.length l.length hi - HT.sIx l.length 0 lo)
theorem cut_dp {G : Hp} {xs : List V} {l : List D} (h : DpAll K G xs l) (lo hi : Option Int) : DpAll K G (cutV xs lo hi) (cutD l lo hi) := by
  unfold cutV cutD
  rw [dpsLen h]
  exact dpsTake _ (dpsDrop _ h)
/-- a part of a slice -/
def RO (K : Fr) (t : TO) (f : DS → Option (Option Int × DS)) : Prop :=
  ∀ (G H : Hp) (F : Nat → List Addr) (σ : St) (ds : DS) (o : Option Int) (ds' : DS) (Q : Option Int → Hp → Prop), SI K G H σ ds F → f ds = some (o, ds') →
    (∀ G' H' F', SI K G' H' σ ds' F' → Step (Wf F) G H G' H' (Wf F') → Q o H') → t σ H Q
def fNoPart (ds : DS) : Option (Option Int × DS) := some (none, ds)
def fPart (f : DS → Option (RV × DS)) (ds : DS) : Option (Option Int × DS) := (f ds).bind fun p => match see p.1 p.2 with
  | some (.int i) => some (some i, p.2)
  | _ => none
theorem ro_none : RO K tNoPart fNoPart := by
  intro G H F σ ds o ds' Q S e q
  cases e
  exact q G H F S (Step.refl _ _ _)
theorem ro_some {t : TE} {f : DS → Option (RV × DS)} (h : RE K t f) : RO K (tPart t) (fPart f) := by
  intro G H F σ ds o ds' Q S e q
  simp only [fPart, Option.bind_eq_some_iff] at e
  obtain ⟨⟨r, d1⟩, e1, e2⟩ := e
  split at e2
  · rename_i i hi
    cases e2
    refine h G H F σ ds r d1 _ S e1 fun v G1 H1 F1 fp1 S1 t1 r1 f1 => ?_
    have x1 := see_ok S1 r1 hi
    cases x1
    exact ⟨i, rfl, q G1 H1 F1 S1 t1⟩
  · cases e2
def fSl (fe : DS → Option (RV × DS)) (fl fh : DS → Option (Option Int × DS)) (ds : DS) : Option (RV × DS) := (fe ds).bind fun p => (fl p.2).bind fun a => (fh a.2).bind fun b =>
  (items p.1 b.2).bind fun w => if isT p.1 b.2 = true then none else some (.ov (.flat (cutD w.1 a.1 b.1)), w.2)
theorem re_sl {te : TE} {tl th : TO} {fe : DS → Option (RV × DS)} {fl fh : DS → Option (Option Int × DS)} (he : RE K te fe) (hl : RO K tl fl) (hh : RO K th fh) : RE K (tSl (rSlL K) te tl th) (fSl fe fl fh) := by
  intro G H F σ ds rv ds' Q S e q
  simp only [fSl, Option.bind_eq_some_iff] at e
  obtain ⟨⟨r, d1⟩, e1, ⟨lo, d2⟩, e2, ⟨hi, d3⟩, e3, ⟨l, d4⟩, e4, e5⟩ := e
  split at e5
  · cases e5
  · rename_i hT
    cases e5
    refine he G H F σ ds r d1 _ S e1 fun v1 G1 H1 F1 fp1 S1 t1 r1 f1 => ?_
    refine hl G1 H1 F1 σ d1 lo d2 _ S1 e2 fun G2 H2 F2 S2 t2 => ?_
    refine hh G2 H2 F2 σ d2 hi d3 _ S2 e3 fun G3 H3 F3 S3 t3 => ?_
    have r3 := (r1.step f1 t2).step (f1.step t2) t3
    have f3 := (f1.step t2).step t3
    obtain ⟨G4, F4, a, xs, S4, t4, s4, rfl, dd4, f4, alt⟩ := items_ok (fq := []) S3 ((t1.trans t2).trans t3) r3 (by rw [List.append_nil]; exact f3) e4
    rcases alt with ⟨h5, h6⟩ | ⟨h5, _⟩
    · refine ⟨a, xs, rfl, h6, fun p hp => ?_⟩
      obtain ⟨S5, t5, r5, f5⟩ := new_list S4 t4 hp (cut_dp dd4 lo hi)
      exact q _ _ _ _ _ S5 t5 r5 f5
    · exact absurd (show isT _ _ = true by unfold isT; rw [h5]) hT
/-! ### list(x) of a list or tuple -/
def rListOf (K : PySem.W.Frag) : List V → Hp → VK → Prop := fun xs H Q => ∃ p ys, xs = [.ref p] ∧ (L2.SqL K H p ys ∨ L2.SqT K H p ys) ∧ ∀ l, H l = none → Q (.ref l) (upd H l (.lst ys))
def fListOf (fa : DS → Option (List RV × DS)) (ds : DS) : Option (RV × DS) := (fa ds).bind fun p => match p.1 with
  | [r] => (items r p.2).map fun w => (.ov (.flat w.1), w.2)
  | _ => none
theorem re_listOf {t : TA} {fa : DS → Option (List RV × DS)} (ha : RA K t fa) : RE K (tCB (rListOf K.fr) t) (fListOf fa) := by
  intro G H F σ ds rv ds' Q S e q
  simp only [fListOf, Option.bind_eq_some_iff] at e
  obtain ⟨⟨rs, d1⟩, e1, e2⟩ := e
  split at e2
  · rename_i r hr
    have hr : rs = [r] := hr
    subst hr
    simp only [Option.map_eq_some_iff] at e2
    obtain ⟨⟨l, d2⟩, e3, e4⟩ := e2
    cases e4
    refine ha G H F σ ds _ d1 _ S e1 fun v1 G1 H1 F1 fp1 S1 t1 r1 f1 => ?_
    cases r1 with
    | cons a b =>
      cases b
      obtain ⟨G4, F4, x, xs, S4, t4, s4, rfl, dd4, f4, alt⟩ := items_ok S1 t1 a f1 e3
      refine ⟨x, xs, rfl, alt.imp (·.2) (·.2), fun p hp => ?_⟩
      obtain ⟨S5, t5, r5, f5⟩ := new_list S4 t4 hp dd4
      exact q _ _ _ _ _ S5 t5 r5 f5
  · cases e2
/-! ### == and != of data -/
theorem vop_eq : VOp K (rEqD K) (fun d e => if SeqAt.shaped d && SeqAt.shaped e then some (.bool (PyData.eqv d e)) else none) := by
  intro H x y d e z Q hd he hz q
  simp only at hz
  split at hz
  · rename_i hs
    cases hz
    rw [Bool.and_eq_true] at hs
    exact ⟨d, e, hd, he, hs.1, hs.2, q _ (.bl _)⟩
  · cases hz
theorem vop_ne : VOp K (rNeD K) (fun d e => if SeqAt.shaped d && SeqAt.shaped e then some (.bool (!PyData.eqv d e)) else none) := by
  intro H x y d e z Q hd he hz q
  simp only at hz
  split at hz
  · rename_i hs
    cases hz
    rw [Bool.and_eq_true] at hs
    exact ⟨d, e, hd, he, hs.1, hs.2, q _ (.bl _)⟩
  · cases hz
def gEq (d e : D) : Option D := if SeqAt.shaped d && SeqAt.shaped e then some (.bool (PyData.eqv d e)) else none
def gNe (d e : D) : Option D := if SeqAt.shaped d && SeqAt.shaped e then some (.bool (!PyData.eqv d e)) else none
/-- is None -/
def gIsN (d : D) : Option D := some (.bool (match d with | .none => true | _ => false))
def gNotN (d : D) : Option D := some (.bool (match d with | .none => false | _ => true))
/-! ### built-ins -/
def gLen (l : List D) : Option D := match l with
  | [.list xs] => some (.int xs.length)
  | [.tuple xs] => some (.int xs.length)
  | _ => none
theorem vca_len : VCa K (fun xs H Q => ∃ p ys, xs = [.ref p] ∧ (SqL K H p ys ∨ SqT K H p ys) ∧ Q (.int ys.length) H) gLen := by
  intro H xs l z Q h hz q
  unfold gLen at hz
  split at hz
  · cases hz
    cases h with
    | cons a b =>
      cases b
      cases a with
      | lst h1 h2 => exact ⟨_, _, rfl, .inl h1, by rw [dpsLen h2]; exact q _ (.int _)⟩
  · cases hz
    cases h with
    | cons a b =>
      cases b
      cases a with
      | tup h1 h2 => exact ⟨_, _, rfl, .inr h1, by rw [dpsLen h2]; exact q _ (.int _)⟩
  · cases hz
def g1I (f : Int → D) (l : List D) : Option D := match l with
  | [.int i] => some (f i)
  | _ => none
theorem vca_abs : VCa K (fun xs H Q => ∃ i, xs = [.int i] ∧ Q (.int (if i < 0 then -i else i)) H) (g1I fun i => .int (if i < 0 then -i else i)) := by
  intro H xs l z Q h hz q
  unfold g1I at hz
  split at hz
  · cases hz
    cases h with
    | cons a b =>
      cases b
      cases a
      exact ⟨_, rfl, q _ (.int _)⟩
  · cases hz
def gInt (l : List D) : Option D := match l with
  | [.int i] => some (.int i)
  | [.bool b] => some (.int (if b then 1 else 0))
  | _ => none
theorem vca_int : VCa K (fun xs H Q => (∃ i, xs = [.int i] ∧ Q (.int i) H) ∨ ∃ k, xs = [.bl k] ∧ Q (.int (if k then 1 else 0)) H) gInt := by
  intro H xs l z Q h hz q
  unfold gInt at hz
  split at hz
  · cases hz
    cases h with
    | cons a b =>
      cases b
      cases a
      exact .inl ⟨_, rfl, q _ (.int _)⟩
  · cases hz
    cases h with
    | cons a b =>
      cases b
      cases a
      exact .inr ⟨_, rfl, q _ (.int _)⟩
  · cases hz
def gGcd (l : List D) : Option D := match l with
  | [.int a, .int b] => some (.int ((Nat.gcd a.natAbs b.natAbs : Nat) : Int))
  | _ => none
theorem vca_gcd : VCa K rGcd gGcd := by
  intro H xs l z Q h hz q
  unfold gGcd at hz
  split at hz
  · cases hz
    cases h with
    | cons a b =>
      cases b with
      | cons b c =>
        cases c
        cases a
        cases b
        exact ⟨_, _, rfl, q _ (.int _)⟩
  · cases hz
/-- the ints of data -/
def intsD : List D → Option (List Int)
  | [] => some []
  | .int i :: l => (intsD l).map fun r => i :: r
  | _ :: _ => none
theorem ints_dp {G : Hp} : ∀ {xs : List V} {l : List D} {ns : List Int}, DpAll K G xs l → intsD l = some ns → xs = ns.map V.int
  | _, _, _, .nil, e => by cases e; rfl
  | _, _, _, .cons (d := d) a t, e => by
    cases d with
    | int i =>
      simp only [intsD, Option.map_eq_some_iff] at e
      obtain ⟨r, h1, rfl⟩ := e
      cases a
      rw [ints_dp t h1]
      rfl
    | _ => cases e
theorem intsD_map : ∀ ns : List Int, intsD (ns.map PyData.int) = some ns
  | [] => rfl
  | n :: ns => by simp [intsD, intsD_map ns]
def boolsD : List D → Option (List Bool)
  | [] => some []
  | .bool i :: l => (boolsD l).map fun r => i :: r
  | _ :: _ => none
theorem bools_dp {G : Hp} : ∀ {xs : List V} {l : List D} {ns : List Bool}, DpAll K G xs l → boolsD l = some ns → xs = ns.map V.bl
  | _, _, _, .nil, e => by cases e; rfl
  | _, _, _, .cons (d := d) a t, e => by
    cases d with
    | bool i =>
      simp only [boolsD, Option.map_eq_some_iff] at e
      obtain ⟨r, h1, rfl⟩ := e
      cases a
      rw [bools_dp t h1]
      rfl
    | _ => cases e
theorem boolsD_map : ∀ ns : List Bool, boolsD (ns.map PyData.bool) = some ns
  | [] => rfl
  | n :: ns => by simp [boolsD, boolsD_map ns]
def gSum (l : List D) : Option D := match l with
  | [.list xs] => (intsD xs).map fun ns => .int ns.sum
  | _ => none
theorem vca_sum : VCa K (rSum K) gSum := by
  intro H xs l z Q h hz q
  unfold gSum at hz
  split at hz
  · simp only [Option.map_eq_some_iff] at hz
    obtain ⟨ns, h1, rfl⟩ := hz
    cases h with
    | cons a b =>
      cases b
      cases a with
      | lst h2 h3 => exact ⟨_, ns, rfl, by rw [← ints_dp h3 h1]; exact h2, q _ (.int _)⟩
  · cases hz
def gAll (l : List D) : Option D := match l with
  | [.list xs] => (boolsD xs).map fun ns => .bool (ns.all id)
  | _ => none
theorem vca_all : VCa K (rAll K) gAll := by
  intro H xs l z Q h hz q
  unfold gAll at hz
  split at hz
  · simp only [Option.map_eq_some_iff] at hz
    obtain ⟨ns, h1, rfl⟩ := hz
    cases h with
    | cons a b =>
      cases b
      cases a with
      | lst h2 h3 => exact ⟨_, ns, rfl, by rw [← bools_dp h3 h1]; exact h2, q _ (.bl _)⟩
  · cases hz
end Fx
set_option Elab.async false
set_option linter.all false
set_option maxRecDepth 100000
namespace Fx
open PySem PySem.Spec L2
variable {K : Fr}

/-! ### == again: texts by themselves -/
def rEqX (K : PySem.W.Frag) : R2 := fun x y H Q => L2.rEqD K x y H Q ∨ L2.rEq x y H Q
def rNeX (K : PySem.W.Frag) : R2 := fun x y H Q => L2.rNeD K x y H Q ∨ L2.rNe x y H Q
theorem op_eqX {X : Cx} (hu : X.A.units + 64 < cLine) : OpR X (compareOp .Eq) (rEqX X.K) := OpR.alt (op_eqD hu) L2.op_eq
theorem op_neX {X : Cx} (hu : X.A.units + 64 < cLine) : OpR X (compareOp .NotEq) (rNeX X.K) := OpR.alt (op_neD hu) L2.op_ne
def gEqX (d e : D) : Option D := match d, e with
  | .str x, .str y => some (.bool (decide (x = y)))
  | d, e => gEq d e
def gNeX (d e : D) : Option D := match d, e with
  | .str x, .str y => some (.bool (!decide (x = y)))
  | d, e => gNe d e
theorem dec_strV {x y : Str} : decide (V.str x = V.str y) = decide (x = y) := by
  by_cases h : x = y
  · subst h; simp
  · have : ¬ V.str x = V.str y := fun z => h (V.str.inj z)
    rw [decide_eq_false h, decide_eq_false this]
theorem vop_eqX : VOp K (rEqX K.fr) gEqX := by
  intro H x y d e z Q hd he hz q
  unfold gEqX at hz
  split at hz
  · cases hz
    cases hd
    cases he
    exact .inr ⟨rfl, by rw [dec_strV]; exact q _ (.bl _)⟩
  · exact .inl (vop_eq H x y _ _ z Q hd he hz q)
theorem vop_neX : VOp K (rNeX K.fr) gNeX := by
  intro H x y d e z Q hd he hz q
  unfold gNeX at hz
  split at hz
  · cases hz
    cases hd
    cases he
    exact .inr ⟨rfl, by rw [dec_strV]; exact q _ (.bl _)⟩
  · exact .inl (vop_ne H x y _ _ z Q hd he hz q)
/-! ### any of ints or bools -/
def truV : V → Option Bool
  | .bl b => some b
  | .int i => some (i != 0)
  | _ => none
theorem truth_vs {prog : Program} {w : World} {A : Around} : ∀ {xs : List V} {its : List Value} {bs : List Bool}, Vals xs its → xs.map truV = bs.map some →
    TruthOf prog w A (fun i v => its.toArray[i]? = some v) (fun i => bs.getD i false) := fun {xs its bs} r e i v s Q E hv hq => by
  have hv' : its[i]? = some v := by simpa using hv
  have hlt : i < xs.length := by rw [r.length]; exact (List.getElem?_eq_some_iff.mp hv').1
  obtain ⟨u, h1, h2⟩ := Vals.get (i := i) (x := xs[i]) r (by simp [hlt])
  rw [hv'] at h1
  cases h1
  have h3 : (xs.map truV)[i]? = some (truV xs[i]) := by simp [hlt]
  rw [e, List.getElem?_map] at h3
  obtain ⟨b, hb, hb2⟩ := Option.map_eq_some_iff.mp h3
  have hg : bs.getD i false = b := by rw [List.getD_eq_getElem?_getD, hb] <;> rfl
  have hq' : Q (bs.getD i false) s := hq
  rw [hg] at hq'
  generalize xs[i] = x at h2 hb2
  cases x with
  | bl c => cases hb2; cases h2; exact wpAny_truthy_bool hq'
  | int k => cases hb2; obtain ⟨t, rfl⟩ := h2; exact PyProof.Rows.truthy_int hq'
  | _ => cases hb2
def rAnyX (K : PySem.W.Frag) : List V → Hp → VK → Prop := fun vs H Q => ∃ (a : Addr) (xs : List V) (bs : List Bool), vs = [V.ref a] ∧ L2.SqL K H a xs ∧ xs.map truV = bs.map some ∧ Q (.bl (bs.any id)) H
theorem cr_anyX {X : Cx} (hc : X.calm = true) : CallR X (.builtin "any") (rAnyX X.K) := by
  intro pins s σ H vs us Q I r h
  obtain ⟨a, xs, bs, rfl, hs, hb, q⟩ := h
  obtain ⟨its, rv, hl, _⟩ := I.list hs
  rw [Vals.ref1 r]
  refine call_any_walk (iter_any hl.isList fun s₂ e2 st hne => ?_)
  subst e2
  refine ⟨_, _, _, _, _, _, _, rfl, Walks.list (A := X.A.in1) (I.ok.hd hc) _ a hne its.toArray, st, truth_vs rv hb, fun h' tk hk => ?_⟩
  refine ⟨.bl _, H, I.kept fun b o eo => hk b o (fun hmem => ?_) (Heap.get?_push_of_some _ eo), ?_, q⟩
  · rcases List.mem_cons.mp hmem with e1 | hmem
    · exact absurd (e1 ▸ Heap.lt_size eo) (Nat.lt_irrefl _)
    · cases hmem
  · show Value.bool _ = Value.bool _
    have e1 : its.toArray.size = bs.length := by
      rw [List.size_toArray, ← rv.length]
      have := congrArg List.length hb
      simpa using this
    rw [e1, any_range]
def trusD : List D → Option (List Bool)
  | [] => some []
  | .bool i :: l => (trusD l).map fun r => i :: r
  | .int i :: l => (trusD l).map fun r => (i != 0) :: r
  | _ :: _ => none
theorem trus_dp {G : Hp} : ∀ {xs : List V} {l : List D} {ns : List Bool}, DpAll K G xs l → trusD l = some ns → xs.map truV = ns.map some
  | _, _, _, .nil, e => by cases e; rfl
  | _, _, _, .cons (d := d) a t, e => by
    cases d with
    | bool i =>
      simp only [trusD, Option.map_eq_some_iff] at e
      obtain ⟨r, h1, rfl⟩ := e
      cases a
      simp [trus_dp t h1, truV]
    | int i =>
      simp only [trusD, Option.map_eq_some_iff] at e
      obtain ⟨r, h1, rfl⟩ := e
      cases a
      simp [trus_dp t h1, truV]
    | _ => cases e
def gAny (l : List D) : Option D := match l with
  | [.list xs] => (trusD xs).map fun ns => .bool (ns.any id)
  | _ => none
theorem vca_any : VCa K (rAnyX K.fr) gAny := by
  intro H xs l z Q h hz q
  unfold gAny at hz
  split at hz
  · simp only [Option.map_eq_some_iff] at hz
    obtain ⟨ns, h1, rfl⟩ := hz
    cases h with
    | cons a b =>
      cases b
      cases a with
      | lst h2 h3 => exact ⟨_, _, ns, rfl, h2, trus_dp h3 h1, q _ (.bl _)⟩
  · cases hz
/-! ### isinstance of a built-in class -/
def tyD : D → Option String
  | .none => some "NoneType"
  | .bool _ => some "bool"
  | .int _ => some "int"
  | .str _ => some "str"
  | .list _ => some "list"
  | .tuple _ => some "tuple"
  | .dict _ => none
theorem ty_of {H : Hp} {v : V} {d : D} {t : String} (h : Dp K H v d) (e : tyD d = some t) : TyX K H v (.type t) := by
  cases h with
  | non => cases e; exact .base .non
  | bl b => cases e; exact .base (.bl b)
  | int i => cases e; exact .base (.int i)
  | str x => cases e; exact .base (.str x)
  | lst h1 _ =>
    cases e
    rcases h1 with (h | ⟨o, h⟩) | ⟨o, its, n, h, c, _⟩
    · exact .base (.lst h)
    · exact .base (.frz h)
    · exact .kList h c
  | tup h1 _ =>
    cases e
    rcases h1 with (h | ⟨o, h⟩) | ⟨o, its, n, h, c, _⟩
    · exact .base (.tup h)
    · exact .fTuple h
    · exact .kTuple h c
def fIsi (n : String) (f : DS → Option (RV × DS)) (ds : DS) : Option (RV × DS) := (f ds).bind fun p => (see p.1 p.2).bind fun d => (tyD d).bind fun t => (kitB t n).map fun b => (.ov (.sh (.bool b)), p.2)
theorem re_isi {n : String} {te : TE} {f : DS → Option (RV × DS)} (h : RE K te f) : RE K (tCB (rIsi K) (tCons te (tCons (tC (.ty n)) tNil))) (fIsi n f) := by
  intro G H F σ ds rv ds' Q S e q
  simp only [fIsi, Option.bind_eq_some_iff, Option.map_eq_some_iff] at e
  obtain ⟨⟨r, d1⟩, e1, d, e2, t, e3, b, e4, e5⟩ := e
  cases e5
  refine h G H F σ ds r _ _ S e1 fun v G1 H1 F1 fp1 S1 t1 r1 f1 => ?_
  exact ⟨v, .ty n, .type t, .type n, b, rfl, .ty n, ty_of (see_ok S1 r1 e2) e3, kit_ty e4, q _ G1 H1 F1 [] S1 t1 ⟨.bl b, rfl⟩ .nil⟩
/-! ### repr -/
theorem call_reprX {X : Cx} (hg : X.A.guards = some []) (hu : X.A.units + 64 < cLine) : CallR X (.builtin "repr") (fun xs H Q => ∃ v d, xs = [v] ∧ L2.Dp X.K H v d ∧ (∃ a, v = .ref a) ∧ d.showable = true ∧ d.hasDict = false ∧ d.depth ≤ 60 ∧ d.shown.length ≤ sizeLine ∧ Q (.str d.shown) H) := by
  intro pins s σ H xs us Q I r h
  obtain ⟨v, d, rfl, hd, ⟨a, rfl⟩, h1, h2, h3, h4, q⟩ := h
  cases r with
  | cons rv rr =>
    cases rr
    obtain ⟨as, r1⟩ := Dp.reads I d _ _ hd rv
    cases rv
    exact repr_of_reads' r1 h1 (PyData.noDict_hsm h2) hg (by omega) (fun _ _ e => e) (fun h' u tk hk => ⟨.str _, H, I.kept hk, ⟨u, rfl⟩, q⟩) h4
def isRefD : D → Bool
  | .list _ | .tuple _ => true
  | _ => false
def gRepr (l : List D) : Option D := match l with
  | [d] => if isRefD d && d.showable && !d.hasDict && decide (d.depth ≤ 60) && decide (d.shown.length ≤ sizeLine) then some (.str d.shown) else none
  | _ => none
theorem vca_repr : VCa K (fun xs H Q => ∃ v d, xs = [v] ∧ Dp K H v d ∧ (∃ a, v = .ref a) ∧ d.showable = true ∧ d.hasDict = false ∧ d.depth ≤ 60 ∧ d.shown.length ≤ sizeLine ∧ Q (.str d.shown) H) gRepr := by
  intro H xs l z Q h hz q
  unfold gRepr at hz
  split at hz
  · split at hz
    · rename_i d hc
      cases hz
      simp only [Bool.and_eq_true, decide_eq_true_eq, Bool.not_eq_true'] at hc
      obtain ⟨⟨⟨⟨h1, h2⟩, h3⟩, h4⟩, h5⟩ := hc
      cases h with
      | cons a b =>
        cases b
        refine ⟨_, d, rfl, a, ?_, h2, h3, h4, h5, q _ (.str _)⟩
        cases a with
        | lst _ _ => exact ⟨_, rfl⟩
        | tup _ _ => exact ⟨_, rfl⟩
        | _ => cases h1
    · cases hz
  · cases hz
/-! ### x.bit_length() -/
def gBits (d : D) : Option D := match d with
  | .int i => some (.int (Builtin.Int.intBits i : Nat))
  | _ => none
theorem re_bits {te : TE} {f : DS → Option (RV × DS)} (h : RE K te f) : RE K (tBits te) (fUn gBits f) := by
  intro G H F σ ds rv ds' Q S e q
  simp only [fUn, Option.bind_eq_some_iff, Option.map_eq_some_iff] at e
  obtain ⟨⟨ra, d1⟩, e1, d, e3, z, e5, e6⟩ := e
  cases e6
  refine h G H F σ ds ra d1 _ S e1 fun v1 G1 H1 F1 fp1 S1 t1 r1 f1 => ?_
  have x1 := see_ok S1 r1 e3
  unfold gBits at e5
  split at e5
  · cases e5
    cases x1
    exact ⟨_, rfl, q _ G1 H1 F1 [] S1 t1 ⟨.int _, rfl⟩ .nil⟩
  · cases e5
/-! ### -a -/
def gNeg (d : D) : Option D := match d with
  | .int i => some (.int (-i))
  | _ => none
theorem vun_neg : VUn K (rU fun i => .int (-i)) gNeg := by
  intro H x d z Q hd hz q
  unfold gNeg at hz
  split at hz
  · cases hz
    cases hd
    exact ⟨_, rfl, q _ (.int _)⟩
  · cases hz
/-! ### zip, enumerate, reversed, range(a, b, c) -/
def pairD (p : D × D) : D := .tuple [p.1, p.2]
theorem wk_zip {G : Hp} {a b : Addr} {xs ys : List V} {l m : List D} (ha : SqL K G a xs) (hb : SqL K G b ys) (hx : DpAll K G xs l) (hy : DpAll K G ys m) : Wk K G (Itz K a b) ((l.zip m).map pairD) where
  goes := fun i H hi s => by
    rw [List.length_map, List.length_zip] at hi
    have h1 : i < xs.length := by rw [dpsLen hx]; omega
    have h2 : i < ys.length := by rw [dpsLen hy]; omega
    exact ⟨xs, ys, xs[i], ys[i], s.seq ha, s.seq hb, by simp [h1], by simp [h2]⟩
  stops := fun H s => ⟨xs, ys, s.seq ha, s.seq hb, by
    rw [List.length_map, List.length_zip, dpsLen hx, dpsLen hy]
    omega⟩
  yields := fun i d G1 H x H' hi s1 s2 y => by
    obtain ⟨T, u, v, rfl, nT, rfl, y1, y2⟩ := y
    have hu := y1 xs ((s1.trans s2).seq ha)
    have hv := y2 ys ((s1.trans s2).seq hb)
    obtain ⟨d1, e1, e2⟩ := dpsGetV hx hu
    obtain ⟨d2, e3, e4⟩ := dpsGetV hy hv
    have hz : (l.zip m)[i]? = some (d1, d2) := by rw [List.getElem?_zip_eq_some]; exact ⟨e1, e3⟩
    rw [List.getElem?_map, hz] at hi
    cases hi
    have gT : G1 T = none := s2.free nT
    have sG : Same G1 (upd G1 T (.tup [u, v])) := fun b x e => by rw [upd_ne (ne_of_none e gT)]; exact e
    refine ⟨upd G1 T (.tup [u, v]), sG, fun b x e => by rw [upd_ne (ne_of_none e nT)]; exact e, fun b x e => ?_, fun b x e => ?_, fun g0 b x e => ?_, nt_upd nt_tup, .tup (SqT.of upd_same) (.cons (dpMono (s1.trans sG) _ _ e2) (.cons (dpMono (s1.trans sG) _ _ e4) .nil))⟩
    · by_cases h : b = T
      · subst h; rw [upd_same] at e ⊢; exact e
      · rw [upd_ne h] at e ⊢; exact s2 b x e
    · by_cases h : b = T
      · subst h; exact .inr nT
      · rw [upd_ne h] at e; exact .inl ⟨x, e⟩
    · by_cases h : b = T
      · subst h; rw [upd_same] at e; cases e; exact nt_tup
      · rw [upd_ne h] at e; exact g0 b x e
def fiZip (fa : DS → Option (List RV × DS)) (ds : DS) : Option (List D × DS) := (fa ds).bind fun p => (frzs p.1 p.2).bind fun q => match q.1 with
  | [.list l, .list m] => some ((l.zip m).map pairD, q.2)
  | _ => none
theorem ri_zip {t : TA} {f : DS → Option (List RV × DS)} (h : RA K t f) : RI K (iZip K t) (fiZip f) := by
  intro G H F σ ds l ds' R S e q
  simp only [fiZip, Option.bind_eq_some_iff] at e
  obtain ⟨⟨r, d1⟩, e1, ⟨dl, d2⟩, e2, e3⟩ := e
  split at e3
  · rename_i l1 l2 hl
    cases e3
    have hl : dl = [.list l1, .list l2] := hl
    subst hl
    refine h G H F σ ds r d1 _ S e1 fun v G1 H1 F1 fp1 S1 t1 r1 f1 => ?_
    obtain ⟨G2, F2, S2, t2, s2, dd, f2⟩ := frzs_ok (fq := []) S1 t1 r1 (by rw [List.append_nil]; exact f1) e2
    cases dd with
    | cons a b =>
      cases b with
      | cons b c =>
        cases c
        cases a with
        | lst h1 h2 =>
          cases b with
          | lst h3 h4 => exact ⟨_, _, _, _, rfl, S2.sub.seq h1, S2.sub.seq h3, q _ G2 H1 F2 S2 t2 (wk_zip h1 h3 h2 h4)⟩
  · cases e3
def enumD (l : List D) : List D := ((List.range l.length).map fun (i : Nat) => PyData.int (i : Int)).zip l |>.map pairD
theorem enumD_at {l : List D} {i : Nat} {d : D} (h : (enumD l)[i]? = some d) : ∃ e, l[i]? = some e ∧ d = .tuple [.int (i : Int), e] := by
  unfold enumD at h
  rw [List.getElem?_map] at h
  obtain ⟨p, h1, rfl⟩ := Option.map_eq_some_iff.mp h
  rw [List.getElem?_zip_eq_some] at h1
  obtain ⟨h2, h3⟩ := h1
  rw [List.getElem?_map] at h2
  obtain ⟨j, h4, h5⟩ := Option.map_eq_some_iff.mp h2
  obtain ⟨h6, h7⟩ := List.getElem?_eq_some_iff.mp h4
  refine ⟨p.2, h3, ?_⟩
  unfold pairD
  rw [← h5]
  simp at h7
  rw [h7]
theorem enumD_length (l : List D) : (enumD l).length = l.length := by
  unfold enumD
  rw [List.length_map, List.length_zip, List.length_map, List.length_range]
  omega
theorem wk_enum {G : Hp} {a : Addr} {xs : List V} {l : List D} (ha : SqL K G a xs) (hx : DpAll K G xs l) : Wk K G (Ite K a) (enumD l) where
  goes := fun i H hi s => by
    rw [enumD_length] at hi
    have h1 : i < xs.length := by rw [dpsLen hx]; omega
    exact ⟨xs, xs[i], s.seq ha, by simp [h1]⟩
  stops := fun H s => ⟨xs, s.seq ha, by rw [enumD_length, dpsLen hx]; exact Nat.le_refl _⟩
  yields := fun i d G1 H x H' hi s1 s2 y => by
    obtain ⟨T, u, rfl, nT, rfl, y1⟩ := y
    have hu := y1 xs ((s1.trans s2).seq ha)
    obtain ⟨d1, e1, e2⟩ := dpsGetV hx hu
    obtain ⟨e, e3, rfl⟩ := enumD_at hi
    rw [e1] at e3
    cases e3
    have gT : G1 T = none := s2.free nT
    have sG : Same G1 (upd G1 T (.tup [.int (i : Nat), u])) := fun b x e => by rw [upd_ne (ne_of_none e gT)]; exact e
    refine ⟨upd G1 T (.tup [.int (i : Nat), u]), sG, fun b x e => by rw [upd_ne (ne_of_none e nT)]; exact e, fun b x e => ?_, fun b x e => ?_, fun g0 b x e => ?_, nt_upd nt_tup, .tup (SqT.of upd_same) (.cons (.int _) (.cons (dpMono (s1.trans sG) _ _ e2) .nil))⟩
    · by_cases h : b = T
      · subst h; rw [upd_same] at e ⊢; exact e
      · rw [upd_ne h] at e ⊢; exact s2 b x e
    · by_cases h : b = T
      · subst h; exact .inr nT
      · rw [upd_ne h] at e; exact .inl ⟨x, e⟩
    · by_cases h : b = T
      · subst h; rw [upd_same] at e; cases e; exact nt_tup
      · rw [upd_ne h] at e; exact g0 b x e
def fi1 (k : List D → List D) (fa : DS → Option (List RV × DS)) (ds : DS) : Option (List D × DS) := (fa ds).bind fun p => (frzs p.1 p.2).bind fun q => match q.1 with
  | [.list l] => some (k l, q.2)
  | _ => none
theorem ri_enum {t : TA} {f : DS → Option (List RV × DS)} (h : RA K t f) : RI K (iEnum K t) (fi1 enumD f) := by
  intro G H F σ ds l ds' R S e q
  simp only [fi1, Option.bind_eq_some_iff] at e
  obtain ⟨⟨r, d1⟩, e1, ⟨dl, d2⟩, e2, e3⟩ := e
  split at e3
  · rename_i l1 hl
    cases e3
    have hl : dl = [.list l1] := hl
    subst hl
    refine h G H F σ ds r d1 _ S e1 fun v G1 H1 F1 fp1 S1 t1 r1 f1 => ?_
    obtain ⟨G2, F2, S2, t2, s2, dd, f2⟩ := frzs_ok (fq := []) S1 t1 r1 (by rw [List.append_nil]; exact f1) e2
    cases dd with
    | cons a b =>
      cases b
      cases a with
      | lst h1 h2 => exact ⟨_, _, rfl, S2.sub.seq h1, q _ G2 H1 F2 S2 t2 (wk_enum h1 h2)⟩
  · cases e3
theorem wk_rev {G : Hp} {a : Addr} {xs : List V} {l : List D} (h : SqL K G a xs) (hd : DpAll K G xs l) : Wk K G (Itv K a xs.length) l.reverse where
  goes := fun i H hi s => by
    rw [List.length_reverse] at hi
    have hl := dpsLen hd
    have h2 : xs.length - 1 - i < xs.length := by omega
    exact ⟨by omega, xs, xs[xs.length - 1 - i], s.seq h, by simp [h2]⟩
  stops := fun H s => by
    show xs.length ≤ _
    rw [List.length_reverse, dpsLen hd]
    exact Nat.le_refl _
  yields := fun i d G1 H x H' hi s1 s2 y => by
    obtain ⟨rfl, y⟩ := y
    have hx := y xs ((s1.trans s2).seq h)
    obtain ⟨d', e1, e2⟩ := dpsGetV hd hx
    have hlt : i < l.length := by
      have := (List.getElem?_eq_some_iff.mp hi).1
      simpa using this
    rw [List.getElem?_reverse hlt, ← dpsLen hd, e1] at hi
    cases hi
    exact ⟨G1, Same.refl _, Same.refl _, s2, fun b y e => .inl ⟨y, e⟩, id, fun b y e => .inl e, dpMono s1 _ _ e2⟩
theorem ri_rev {t : TA} {f : DS → Option (List RV × DS)} (h : RA K t f) : RI K (iRev K t) (fi1 List.reverse f) := by
  intro G H F σ ds l ds' R S e q
  simp only [fi1, Option.bind_eq_some_iff] at e
  obtain ⟨⟨r, d1⟩, e1, ⟨dl, d2⟩, e2, e3⟩ := e
  split at e3
  · rename_i l1 hl
    cases e3
    have hl : dl = [.list l1] := hl
    subst hl
    refine h G H F σ ds r d1 _ S e1 fun v G1 H1 F1 fp1 S1 t1 r1 f1 => ?_
    obtain ⟨G2, F2, S2, t2, s2, dd, f2⟩ := frzs_ok (fq := []) S1 t1 r1 (by rw [List.append_nil]; exact f1) e2
    cases dd with
    | cons a b =>
      cases b
      cases a with
      | lst h1 h2 => exact ⟨_, _, rfl, S2.sub.seq h1, q _ G2 H1 F2 S2 t2 (wk_rev h1 h2)⟩
  · cases e3
/-- range(i, j, c), c at least 1 -/
def rngC (i j c : Int) : Nat := if j ≤ i then 0 else ((j - i - 1) / c).toNat + 1
def range3D (i j c : Int) : List D := (List.range (Builtin.Range.rangeSize i j c).toNat).map fun (k : Nat) => PyData.int (i + (k : Int) * c)
noncomputable def rgOk (i j c : Int) : Bool := yes (((c ≠ 0 ∧ c.natAbs < 1073741824) ∧ Builtin.Range.small i j c = true) ∧ 0 ≤ Builtin.Range.rangeSize i j c)
theorem wk_rng3 {G : Hp} {lo c : Int} {n : Nat} : Wk K G (Itc lo c n) ((List.range n).map fun (i : Nat) => PyData.int (lo + (i : Int) * c)) where
  goes := fun i H hi _ => by
    show i < n
    simpa using hi
  stops := fun H _ => by
    show n ≤ _
    simp
  yields := fun i d G1 H x H' hi s1 s2 y => by
    obtain ⟨rfl, rfl⟩ := y
    rw [List.getElem?_map] at hi
    simp only [Option.map_eq_some_iff] at hi
    obtain ⟨j, hj, rfl⟩ := hi
    have : i = j := by
      obtain ⟨h1, h2⟩ := List.getElem?_eq_some_iff.mp hj
      simpa using h2
    subst this
    exact ⟨G1, Same.refl _, Same.refl _, s2, fun b y e => .inl ⟨y, e⟩, id, fun b y e => .inl e, .int _⟩
noncomputable def fiR3 (fa : DS → Option (List RV × DS)) (ds : DS) : Option (List D × DS) := (fa ds).bind fun p => (sees p.1 p.2).bind fun l => match l with
  | [.int i, .int j, .int c] => if rgOk i j c = true then some (range3D i j c, p.2) else none
  | _ => none
theorem ri_r3 {t : TA} {f : DS → Option (List RV × DS)} (h : RA K t f) : RI K (iRng3 t) (fiR3 f) := by
  intro G H F σ ds l ds' R S e q
  simp only [fiR3, Option.bind_eq_some_iff] at e
  obtain ⟨⟨r, d1⟩, e1, l1, e2, e3⟩ := e
  split at e3
  · rename_i i j c
    split at e3
    · rename_i hs
      cases e3
      refine h G H F σ ds r d1 _ S e1 fun v G1 H1 F1 fp1 S1 t1 r1 f1 => ?_
      have dd := sees_ok S1 r1 e2
      cases dd with
      | cons a b =>
        cases b with
        | cons b b2 =>
          cases b2 with
          | cons c2 b3 =>
            cases b3
            cases a
            cases b
            cases c2
            obtain ⟨⟨⟨h1, h2⟩, h3⟩, h4⟩ := of_yes hs
            exact ⟨i, j, c, (Builtin.Range.rangeSize i j c).toNat, rfl, ⟨h1, h2, h3, by omega⟩, q _ G1 H1 F1 S1 t1 wk_rng3⟩
    · cases e3
  · cases e3
/-! ### xs.append(e), xs[i] = e -/
/-- e at the end of the list of slot i: shared; owned -/
def fApp (i : Nat) (f : DS → Option (RV × DS)) (ds : DS) : Option Out := match ds[i]? with
  | some (some (.flat _)) => (f ds).bind fun p => (frz p.1 p.2).bind fun q => match q.2[i]? with
    | some (some (.flat l)) => if l.length ≤ 1000000 then some (.nx (q.2.set i (some (.flat (l ++ [q.1]))))) else none
    | _ => none
  | _ => none
/-- the list of slot i changes -/
theorem SI.change {G H H0 : Hp} {σ : St} {ds : DS} {F : Nat → List Addr} (S : SI K G H σ ds F) {i : Nat} {l m : List D} {a : Addr} {xs ys : List V} (hi : ds[i]? = some (some (.flat l))) (hσ : look K H σ i (.ref a)) (hx : H a = some (.lst xs)) (hF : F i = [a]) (hy : DpAll K G ys m) :
    SI K G (upd H a (.lst ys)) σ (ds.set i (some (.flat m))) F := by
  have il : i < ds.length := (List.getElem?_eq_some_iff.mp hi).1
  have ne : ∀ j b, j ≠ i → b ∈ F j → b ≠ a := fun j b hj hb z => by
    subst z
    exact hj (S.dis j i b hb (by simp [hF]))
  have sN : ∀ b x, b ≠ a → H b = some x → upd H a (.lst ys) b = some x := fun b x h e => by rw [upd_ne h]; exact e
  have objA : ∀ u, K.ob = some u → ∀ c, σ[u.slot]? = some (some (.ref c)) → c ≠ a := fun u e c k => by
    obtain ⟨h1, h2, a', dx, fs, k1, k2, k3⟩ := S.obj u e
    rw [k] at k1; cases k1
    exact ne ds.length c (by omega) (by rw [k2]; simp)
  have lk : ∀ j w, look K H σ j w → look K (upd H a (.lst ys)) σ j w := fun j w h => by
    rcases h with h | ⟨h, o', c, C, dx, fs, n, q1, q2, q3, q4⟩
    · exact .inl h
    · exact .inr ⟨h, o', c, C, dx, fs, n, q1, q2, sN _ _ (objA o' q1 c q2) q3, q4⟩
  refine ⟨fun b x e => ?_, S.gnt, ?_, S.sl, by rw [List.length_set]; exact S.len, fun j u e => ?_, S.nod, fun j b hb => ?_, S.dis, fun u e => ?_, fun p e => ?_⟩
  · have : b ≠ a := fun z => by
      subst z
      rw [(S.off i b (by simp [hF])).1] at e; cases e
    exact sN b x this (S.sub b x e)
  · refine ⟨fun p hp => ?_, fun b ps e => (nt_upd nt_lst b _ e).elim (S.tab.2 b ps) fun z => absurd rfl (z.1 ps)⟩
    obtain ⟨ps, h1, h2, h3⟩ := S.tab.1 p hp
    have n1 : p.1 ≠ a := fun z => by rw [z, hx] at h1; cases h1
    refine ⟨ps, sN _ _ n1 h1, h2, fun pos cv hc => ?_⟩
    obtain ⟨c, e1, e2⟩ := h3 pos cv hc
    have n2 : c ≠ a := fun z => by rw [z, hx] at e2; cases e2
    exact ⟨c, e1, sN _ _ n2 e2⟩
  · by_cases hj : j = i
    · subst hj
      rw [List.getElem?_set_self il] at e
      cases e
      exact ⟨_, lk _ _ hσ, a, ys, rfl, upd_same, hy, hF⟩
    · rw [List.getElem?_set_ne (Ne.symm hj)] at e
      obtain ⟨w, h1, h2⟩ := S.rep j u e
      exact ⟨w, lk _ _ h1, h2.mono (Same.refl G) fun b hb x hx' => sN b x (ne j b hj hb) hx'⟩
  · obtain ⟨h1, x, h2⟩ := S.off j b hb
    refine ⟨h1, ?_⟩
    by_cases z : b = a
    · subst z; exact ⟨_, upd_same, nt_lst⟩
    · exact ⟨x, sN _ _ z h2.1, h2.2⟩
  · obtain ⟨h1, h2, c, dx, fs, k1, k2, k3, k4, k5⟩ := S.obj u e
    have hs : i ≠ u.slot := fun z => by rw [z, h1] at hi; cases hi
    refine ⟨by rw [List.getElem?_set_ne hs]; exact h1, h2, c, dx, fs, k1, by rw [List.length_set]; exact k2, sN _ _ (ne ds.length c (by omega) (by rw [k2]; simp)) k3, sN _ _ (ne ds.length dx (by omega) (by rw [k2]; simp)) k4, k5⟩
  · obtain ⟨h1, h2⟩ := S.exs p e
    have hs : i ≠ p.1 := fun z => by rw [z, h1] at hi; cases hi
    exact ⟨by rw [List.getElem?_set_ne hs]; exact h1, h2⟩
theorem slot_flat {G H : Hp} {σ : St} {ds : DS} {F : Nat → List Addr} (S : SI K G H σ ds F) {i : Nat} {l : List D} (hn : i < K.n) (hi : ds[i]? = some (some (.flat l))) : ∃ a xs, σ[i]? = some (some (.ref a)) ∧ H a = some (.lst xs) ∧ DpAll K G xs l ∧ F i = [a] := by
  obtain ⟨v, h1, a, xs, rfl, h2, h3, h4⟩ := S.rep i _ hi
  exact ⟨a, xs, look_at h1 (by rw [S.sl]; exact hn), h2, h3, h4⟩
variable {Z : Zc}
theorem rs_app {i : Nat} (hn : i < K.n) {t : TE} {f : DS → Option (RV × DS)} (h : RE K t f) : RS K Z [] (tDrop (tBM K "list" rAppend (tVar i) (tCons t tNil))) (fApp i f) := by
  intro G H F σ ds o E S e q
  simp only [fApp] at e
  split at e
  · rename_i l0 hl0
    simp only [Option.bind_eq_some_iff] at e
    obtain ⟨⟨r, d1⟩, e1, ⟨d, d2⟩, e2, e3⟩ := e
    split at e3
    · rename_i l hl
      split at e3
      · rename_i hlen
        cases e3
        obtain ⟨a0, xs0, k1, k2, k3, k4⟩ := slot_flat S hn hl0
        refine ⟨.ref a0, k1, .inl ⟨rfl, xs0, SqL.of k2⟩, ?_⟩
        refine h G H F σ ds r d1 _ S e1 fun v G1 H1 F1 fp1 S1 t1 r1 f1 => ?_
        obtain ⟨G2, F2, S2, t2, s2, dd, f2⟩ := frz_ok (fq := []) S1 t1 r1 (by rw [List.append_nil]; exact f1) e2
        obtain ⟨a, xs, m1, m2, m3, m4⟩ := slot_flat S2 hn hl
        rw [k1] at m1
        cases m1
        refine ⟨a0, xs, v, rfl, rfl, m2, by rw [dpsLen m3]; exact szOf hlen, ?_⟩
        exact q σ G2 _ F2 (S2.change (H0 := H) hl (.inl k1) m2 m4 (dpsApp m3 (.cons dd .nil))) (t2.poke (t2.own a0 ⟨i, by simp [m4]⟩)) (Off.refl _ _)
      · cases e3
    · cases e3
  · cases e
/-- xs[k] = e, xs in slot i -/
def fSetIx (i : Nat) (f fk : DS → Option (RV × DS)) (ds : DS) : Option Out := (f ds).bind fun p => (frz p.1 p.2).bind fun q => match q.2[i]? with
  | some (some (.flat _)) => (fk q.2).bind fun w => match see w.1 w.2, w.2[i]? with
    | some (.int k), some (some (.flat l)) => (ixN l.length k).map fun j => .nx (w.2.set i (some (.flat (l.set j q.1))))
    | _, _ => none
  | _ => none
theorem rs_setIx {i : Nat} (hn : i < K.n) {t tk : TE} {f fk : DS → Option (RV × DS)} (h : RE K t f) (hk : RE K tk fk) : RS K Z [] (tAsg t (gSub (tVar i) tk rSetL)) (fSetIx i f fk) := by
  intro G H F σ ds o E S e q
  simp only [fSetIx, Option.bind_eq_some_iff] at e
  obtain ⟨⟨r, d1⟩, e1, ⟨d, d2⟩, e2, e3⟩ := e
  split at e3
  · rename_i l0 hl0
    simp only [Option.bind_eq_some_iff] at e3
    obtain ⟨⟨rk, d3⟩, e4, e5⟩ := e3
    split at e5
    · rename_i k l hk' hl
      simp only [Option.map_eq_some_iff] at e5
      obtain ⟨j, e6, e7⟩ := e5
      cases e7
      refine h G H F σ ds r d1 _ S e1 fun v G1 H1 F1 fp1 S1 t1 r1 f1 => ?_
      obtain ⟨G2, F2, S2, t2, s2, dd, f2⟩ := frz_ok (fq := []) S1 t1 r1 (by rw [List.append_nil]; exact f1) e2
      obtain ⟨a0, xs0, k1, k2, k3, k4⟩ := slot_flat S2 hn hl0
      refine ⟨.ref a0, k1, ?_⟩
      refine hk G2 H1 F2 σ d2 rk d3 _ S2 e4 fun vk G3 H3 F3 fp3 S3 t3 r3 f3 => ?_
      have xk := see_ok S3 r3 hk'
      cases xk
      obtain ⟨a, xs, m1, m2, m3, m4⟩ := slot_flat S3 hn hl
      rw [k1] at m1
      cases m1
      refine ⟨a0, xs, k, j, rfl, rfl, m2, by rw [dpsLen m3]; exact e6, ?_⟩
      have t23 := t2.trans t3
      exact q σ G3 _ F3 (S3.change (H0 := H) hl (.inl k1) m2 m4 (dpsSet (dpMono t3.sg _ _ dd) j m3)) (t23.poke (t23.own a0 ⟨i, by simp [m4]⟩)) (Off.refl _ _)
    · cases e5
  · cases e3
/-- name op= e, two ints -/
def fAug (i : Nat) (g : Int → Int → Int) (f : DS → Option (RV × DS)) (ds : DS) : Option Out := match ds[i]? with
  | some (some (.sh (.int a))) => (f ds).bind fun p => match see p.1 p.2 with
    | some (.int b) => some (.nx (p.2.set i (some (.sh (.int (g a b))))))
    | _ => none
  | _ => none
theorem rs_aug {i : Nat} (hi : i < K.n) (hf : K.free i) {g : Int → Int → Int} {t : TE} {f : DS → Option (RV × DS)} (h : RE K t f) : RS K Z [i] (tAug i t (ipI g)) (fAug i g f) := by
  intro G H F σ ds o E S e q
  simp only [fAug] at e
  split at e
  · rename_i a ha
    simp only [Option.bind_eq_some_iff] at e
    obtain ⟨⟨r, d1⟩, e1, e2⟩ := e
    split at e2
    · rename_i b hb
      cases e2
      obtain ⟨v, k1, k2⟩ := S.rep i _ ha
      have k2 : Dp K G v (.int a) := k2.1
      cases k2
      have k1 := look_at k1 (by rw [S.sl]; exact hi)
      refine ⟨_, k1, h G H F σ ds r d1 _ S e1 fun w G1 H1 F1 fp1 S1 t1 r1 f1 => ?_⟩
      have xb := see_ok S1 r1 hb
      cases xb
      exact ⟨a, b, rfl, rfl, q _ G1 H1 _ (S1.put i hi hf (W0 := Wf F1) (H0 := H1) ⟨.int _, rfl⟩ .nil) (t1.put fun _ h => nomatch h) (Off.set i _ σ)⟩
    · cases e2
  · cases e
end Fx
set_option Elab.async false
set_option linter.all false
set_option maxRecDepth 100000
/-! Fx: a piece of syntax, its reading, what it computes: one term for the three. -/
namespace Fx
open PySem PySem.Spec L2

def Kc.freeB (K : Kc) (i : Nat) : Bool := (match K.ob with
  | none => true
  | some o => decide (o.slot ≠ i)) && (match K.ex with
  | none => true
  | some p => decide (p.1 ≠ i))
theorem Kc.freeB_ok {K : Kc} {i : Nat} (h : K.freeB i = true) : K.free i := by
  obtain ⟨fr, tb, ob, n, ex⟩ := K
  unfold Kc.freeB at h
  unfold Kc.free
  rw [Bool.and_eq_true] at h
  obtain ⟨h1, h2⟩ := h
  refine ⟨?_, ?_⟩
  · cases ob with
    | none => trivial
    | some o => exact of_decide_eq_true h1
  · cases ex with
    | none => trivial
    | some p => exact of_decide_eq_true h2
theorem allN {K : Kc} {l : List Nat} (h : (l.all fun i => decide (i < K.n)) = true) : ∀ i ∈ l, i < K.n := fun i hi => of_decide_eq_true (List.all_eq_true.mp h i hi)
theorem allF {K : Kc} {l : List Nat} (h : (l.all fun i => K.freeB i) = true) : ∀ i ∈ l, K.free i := fun i hi => Kc.freeB_ok (List.all_eq_true.mp h i hi)
structure JE (K : Fr) (X : Cx) (e : Expr) (t : TE) (f : DS → Option (RV × DS)) : Prop where
  p : PE X e t
  r : RE K t f
structure JT (K : Fr) (X : Cx) (e : Expr) (t : TT) (f : DS → Option (Bool × DS)) : Prop where
  p : PT X e t
  r : RT K t f
structure JW (K : Fr) (X : Cx) (e : Expr) (t : TT) (f : DS → Option (Bool × DS)) : Prop where
  p : PW X e t
  r : RT K t f
structure JA (K : Fr) (X : Cx) (es : List Expr) (t : TA) (f : DS → Option (List RV × DS)) : Prop where
  p : PA X es t
  r : RA K t f
structure JS (K : Fr) (X : Cx) (Z : Zc) (T : List Nat) (s : Stmt) (t : TS) (f : DS → Option Out) : Prop where
  p : PS X s t
  r : RS K Z T t f
structure JB (K : Fr) (X : Cx) (Z : Zc) (T : List Nat) (s : List Stmt) (t : TS) (f : DS → Option Out) : Prop where
  p : PSs X s t
  r : RS K Z T t f
structure JG (K : Fr) (X : Cx) (T : List Nat) (e : Expr) (t : TG) (f : D → DS → Option DS) : Prop where
  p : PG X e t
  r : RG K T t f
structure JGs (K : Fr) (X : Cx) (T : List Nat) (e : List Expr) (t : TGs) (f : List D → DS → Option DS) : Prop where
  p : PGs X e t
  r : RGs K T t f
structure JI (K : Fr) (X : Cx) (tg e : Expr) (t : TI) (f : DS → Option (List D × DS)) : Prop where
  p : PI X tg e t
  r : RI K t f
structure JO (K : Fr) (X : Cx) (e : Option Expr) (t : TO) (f : DS → Option (Option Int × DS)) : Prop where
  p : PO X e t
  r : RO K t f
structure JTs (K : Fr) (X : Cx) (e : List Expr) (t : TT) (f : DS → Option (Bool × DS)) : Prop where
  p : PTs X e t
  r : RT K t f
section
variable {K : Fr} {X : Cx} {a b c e : Expr} {es : List Expr} {ta tb tc te : TE} {t u : TT} {tl : TA} {fa fb fc fe : DS → Option (RV × DS)} {ft fu : DS → Option (Bool × DS)} {fl : DS → Option (List RV × DS)} {pos p : Pos}
theorem jv (i : Nat) {x : Str} (hN : X.N[i]? = some x := by rfl) (hi : i < K.n := by exact of_decide_eq_true rfl) (hv : Vis X.env.scope x := by first | exact Or.inl rfl | exact Or.inr (Or.inl rfl) | exact Or.inr (Or.inr rfl)) (hd : (x == ("__debug__" : Str)) = false := by decide)
    (hcd : (x == ("__classdict__" : Str)) = false := by decide) : JE K X (.Name x pos) (tVar i) (fVar i) := ⟨pe_var hN hv hd hcd, re_var hi⟩
theorem j_int {i j} : JE K X (.Constant (.int i) j pos) (tC (.int i)) (fC (.int i)) := ⟨pe_int, re_c (.int i)⟩
theorem j_bl {i j} : JE K X (.Constant (.bool i) j pos) (tC (.bl i)) (fC (.bool i)) := ⟨pe_bl, re_c (.bl i)⟩
theorem j_non {j} : JE K X (.Constant .none j pos) (tC .non) (fC .none) := ⟨pe_non, re_c .non⟩
theorem j_str {x j} : JE K X (.Constant (.str x) j pos) (tC (.str x)) (fC (.str x)) := ⟨pe_str, re_c (.str x)⟩
theorem j_add (ha : JE K X a ta fa) (hb : JE K X b tb fb) (hk : X.K = K.fr := by rfl) : JE K X (.BinOp a .Add b pos) (tOp (rAddX K.fr) ta tb) (fAdd fa fb) := by
  obtain ⟨kf, kt, ko, kn, kx⟩ := K
  subst hk
  exact ⟨pe_op op_addX ha.p hb.p, re_add ha.r hb.r⟩
theorem j_sub (ha : JE K X a ta fa) (hb : JE K X b tb fb) : JE K X (.BinOp a .Sub b pos) (tOp (rI0 fun i j => .int (i - j)) ta tb) (fOp (gI cT fun i j => .int (i - j)) fa fb) := ⟨pe_op op_sub ha.p hb.p, re_op (vop_I0 fun _ _ => .int _) ha.r hb.r⟩
theorem j_mul (ha : JE K X a ta fa) (hb : JE K X b tb fb) (hk : X.K = K.fr := by rfl) : JE K X (.BinOp a .Mult b pos) (tOp (rMulX K.fr) ta tb) (fMul fa fb) := by
  obtain ⟨kf, kt, ko, kn, kx⟩ := K
  subst hk
  exact ⟨pe_op op_mulXX ha.p hb.p, re_mul ha.r hb.r⟩
theorem j_fdiv (ha : JE K X a ta fa) (hb : JE K X b tb fb) : JE K X (.BinOp a .FloorDiv b pos) (tOp (rI CFd fun i j => .int (i.fdiv j)) ta tb) (fOp (gI cFd fun i j => .int (i.fdiv j)) fa fb) := ⟨pe_op op_fdX ha.p hb.p, re_op (vop_I cFd_ok fun _ _ => .int _) ha.r hb.r⟩
def cNz : Int → Int → Bool := fun _ j => decide (j ≠ 0)
theorem j_mod (ha : JE K X a ta fa) (hb : JE K X b tb fb) : JE K X (.BinOp a .Mod b pos) (tOp (rI (fun _ j => j ≠ 0) fun i j => .int (i.fmod j)) ta tb) (fOp (gI cNz fun i j => .int (i.fmod j)) fa fb) := ⟨pe_op op_modN ha.p hb.p, re_op (vop_I (fun _ _ h => of_decide_eq_true h) fun _ _ => .int _) ha.r hb.r⟩
noncomputable def cPow : Int → Int → Bool := fun i j => yes (CPow i j)
theorem cPow_ok (i j : Int) (h : cPow i j = true) : CPow i j := of_yes h
theorem j_pow (ha : JE K X a ta fa) (hb : JE K X b tb fb) : JE K X (.BinOp a .Pow b pos) (tOp (rI CPow fun i j => .int (i ^ j.toNat)) ta tb) (fOp (gI cPow fun i j => .int (i ^ j.toNat)) fa fb) := ⟨pe_op op_pow ha.p hb.p, re_op (vop_I cPow_ok fun _ _ => .int _) ha.r hb.r⟩
theorem j_band (ha : JE K X a ta fa) (hb : JE K X b tb fb) : JE K X (.BinOp a .BitAnd b pos) (tOp (rI0 fun i j => .int (Builtin.bitAnd i j)) ta tb) (fOp (gI cT fun i j => .int (Builtin.bitAnd i j)) fa fb) := ⟨pe_op op_and ha.p hb.p, re_op (vop_I0 fun _ _ => .int _) ha.r hb.r⟩
theorem j_bor (ha : JE K X a ta fa) (hb : JE K X b tb fb) : JE K X (.BinOp a .BitOr b pos) (tOp (rI0 fun i j => .int (Builtin.bitOr i j)) ta tb) (fOp (gI cT fun i j => .int (Builtin.bitOr i j)) fa fb) := ⟨pe_op op_or ha.p hb.p, re_op (vop_I0 fun _ _ => .int _) ha.r hb.r⟩
theorem j_neg (ha : JE K X a ta fa) : JE K X (.UnaryOp .USub a pos) (tUn (rU fun i => .int (-i)) ta) (fUn gNeg fa) := ⟨pe_un un_neg ha.p, re_un vun_neg ha.r⟩
/-! comparisons -/
@[simp] def gCmp (f : Int → Int → Bool) : D → D → Option D := gI cT fun i j => .bool (f i j)
theorem j_lt (ha : JE K X a ta fa) (hb : JE K X b tb fb) : JE K X (.Compare a [.Lt] [b] pos) (tOp (rI0 fun i j => .bl (decide (i < j))) ta tb) (fOp (gCmp fun i j => decide (i < j)) fa fb) := ⟨pe_cmpR op_lt ha.p hb.p (nomark _), re_op (vop_I0 fun _ _ => .bl _) ha.r hb.r⟩
theorem j_le (ha : JE K X a ta fa) (hb : JE K X b tb fb) : JE K X (.Compare a [.LtE] [b] pos) (tOp (rI0 fun i j => .bl (decide (i ≤ j))) ta tb) (fOp (gCmp fun i j => decide (i ≤ j)) fa fb) := ⟨pe_cmpR op_le ha.p hb.p (nomark _), re_op (vop_I0 fun _ _ => .bl _) ha.r hb.r⟩
theorem j_gt (ha : JE K X a ta fa) (hb : JE K X b tb fb) : JE K X (.Compare a [.Gt] [b] pos) (tOp (rI0 fun i j => .bl (decide (j < i))) ta tb) (fOp (gCmp fun i j => decide (j < i)) fa fb) := ⟨pe_cmpR op_gt ha.p hb.p (nomark _), re_op (vop_I0 fun _ _ => .bl _) ha.r hb.r⟩
theorem j_ge (ha : JE K X a ta fa) (hb : JE K X b tb fb) : JE K X (.Compare a [.GtE] [b] pos) (tOp (rI0 fun i j => .bl (decide (j ≤ i))) ta tb) (fOp (gCmp fun i j => decide (j ≤ i)) fa fb) := ⟨pe_cmpR op_ge ha.p hb.p (nomark _), re_op (vop_I0 fun _ _ => .bl _) ha.r hb.r⟩
theorem j_eq (hu : X.A.units + 64 < cLine) (ha : JE K X a ta fa) (hb : JE K X b tb fb) (hk : X.K = K.fr := by rfl) : JE K X (.Compare a [.Eq] [b] pos) (tOp (rEqX K.fr) ta tb) (fOp gEqX fa fb) := by
  obtain ⟨kf, kt, ko, kn, kx⟩ := K
  subst hk
  exact ⟨pe_cmpR (op_eqX hu) ha.p hb.p (nomark _), re_op vop_eqX ha.r hb.r⟩
theorem j_ne (hu : X.A.units + 64 < cLine) (ha : JE K X a ta fa) (hb : JE K X b tb fb) (hk : X.K = K.fr := by rfl) : JE K X (.Compare a [.NotEq] [b] pos) (tOp (rNeX K.fr) ta tb) (fOp gNeX fa fb) := by
  obtain ⟨kf, kt, ko, kn, kx⟩ := K
  subst hk
  exact ⟨pe_cmpR (op_neX hu) ha.p hb.p (nomark _), re_op vop_neX ha.r hb.r⟩
theorem k_lt (ha : JE K X a ta fa) (hb : JE K X b tb fb) : JT K X (.Compare a [.Lt] [b] pos) (tTest (tOp (rI0 fun i j => .bl (decide (i < j))) ta tb)) (fBool (fOp (gCmp fun i j => decide (i < j)) fa fb)) := ⟨pt_cmpR op_lt ha.p hb.p (nomark _), rt_bool (re_op (vop_I0 fun _ _ => .bl _) ha.r hb.r)⟩
theorem k_le (ha : JE K X a ta fa) (hb : JE K X b tb fb) : JT K X (.Compare a [.LtE] [b] pos) (tTest (tOp (rI0 fun i j => .bl (decide (i ≤ j))) ta tb)) (fBool (fOp (gCmp fun i j => decide (i ≤ j)) fa fb)) := ⟨pt_cmpR op_le ha.p hb.p (nomark _), rt_bool (re_op (vop_I0 fun _ _ => .bl _) ha.r hb.r)⟩
theorem k_gt (ha : JE K X a ta fa) (hb : JE K X b tb fb) : JT K X (.Compare a [.Gt] [b] pos) (tTest (tOp (rI0 fun i j => .bl (decide (j < i))) ta tb)) (fBool (fOp (gCmp fun i j => decide (j < i)) fa fb)) := ⟨pt_cmpR op_gt ha.p hb.p (nomark _), rt_bool (re_op (vop_I0 fun _ _ => .bl _) ha.r hb.r)⟩
theorem k_ge (ha : JE K X a ta fa) (hb : JE K X b tb fb) : JT K X (.Compare a [.GtE] [b] pos) (tTest (tOp (rI0 fun i j => .bl (decide (j ≤ i))) ta tb)) (fBool (fOp (gCmp fun i j => decide (j ≤ i)) fa fb)) := ⟨pt_cmpR op_ge ha.p hb.p (nomark _), rt_bool (re_op (vop_I0 fun _ _ => .bl _) ha.r hb.r)⟩
theorem k_eq (hu : X.A.units + 64 < cLine) (ha : JE K X a ta fa) (hb : JE K X b tb fb) (hk : X.K = K.fr := by rfl) : JT K X (.Compare a [.Eq] [b] pos) (tTest (tOp (rEqX K.fr) ta tb)) (fBool (fOp gEqX fa fb)) := by
  obtain ⟨kf, kt, ko, kn, kx⟩ := K
  subst hk
  exact ⟨pt_cmpR (op_eqX hu) ha.p hb.p (nomark _), rt_bool (re_op vop_eqX ha.r hb.r)⟩
theorem k_ne (hu : X.A.units + 64 < cLine) (ha : JE K X a ta fa) (hb : JE K X b tb fb) (hk : X.K = K.fr := by rfl) : JT K X (.Compare a [.NotEq] [b] pos) (tTest (tOp (rNeX K.fr) ta tb)) (fBool (fOp gNeX fa fb)) := by
  obtain ⟨kf, kt, ko, kn, kx⟩ := K
  subst hk
  exact ⟨pt_cmpR (op_neX hu) ha.p hb.p (nomark _), rt_bool (re_op vop_neX ha.r hb.r)⟩
/-! is None -/
def isNd : D → Bool
  | .none => true
  | _ => false
theorem Dp.isN {K : Fr} {H : Hp} {v : V} {d : D} (h : Dp K H v d) : decide (v = .non) = isNd d := by
  cases h <;> simp [isNd]
def rIsN : R2 := fun x y H Q => y = .non ∧ Q (.bl (decide (x = .non))) H
def rNotN : R2 := fun x y H Q => y = .non ∧ Q (.bl (!decide (x = .non))) H
def gIsN2 (d e : D) : Option D := match e with
  | .none => some (.bool (isNd d))
  | _ => none
def gNotN2 (d e : D) : Option D := match e with
  | .none => some (.bool (!(isNd d)))
  | _ => none
theorem vop_isN {K : Fr} : VOp K rIsN gIsN2 := by
  intro H x y d e z Q hd he hz q
  unfold gIsN2 at hz
  split at hz
  · cases hz
    cases he
    exact ⟨rfl, by rw [Dp.isN hd]; exact q _ (.bl _)⟩
  · cases hz
theorem vop_notN {K : Fr} : VOp K rNotN gNotN2 := by
  intro H x y d e z Q hd he hz q
  unfold gNotN2 at hz
  split at hz
  · cases hz
    cases he
    exact ⟨rfl, by rw [Dp.isN hd]; exact q _ (.bl _)⟩
  · cases hz
theorem j_isN (ha : JE K X a ta fa) (hb : JE K X b tb fb) : JE K X (.Compare a [.Is] [b] pos) (tOp rIsN ta tb) (fOp gIsN2 fa fb) := ⟨pe_cmpR op_isN ha.p hb.p (nomark _), re_op vop_isN ha.r hb.r⟩
theorem j_notN (ha : JE K X a ta fa) (hb : JE K X b tb fb) : JE K X (.Compare a [.IsNot] [b] pos) (tOp rNotN ta tb) (fOp gNotN2 fa fb) := ⟨pe_cmpR op_notN ha.p hb.p (nomark _), re_op vop_notN ha.r hb.r⟩
theorem k_isN (ha : JE K X a ta fa) (hb : JE K X b tb fb) : JT K X (.Compare a [.Is] [b] pos) (tTest (tOp rIsN ta tb)) (fBool (fOp gIsN2 fa fb)) := ⟨pt_cmpR op_isN ha.p hb.p (nomark _), rt_bool (re_op vop_isN ha.r hb.r)⟩
theorem k_notN (ha : JE K X a ta fa) (hb : JE K X b tb fb) : JT K X (.Compare a [.IsNot] [b] pos) (tTest (tOp rNotN ta tb)) (fBool (fOp gNotN2 fa fb)) := ⟨pt_cmpR op_notN ha.p hb.p (nomark _), rt_bool (re_op vop_notN ha.r hb.r)⟩
/-! in, not in, of a list -/
def gIn (d e : D) : Option D := match e with
  | .list ds => if SeqAt.shaped d && SeqAt.shaped (.list ds) then some (.bool (ds.any fun z => PyData.eqv z d)) else none
  | _ => none
def gNotIn (d e : D) : Option D := match e with
  | .list ds => if SeqAt.shaped d && SeqAt.shaped (.list ds) then some (.bool (!ds.any fun z => PyData.eqv z d)) else none
  | _ => none
theorem vop_in {K : Fr} : VOp K (rInD K) gIn := by
  intro H x y d e z Q hd he hz q
  unfold gIn at hz
  split at hz
  · split at hz
    · rename_i hs
      cases hz
      rw [Bool.and_eq_true] at hs
      exact ⟨d, _, hd, he, hs.1, hs.2, q _ (.bl _)⟩
    · cases hz
  · cases hz
theorem vop_notIn {K : Fr} : VOp K (rNotInD K) gNotIn := by
  intro H x y d e z Q hd he hz q
  unfold gNotIn at hz
  split at hz
  · split at hz
    · rename_i hs
      cases hz
      rw [Bool.and_eq_true] at hs
      exact ⟨d, _, hd, he, hs.1, hs.2, q _ (.bl _)⟩
    · cases hz
  · cases hz
theorem j_in (hu : X.A.units + 65 < cLine) (ha : JE K X a ta fa) (hb : JE K X b tb fb) (hm : behindInMarks .In b = false := by rfl) (hk : X.K = K.fr := by rfl) : JE K X (.Compare a [.In] [b] pos) (tOp (rInD K) ta tb) (fOp gIn fa fb) := by
  obtain ⟨kf, kt, ko, kn, kx⟩ := K
  subst hk
  exact ⟨pe_cmpR (op_inD hu) ha.p hb.p hm, re_op vop_in ha.r hb.r⟩
theorem k_in (hu : X.A.units + 65 < cLine) (ha : JE K X a ta fa) (hb : JE K X b tb fb) (hm : behindInMarks .In b = false := by rfl) (hk : X.K = K.fr := by rfl) : JT K X (.Compare a [.In] [b] pos) (tTest (tOp (rInD K) ta tb)) (fBool (fOp gIn fa fb)) := by
  obtain ⟨kf, kt, ko, kn, kx⟩ := K
  subst hk
  exact ⟨pt_cmpR (op_inD hu) ha.p hb.p hm, rt_bool (re_op vop_in ha.r hb.r)⟩
theorem k_notIn (hu : X.A.units + 65 < cLine) (ha : JE K X a ta fa) (hb : JE K X b tb fb) (hm : behindInMarks .NotIn b = false := by rfl) (hk : X.K = K.fr := by rfl) : JT K X (.Compare a [.NotIn] [b] pos) (tTest (tOp (rNotInD K) ta tb)) (fBool (fOp gNotIn fa fb)) := by
  obtain ⟨kf, kt, ko, kn, kx⟩ := K
  subst hk
  exact ⟨pt_cmpR (op_notInD hu) ha.p hb.p hm, rt_bool (re_op vop_notIn ha.r hb.r)⟩
/-! tests, and, or, not, if -/
theorem k_tru (ha : JE K X a ta fa) (he : ∀ whole, isTrue a X.env whole = (do let v ← whole; standAt a.pos; holding [v] (truthy v)) := by intro _; rfl) (hk : X.K = K.fr := by rfl) : JT K X a (tTru K ta) (fTru fa) := by
  obtain ⟨kf, kt, ko, kn, kx⟩ := K
  subst hk
  exact ⟨pt_truth ha.p he, rt_tru ha.r⟩
theorem w_and1 (ha : JT K X a t ft) : JW K X (.BoolOp .And [a] pos) t ft := ⟨pw_and1 ha.p, ha.r⟩
theorem w_or1 (ha : JT K X a t ft) : JW K X (.BoolOp .Or [a] pos) t ft := ⟨pw_or1 ha.p, ha.r⟩
theorem w_and (ha : JT K X a t ft) (hb : JW K X (.BoolOp .And (b :: es) pos) u fu) : JW K X (.BoolOp .And (a :: b :: es) pos) (tAnd t u) (fAndT ft fu) := ⟨pw_and ha.p hb.p, rt_and ha.r hb.r⟩
theorem w_or (ha : JT K X a t ft) (hb : JW K X (.BoolOp .Or (b :: es) pos) u fu) : JW K X (.BoolOp .Or (a :: b :: es) pos) (tOr t u) (fOrT ft fu) := ⟨pw_or ha.p hb.p, rt_or ha.r hb.r⟩
theorem k_w (h : JW K X a t ft) : JT K X a t ft := ⟨PW.pt h.p, h.r⟩
theorem k_not (ha : JT K X a t ft) : JT K X (.UnaryOp .Not a pos) (tNot t) (fNotT ft) := ⟨pt_not ha.p, rt_not ha.r⟩
theorem j_one {op} (h : JE K X a ta fa) : JE K X (.BoolOp op [a] pos) ta fa := ⟨pe_one h.p, h.r⟩
theorem j_and (ha : JE K X a ta fa) (hb : JE K X (.BoolOp .And (b :: es) pos) tb fb) : JE K X (.BoolOp .And (a :: b :: es) pos) (tAndV ta tb) (fAndV fa fb) := ⟨pe_and ha.p hb.p, re_and ha.r hb.r⟩
theorem j_or (ha : JE K X a ta fa) (hb : JE K X (.BoolOp .Or (b :: es) pos) tb fb) : JE K X (.BoolOp .Or (a :: b :: es) pos) (tOrV ta tb) (fOrV fa fb) := ⟨pe_or ha.p hb.p, re_or ha.r hb.r⟩
theorem j_not (ha : JE K X a ta fa) : JE K X (.UnaryOp .Not a pos) (tNotV ta) (fNotV fa) := ⟨pe_not ha.p, re_not ha.r⟩
theorem j_if (hc : JT K X c t ft) (ha : JE K X a ta fa) (hb : JE K X b tb fb) : JE K X (.IfExp c a b pos) (tIf t ta tb) (fIf ft fa fb) := ⟨pe_ifExp hc.p ha.p hb.p, re_if hc.r ha.r hb.r⟩
/-! arguments, displays -/
theorem a_nil : JA K X [] tNil fNil := ⟨pa_nil, ra_nil⟩
theorem a_cons (ha : JE K X a ta fa) (hr : JA K X es tl fl) (hs : starEach (a :: es) X.env = (false, eval a X.env) :: starEach es X.env := by rfl) : JA K X (a :: es) (tCons ta tl) (fCons fa fl) := ⟨pa_cons ha.p hr.p hs, ra_cons ha.r hr.r⟩
theorem j_lst (h : JA K X es tl fl) : JE K X (.List es pos) (tLst tl) (fLst fl) := ⟨pe_lst h.p, re_lst h.r⟩
theorem j_tup {x1} (h : JA K X es tl fl) : JE K X (.Tuple es x1 pos) (tTup tl) (fTup fl) := ⟨pe_tup h.p, re_tup h.r⟩
theorem j_ix (ha : JE K X a ta fa) (hb : JE K X b tb fb) (hs : PlainIx b := by exact fun _ _ => rfl) (hk : X.K = K.fr := by rfl) : JE K X (.Subscript a b pos) (tOp (rIxX K.fr) ta tb) (fIx fa fb) := by
  obtain ⟨kf, kt, ko, kn, kx⟩ := K
  subst hk
  exact ⟨pe_ix ix_X ha.p hb.p hs, re_ix ha.r hb.r⟩
variable {lo hi : Option Expr} {to1 to2 : TO} {fo1 fo2 : DS → Option (Option Int × DS)} {p2 : Pos}
theorem o_none : JO K X none tNoPart fNoPart := ⟨po_none, ro_none⟩
theorem o_some (h : JE K X a ta fa) : JO K X (some a) (tPart ta) (fPart fa) := ⟨po_some h.p, ro_some h.r⟩
theorem j_sl (ha : JE K X a ta fa) (hl : JO K X lo to1 fo1) (hh : JO K X hi to2 fo2) (hk : X.K = K.fr := by rfl) : JE K X (.Subscript a (.Slice lo hi none p2) pos) (tSl (rSlL K) ta to1 to2) (fSl fa fo1 fo2) := by
  obtain ⟨kf, kt, ko, kn, kx⟩ := K
  subst hk
  exact ⟨pe_slice sl_list ha.p hl.p hh.p, re_sl ha.r hl.r hh.r⟩
/-! built-ins -/
theorem j_len (hm : X.mg "len" = none) (h : JA K X (e :: es) tl fl) (hg : Gl X "len" := by rfl) (hdb : (("len" : Str) == ("__debug__" : Str)) = false := by decide) (he : starEach (e :: es) X.env = (false, eval e X.env) :: starEach es X.env := by rfl) (hpl : (backTo pos (starEach es X.env)).any (·.1) = false := by rfl) (hk : X.K = K.fr := by rfl) :
    JE K X (.Call (.Name "len" p) (e :: es) [] pos) (tCB (fun xs H Q => ∃ p ys, xs = [.ref p] ∧ (SqL K H p ys ∨ SqT K H p ys) ∧ Q (.int ys.length) H) tl) (fCa gLen fl) := by
  obtain ⟨kf, kt, ko, kn, kx⟩ := K
  subst hk
  exact ⟨pe_callB call_len_seq hg hm PySem.boot_len h.p (by decide) hdb he hpl, re_cb vca_len h.r⟩
theorem j_abs (hm : X.mg "abs" = none) (h : JA K X (e :: es) tl fl) (hg : Gl X "abs" := by rfl) (hdb : (("abs" : Str) == ("__debug__" : Str)) = false := by decide) (he : starEach (e :: es) X.env = (false, eval e X.env) :: starEach es X.env := by rfl) (hpl : (backTo pos (starEach es X.env)).any (·.1) = false := by rfl) :
    JE K X (.Call (.Name "abs" p) (e :: es) [] pos) (tCB (fun xs H Q => ∃ i, xs = [.int i] ∧ Q (.int (if i < 0 then -i else i)) H) tl) (fCa (g1I fun i => .int (if i < 0 then -i else i)) fl) := ⟨pe_callB call_abs hg hm (by decide +kernel) h.p (by decide) hdb he hpl, re_cb vca_abs h.r⟩
theorem j_sum (hc : X.calm = true) (hm : X.mg "sum" = none) (h : JA K X (e :: es) tl fl) (hg : Gl X "sum" := by rfl) (hdb : (("sum" : Str) == ("__debug__" : Str)) = false := by decide) (he : starEach (e :: es) X.env = (false, eval e X.env) :: starEach es X.env := by rfl) (hpl : (backTo pos (starEach es X.env)).any (·.1) = false := by rfl) (hk : X.K = K.fr := by rfl) :
    JE K X (.Call (.Name "sum" p) (e :: es) [] pos) (tCB (rSum K) tl) (fCa gSum fl) := by
  obtain ⟨kf, kt, ko, kn, kx⟩ := K
  subst hk
  exact ⟨pe_callB (cr_sum hc) hg hm (by decide +kernel) h.p (by decide) hdb he hpl, re_cb vca_sum h.r⟩
theorem j_all (hc : X.calm = true) (hm : X.mg "all" = none) (h : JA K X (e :: es) tl fl) (hg : Gl X "all" := by rfl) (hdb : (("all" : Str) == ("__debug__" : Str)) = false := by decide) (he : starEach (e :: es) X.env = (false, eval e X.env) :: starEach es X.env := by rfl) (hpl : (backTo pos (starEach es X.env)).any (·.1) = false := by rfl) (hk : X.K = K.fr := by rfl) :
    JE K X (.Call (.Name "all" p) (e :: es) [] pos) (tCB (rAll K) tl) (fCa gAll fl) := by
  obtain ⟨kf, kt, ko, kn, kx⟩ := K
  subst hk
  exact ⟨pe_callB (cr_all hc) hg hm (by decide +kernel) h.p (by decide) hdb he hpl, re_cb vca_all h.r⟩
theorem j_any (hc : X.calm = true) (hm : X.mg "any" = none) (h : JA K X (e :: es) tl fl) (hg : Gl X "any" := by rfl) (hdb : (("any" : Str) == ("__debug__" : Str)) = false := by decide) (he : starEach (e :: es) X.env = (false, eval e X.env) :: starEach es X.env := by rfl) (hpl : (backTo pos (starEach es X.env)).any (·.1) = false := by rfl) (hk : X.K = K.fr := by rfl) :
    JE K X (.Call (.Name "any" p) (e :: es) [] pos) (tCB (rAnyX K.fr) tl) (fCa gAny fl) := by
  obtain ⟨kf, kt, ko, kn, kx⟩ := K
  subst hk
  exact ⟨pe_callB (cr_anyX hc) hg hm (by decide +kernel) h.p (by decide) hdb he hpl, re_cb vca_any h.r⟩
theorem j_repr (hA : X.A.guards = some []) (hu : X.A.units + 64 < cLine) (hm : X.mg "repr" = none) (h : JA K X (e :: es) tl fl) (hg : Gl X "repr" := by rfl) (hdb : (("repr" : Str) == ("__debug__" : Str)) = false := by decide) (he : starEach (e :: es) X.env = (false, eval e X.env) :: starEach es X.env := by rfl) (hpl : (backTo pos (starEach es X.env)).any (·.1) = false := by rfl) (hk : X.K = K.fr := by rfl) :
    JE K X (.Call (.Name "repr" p) (e :: es) [] pos) (tCB (fun xs H Q => ∃ v d, xs = [v] ∧ Dp K H v d ∧ (∃ a, v = .ref a) ∧ d.showable = true ∧ d.hasDict = false ∧ d.depth ≤ 60 ∧ d.shown.length ≤ sizeLine ∧ Q (.str d.shown) H) tl) (fCa gRepr fl) := by
  obtain ⟨kf, kt, ko, kn, kx⟩ := K
  subst hk
  exact ⟨pe_callB (call_reprX hA hu) hg hm (by decide +kernel) h.p (by decide) hdb he hpl, re_cb vca_repr h.r⟩
theorem j_intc (hm : X.mg "int" = none) (h : JA K X (e :: es) tl fl) (hg : Gl X "int" := by rfl) (hdb : (("int" : Str) == ("__debug__" : Str)) = false := by decide) (he : starEach (e :: es) X.env = (false, eval e X.env) :: starEach es X.env := by rfl) (hpl : (backTo pos (starEach es X.env)).any (·.1) = false := by rfl) :
    JE K X (.Call (.Name "int" p) (e :: es) [] pos) (tCB (fun xs H Q => (∃ i, xs = [.int i] ∧ Q (.int i) H) ∨ ∃ k, xs = [.bl k] ∧ Q (.int (if k then 1 else 0)) H) tl) (fCa gInt fl) := ⟨pe_callTy call_int1 hg hm (by decide +kernel) h.p (by decide) hdb he hpl, re_cb vca_int h.r⟩
theorem j_list (hm : X.mg "list" = none) (h : JA K X (e :: es) tl fl) (hg : Gl X "list" := by rfl) (hdb : (("list" : Str) == ("__debug__" : Str)) = false := by decide) (he : starEach (e :: es) X.env = (false, eval e X.env) :: starEach es X.env := by rfl) (hpl : (backTo pos (starEach es X.env)).any (·.1) = false := by rfl) (hk : X.K = K.fr := by rfl) :
    JE K X (.Call (.Name "list" p) (e :: es) [] pos) (tCB (rListOf K.fr) tl) (fListOf fl) := by
  obtain ⟨kf, kt, ko, kn, kx⟩ := K
  subst hk
  exact ⟨pe_callTy call_list_of hg hm (by decide +kernel) h.p (by decide) hdb he hpl, re_listOf h.r⟩
theorem j_gcd {x : Str} (hm : X.mg x = some (.builtin "math.gcd")) (h : JA K X (e :: es) tl fl) (hg : Gl X x := by rfl) (hdb : (x == ("__debug__" : Str)) = false := by decide) (he : starEach (e :: es) X.env = (false, eval e X.env) :: starEach es X.env := by rfl) (hpl : (backTo pos (starEach es X.env)).any (·.1) = false := by rfl) :
    JE K X (.Call (.Name x p) (e :: es) [] pos) (tCB rGcd tl) (fCa gGcd fl) := ⟨pe_callBfun cr_gcd hg hm h.p hdb he hpl, re_cb vca_gcd h.r⟩
theorem j_isi {x : Str} {n : String} {p1 : Pos} (hm : X.mg "isinstance" = none) (hx : X.mg x = none) (ha : JE K X a ta fa) (hv : bootBuiltins x = some (.type n) := by decide +kernel) (hg : Gl X "isinstance" := by rfl) (hgx : Gl X x := by rfl) (hn : x ≠ "__name__" := by decide) (hd : (x == ("__debug__" : Str)) = false := by decide)
    (hdb : (("isinstance" : Str) == ("__debug__" : Str)) = false := by decide) (he : starEach [a, .Name x p1] X.env = (false, eval a X.env) :: starEach [.Name x p1] X.env := by rfl) (he2 : starEach [.Name x p1] X.env = (false, eval (.Name x p1) X.env) :: starEach [] X.env := by rfl) (hpl : (backTo pos (starEach [.Name x p1] X.env)).any (·.1) = false := by rfl) (hk : X.K = K.fr := by rfl) :
    JE K X (.Call (.Name "isinstance" p) [a, .Name x p1] [] pos) (tCB (rIsi K) (tCons ta (tCons (tC (.ty n)) tNil))) (fIsi n fa) := by
  obtain ⟨kf, kt, ko, kn, kx⟩ := K
  subst hk
  exact ⟨pe_callB call_isi hg hm (by decide +kernel) (pa_cons ha.p (pa_cons (pe_bltn hgx hx hv rfl hn hd) pa_nil he2) he) (by decide) hdb he hpl, re_isi ha.r⟩
theorem j_bits {apos : Pos} (ha : JE K X a ta fa) (hbase : attributeBase a "bit_length" X.env (eval a X.env) = eval a X.env := by rfl) (hline : (apos.endLine == pos.line) = true := by rfl) : JE K X (.Call (.Attribute a "bit_length" apos) [] [] pos) (tBits ta) (fUn gBits fa) := ⟨pe_bits ha.p hbase hline, re_bits ha.r⟩
/-! comprehensions -/
variable {tg iter elt : Expr} {wi : TI} {fi : DS → Option (List D × DS)} {g : TG} {fg : D → DS → Option DS} {T : List Nat} {ifs : List Expr} {scope : Scope} {own : List (Str × Nat)}
theorem s_nil : JTs K X [] tYes fYes := ⟨pts_nil, rt_yes⟩
theorem s_one (h : JT K X c t ft) : JTs K X [c] t ft := ⟨pts_one h.p, h.r⟩
theorem j_lc (hc : X.calm = true) (hN : X.N.Nodup) (hi : JI K X tg iter wi fi) (ok : BlkOk X.N X.env.scope scope own) (hg : ∀ (s : Shared) (H : Hp) (C : Addr) (cl : List (Str × Addr)) (fp : List Addr), JG K (X.blk s H scope (compEnvC scope cl C X.env) fp) T tg g fg)
    (ht : ∀ (s : Shared) (H : Hp) (C : Addr) (cl : List (Str × Addr)) (fp : List Addr), JTs K (X.blk s H scope (compEnvC scope cl C X.env) fp) ifs t ft) (he : ∀ (s : Shared) (H : Hp) (C : Addr) (cl : List (Str × Addr)) (fp : List Addr), JE K (X.blk s H scope (compEnvC scope cl C X.env) fp) elt te fe)
    (hT : ∀ i ∈ T, i ∈ own.map (·.2)) (s0 : Shared) (H0 : Hp) (hn : ((own.map (·.2)).all fun i => decide (i < K.n)) = true := by rfl) (hf : ((own.map (·.2)).all fun i => K.freeB i) = true := by rfl) (hs : ∀ x, foldedSetIterable iter X.env x = pure x := by intro _; rfl) :
    JE K X (.ListComp elt [⟨tg, iter, ifs, 0⟩] scope pos) (tLc wi g t te (own.map (·.2))) (fLc fi fg ft fe (own.map (·.2))) :=
  ⟨pe_lc hc hN hi.p ok (fun s H C cl fp => (hg s H C cl fp).p) (fun s H C cl fp => (ht s H C cl fp).p) (fun s H C cl fp => (he s H C cl fp).p) hs,
    re_lc hT (allN hn) (allF hf) hi.r (hg s0 H0 0 [] []).r (ht s0 H0 0 [] []).r (he s0 H0 0 [] []).r⟩
theorem j_lcM (hc : X.calm = true) (hN : X.N.Nodup) (hi : JI K X tg iter wi fi) (ok : BlkOk X.N X.env.scope scope own) (hg : ∀ (s : Shared) (H : Hp) (C : Addr) (cl : List (Str × Addr)) (fp : List Addr), JG K (X.blk s H scope (compEnvC scope cl C X.env) fp) T tg g fg)
    (ht : ∀ (s : Shared) (H : Hp) (C : Addr) (cl : List (Str × Addr)) (fp : List Addr), JTs K (X.blk s H scope (compEnvC scope cl C X.env) fp) ifs t ft) (he : ∀ (s : Shared) (H : Hp) (C : Addr) (cl : List (Str × Addr)) (fp : List Addr), JE K (X.blk s H scope (compEnvC scope cl C X.env) fp) elt te fe)
    (hT : ∀ i ∈ T, i ∈ own.map (·.2)) (s0 : Shared) (H0 : Hp) (hn : ((own.map (·.2)).all fun i => decide (i < K.n)) = true := by rfl) (hf : ((own.map (·.2)).all fun i => K.freeB i) = true := by rfl) (hs : ∀ x, foldedSetIterable iter X.env x = pure x := by intro _; rfl) :
    JE K X (.ListComp elt [⟨tg, iter, ifs, 0⟩] scope pos) (tLc wi g t te (own.map (·.2))) (fLcM fi fg ft fe (own.map (·.2))) :=
  ⟨pe_lc hc hN hi.p ok (fun s H C cl fp => (hg s H C cl fp).p) (fun s H C cl fp => (ht s H C cl fp).p) (fun s H C cl fp => (he s H C cl fp).p) hs,
    re_lcM hT (allN hn) (allF hf) hi.r (hg s0 H0 0 [] []).r (ht s0 H0 0 [] []).r (he s0 H0 0 [] []).r⟩
end
end Fx
set_option Elab.async false
set_option linter.all false
set_option maxRecDepth 100000
namespace Fx
open PySem PySem.Spec L2
section
variable {K : Fr} {X : Cx} {Z : Zc} {a b c e iter tg : Expr} {es : List Expr} {ta tb tc te : TE} {t u : TT} {tl : TA} {fa fb fc fe : DS → Option (RV × DS)} {ft fu : DS → Option (Bool × DS)} {fl : DS → Option (List RV × DS)} {pos p : Pos}
  {st : Stmt} {sts rest : List Stmt} {ts us : TS} {fs fr : DS → Option Out} {wi : TI} {fi : DS → Option (List D × DS)} {g : TG} {gs : TGs} {fg : D → DS → Option DS} {fgs : List D → DS → Option DS} {T T' : List Nat}
/-! statements -/
theorem b_nil : JB K X Z [] [] tNext fNext := ⟨pss_nil, rs_next⟩
theorem b_one (h : JS K X Z T st ts fs) : JB K X Z T [st] ts fs := ⟨pss_one h.p, h.r⟩
theorem b_cons (h : JS K X Z T st ts fs) (k : JB K X Z T' rest us fr) : JB K X Z (T ++ T') (st :: rest) (tSeq ts us) (fSeq fs fr) := ⟨pss_cons h.p k.p, rs_seq h.r k.r⟩
theorem s_pass : JS K X Z [] (.Pass pos) tNext fNext := ⟨ps_pass, rs_next⟩
theorem s_break : JS K X Z [] (.Break pos) tBreak fBreak := ⟨ps_break, rs_break⟩
theorem s_continue : JS K X Z [] (.Continue pos) tCont fCont := ⟨ps_continue, rs_cont⟩
theorem s_expr (h : JE K X e te fe) (hs : swapsWith e none pos.line X.env = pure false := by rfl) : JS K X Z [] (.Expr e pos) (tDrop te) (fExpr fe) := ⟨ps_expr h.p hs, rs_expr h.r⟩
theorem s_ret (h : JE K X e te fe) : JS K X Z [] (.Return (some e) pos) (tRet te) (fRet fe) := ⟨ps_ret h.p, rs_ret h.r⟩
theorem s_retN : JS K X Z [] (.Return none pos) tRetN fRetN := ⟨ps_retN, rs_retN⟩
theorem s_if (hc : JT K X c t ft) (ha : JB K X Z T sts ts fs) (hb : JB K X Z T' rest us fr) : JS K X Z (T ++ T') (.If c sts rest pos) (tIfS t ts us) (fIfS ft fs fr) := ⟨ps_if hc.p ha.p hb.p, rs_if hc.r ha.r hb.r⟩
theorem s_set (i : Nat) {x : Str} {pos' : Pos} (hN : X.N.Nodup) (he : JE K X e te fe) (hi : X.N[i]? = some x := by rfl) (hx : Loc X.env.scope x := by first | exact Or.inl rfl | exact Or.inr rfl) (hs : swapsWith e (some (.Name x pos')) pos.line X.env = pure false := by rfl) (hf : X.fn x = true ∨ X.env.scope.names.lookup x = some .local := by first | exact .inl rfl | exact .inr rfl | assumption) (kin : decide (i < K.n) = true := by rfl) (kif : K.freeB i = true := by rfl) :
    JS K X Z [i] (.Assign [.Name x pos'] e pos) (tAsg te (gName i)) (fSet i fe) := ⟨ps_set hN hi hx he.p hs hf, rs_set (of_decide_eq_true kin) (Kc.freeB_ok kif) he.r⟩
theorem s_asg (he : JE K X e te fe) (hg : JG K X T tg g fg) (hs : swapsWithSole [tg] e pos.line X.env = pure false := by rfl) (hw : swappedStores [tg] e X.env = pure none := by rfl)
    (h1 : (assignEach [tg] X.env).map (·.2) = [assign tg X.env] := by rfl) : JS K X Z T (.Assign [tg] e pos) (tAsg te g) (fAsg fg fe) := ⟨ps_asg he.p hg.p hs hw h1, rs_asg he.r hg.r⟩
theorem s_for (hc : X.calm = true) (hi : JI K X tg iter wi fi) (hg : JG K X T tg g fg) (hb : JB K X Z T' sts ts fs) (hp : PassesOwn (model X.prog X.w) X.A X.env X.xe := by first | exact PassesOwn.never | exact passes_of rfl)
    (hs : ∀ x, foldedSetIterable iter X.env x = pure x := by intro _; rfl) : JS K X Z (T ++ T') (.For tg iter sts [] pos) (tFor wi g ts) (fFor fi fg fs) := ⟨ps_for hp hc hi.p hg.p hb.p hs, rs_for hi.r hg.r hb.r⟩
theorem s_app (i : Nat) {x : Str} {p1 apos cpos : Pos} (he : JE K X e te fe) (hN : X.N[i]? = some x := by rfl) (hv : Vis X.env.scope x := by first | exact Or.inl rfl | exact Or.inr (Or.inl rfl) | exact Or.inr (Or.inr rfl)) (hd : (x == ("__debug__" : Str)) = false := by decide) (hcd : (x == ("__classdict__" : Str)) = false := by decide)
    (hse : starEach [e] X.env = (false, eval e X.env) :: starEach [] X.env := by rfl)
    (hbase : attributeBase (.Name x p1) "append" X.env (eval (.Name x p1) X.env) = eval (.Name x p1) X.env := by rfl)
    (hfew : ((backTo cpos (starEach [e] X.env)).all (fun x => !x.1) && (backToKw cpos (keywordEach [] X.env)).all (fun x => x.1.isSome)
      && decide ([e].length + ([] : List Keyword).length + (if ([] : List Keyword).isEmpty then 0 else 1) < 30)) = true := by rfl)
    (hline : (apos.endLine == cpos.line) = true := by rfl) (hplain : (backTo cpos (starEach [] X.env)).any (·.1) = false := by rfl)
    (hs : swapsWith (.Call (.Attribute (.Name x p1) "append" apos) [e] [] cpos) none pos.line X.env = pure false := by rfl) (hk : X.K = K.fr := by rfl) (kin : decide (i < K.n) = true := by rfl) :
    JS K X Z [] (.Expr (.Call (.Attribute (.Name x p1) "append" apos) [e] [] cpos) pos) (tDrop (tBM K "list" rAppend (tVar i) (tCons te tNil))) (fApp i fe) := by
  obtain ⟨kf, kt, ko, kn, kx⟩ := K
  subst hk
  exact ⟨ps_expr (pe_bm PySem.F.plainAttrs_list PySem.F.slot_list_append PySem.F.type_list_append mt_append (pe_var hN hv hd hcd) (pa_cons he.p pa_nil hse) hbase hfew hline hse hplain) hs, rs_app (of_decide_eq_true kin) he.r⟩
theorem s_setIx (i : Nat) {x : Str} {p1 p2 : Pos} {k : Expr} {tk : TE} {fk : DS → Option (RV × DS)} (he : JE K X e te fe) (hk : JE K X k tk fk) (hN : X.N[i]? = some x := by rfl) (hv : Vis X.env.scope x := by first | exact Or.inl rfl | exact Or.inr (Or.inl rfl) | exact Or.inr (Or.inr rfl)) (hd : (x == ("__debug__" : Str)) = false := by decide) (hcd : (x == ("__classdict__" : Str)) = false := by decide)
    (ha : ∀ v, assign (.Subscript (.Name x p1) k p2) X.env v = (do
      let ov ← holding [v] (eval (.Name x p1) X.env)
      let iv ← holding [v, ov] (eval k X.env)
      standAt p2
      holding [v, ov, iv] (setItem ov iv v)
      release [v, ov, iv] []) := by intro _; rfl)
    (hs : swapsWithSole [.Subscript (.Name x p1) k p2] e pos.line X.env = pure false := by rfl) (hw : swappedStores [.Subscript (.Name x p1) k p2] e X.env = pure none := by rfl)
    (h1 : (assignEach [.Subscript (.Name x p1) k p2] X.env).map (·.2) = [assign (.Subscript (.Name x p1) k p2) X.env] := by rfl) (kin : decide (i < K.n) = true := by rfl) :
    JS K X Z [] (.Assign [.Subscript (.Name x p1) k p2] e pos) (tAsg te (gSub (tVar i) tk rSetL)) (fSetIx i fe fk) :=
  ⟨ps_asg he.p (pg_sub (pe_var hN hv hd hcd) hk.p set_list ha) hs hw h1, rs_setIx (of_decide_eq_true kin) he.r hk.r⟩
theorem s_augI (i : Nat) {x : Str} {pos' : Pos} {op : Operator} {f : Int → Int → Int} (hN : X.N.Nodup) (ho : PIp X op (ipI f)) (he : JE K X e te fe) (hi : X.N[i]? = some x := by rfl) (hx : Loc X.env.scope x := by first | exact Or.inl rfl | exact Or.inr rfl) (hf : X.fn x = true ∨ X.env.scope.names.lookup x = some .local := by first | exact .inl rfl | exact .inr rfl | assumption) (kin : decide (i < K.n) = true := by rfl) (kif : K.freeB i = true := by rfl) :
    JS K X Z [i] (.AugAssign (.Name x pos') op e pos) (tAug i te (ipI f)) (fAug i f fe) := ⟨ps_aug hN hi hx he.p ho hf, rs_aug (of_decide_eq_true kin) (Kc.freeB_ok kif) he.r⟩
theorem s_setLc (i : Nat) {y : Str} {py spos : Pos} {elt : Expr} {ifs : List Expr} {scope : Scope} {own : List (Str × Nat)} (hc : X.calm = true) (hN : X.N.Nodup) (hsw : swapsWith (.ListComp elt [⟨tg, iter, ifs, 0⟩] scope pos) (some (.Name y py)) spos.line X.env = pure true) (hi : JI K X tg iter wi fi) (ok : BlkOk X.N X.env.scope scope own) (hg : ∀ (s : Shared) (H : Hp) (C : Addr) (cl : List (Str × Addr)) (fp : List Addr), JG K (X.blk s H scope (compEnvC scope cl C X.env) fp) T tg g fg)
    (ht : ∀ (s : Shared) (H : Hp) (C : Addr) (cl : List (Str × Addr)) (fp : List Addr), JTs K (X.blk s H scope (compEnvC scope cl C X.env) fp) ifs t ft) (he : ∀ (s : Shared) (H : Hp) (C : Addr) (cl : List (Str × Addr)) (fp : List Addr), JE K (X.blk s H scope (compEnvC scope cl C X.env) fp) elt te fe)
    (hT : ∀ i ∈ T, i ∈ own.map (·.2)) (s0 : Shared) (H0 : Hp) (hn : ((own.map (·.2)).all fun i => decide (i < K.n)) = true := by rfl) (hf : ((own.map (·.2)).all fun i => K.freeB i) = true := by rfl) (hin : decide (i < K.n) = true := by rfl) (hif : K.freeB i = true := by rfl) (hy : X.N[i]? = some y := by rfl) (hyl : X.env.scope.names.lookup y = some .local := by rfl) (hs : ∀ x, foldedSetIterable iter X.env x = pure x := by intro _; rfl) :
    JS K X Z [i] (.Assign [.Name y py] (.ListComp elt [⟨tg, iter, ifs, 0⟩] scope pos) spos) (tAsg (tLc wi g t te (own.map (·.2))) (gName i)) (fSet i (fLc fi fg ft fe (own.map (·.2)))) :=
  ⟨ps_setLc hc hN hy hyl hsw hi.p ok (fun s H C cl fp => (hg s H C cl fp).p) (fun s H C cl fp => (ht s H C cl fp).p) (fun s H C cl fp => (he s H C cl fp).p) hs,
    rs_set (of_decide_eq_true hin) (Kc.freeB_ok hif) (re_lc hT (allN hn) (allF hf) hi.r (hg s0 H0 0 [] []).r (ht s0 H0 0 [] []).r (he s0 H0 0 [] []).r)⟩
theorem s_setLcM (i : Nat) {y : Str} {py spos : Pos} {elt : Expr} {ifs : List Expr} {scope : Scope} {own : List (Str × Nat)} (hc : X.calm = true) (hN : X.N.Nodup) (hsw : swapsWith (.ListComp elt [⟨tg, iter, ifs, 0⟩] scope pos) (some (.Name y py)) spos.line X.env = pure true) (hi : JI K X tg iter wi fi) (ok : BlkOk X.N X.env.scope scope own) (hg : ∀ (s : Shared) (H : Hp) (C : Addr) (cl : List (Str × Addr)) (fp : List Addr), JG K (X.blk s H scope (compEnvC scope cl C X.env) fp) T tg g fg)
    (ht : ∀ (s : Shared) (H : Hp) (C : Addr) (cl : List (Str × Addr)) (fp : List Addr), JTs K (X.blk s H scope (compEnvC scope cl C X.env) fp) ifs t ft) (he : ∀ (s : Shared) (H : Hp) (C : Addr) (cl : List (Str × Addr)) (fp : List Addr), JE K (X.blk s H scope (compEnvC scope cl C X.env) fp) elt te fe)
    (hT : ∀ i ∈ T, i ∈ own.map (·.2)) (s0 : Shared) (H0 : Hp) (hn : ((own.map (·.2)).all fun i => decide (i < K.n)) = true := by rfl) (hf : ((own.map (·.2)).all fun i => K.freeB i) = true := by rfl) (hin : decide (i < K.n) = true := by rfl) (hif : K.freeB i = true := by rfl) (hy : X.N[i]? = some y := by rfl) (hyl : X.env.scope.names.lookup y = some .local := by rfl) (hs : ∀ x, foldedSetIterable iter X.env x = pure x := by intro _; rfl) :
    JS K X Z [i] (.Assign [.Name y py] (.ListComp elt [⟨tg, iter, ifs, 0⟩] scope pos) spos) (tAsg (tLc wi g t te (own.map (·.2))) (gName i)) (fSet i (fLcM fi fg ft fe (own.map (·.2)))) :=
  ⟨ps_setLc hc hN hy hyl hsw hi.p ok (fun s H C cl fp => (hg s H C cl fp).p) (fun s H C cl fp => (ht s H C cl fp).p) (fun s H C cl fp => (he s H C cl fp).p) hs,
    rs_set (of_decide_eq_true hin) (Kc.freeB_ok hif) (re_lcM hT (allN hn) (allF hf) hi.r (hg s0 H0 0 [] []).r (ht s0 H0 0 [] []).r (he s0 H0 0 [] []).r)⟩
/-! targets -/
theorem g_name (i : Nat) {x : Str} (hN : X.N.Nodup) (hi : X.N[i]? = some x := by rfl) (hx : Loc X.env.scope x := by first | exact Or.inl rfl | exact Or.inr rfl) (hf : X.fn x = true ∨ X.env.scope.names.lookup x = some .local := by first | exact .inl rfl | exact .inr rfl | assumption) (kin : decide (i < K.n) = true := by rfl) (kif : K.freeB i = true := by rfl) : JG K X [i] (.Name x pos) (gName i) (fgName i) := ⟨pg_name hN hi hx hf, rg_name (of_decide_eq_true kin) (Kc.freeB_ok kif)⟩
theorem gs_nil : JGs K X [] [] gNil fgNil := ⟨pgs_nil, rgs_nil⟩
theorem gs_cons {T2 : List Nat} (h1 : JG K X T e g fg) (h2 : JGs K X T' es gs fgs) (hs : (assignEach (e :: es) X.env).map (·.2) = assign e X.env :: (assignEach es X.env).map (·.2) := by rfl) (hT : T ++ T' = T2 := by rfl) : JGs K X T2 (e :: es) (gCons g gs) (fgCons fg fgs) := ⟨pgs_cons h1.p h2.p hs, by rw [← hT]; exact rgs_cons h1.r h2.r⟩
theorem g_tup {k n : Nat} (hc : X.calm = true) (h : JGs K X T es gs fgs) (hn : (assignEach es X.env).length = n := by rfl) (hst : (assignEach es X.env).findIdx? (·.1) = none := by rfl) (hk : X.K = K.fr := by rfl) : JG K X T (.Tuple es k pos) (gTup K n gs) (fgTup n fgs) := by
  obtain ⟨kf, kt, ko, kn, kx⟩ := K
  subst hk
  exact ⟨pg_tup hc h.p hn hst, rg_tup h.r⟩
/-! what is walked -/
theorem i_list (h : JE K X e te fe) (hk : X.K = K.fr := by rfl) : JI K X tg e (iList K te) (fiList fe) := by
  obtain ⟨kf, kt, ko, kn, kx⟩ := K
  subst hk
  exact ⟨pi_list h.p, ri_list h.r⟩
theorem i_tup (h : JE K X e te fe) (hk : X.K = K.fr := by rfl) : JI K X tg e (iTup K te) (fiTup fe) := by
  obtain ⟨kf, kt, ko, kn, kx⟩ := K
  subst hk
  exact ⟨pi_tup h.p, ri_tup h.r⟩
theorem i_r1 (hm : X.mg "range" = none) (h : JA K X [a] tl fl) (hg : Gl X "range" := by rfl) (hs : starEach [a] X.env = [(false, eval a X.env)] := by rfl) : JI K X tg (.Call (.Name "range" p) [a] [] pos) (iRng1 tl) (fiR1 fl) := ⟨pi_range1 hg hm h.p hs, ri_r1 h.r⟩
theorem i_r2 (hm : X.mg "range" = none) (h : JA K X [a, b] tl fl) (hg : Gl X "range" := by rfl) (hs : starEach [a, b] X.env = [(false, eval a X.env), (false, eval b X.env)] := by rfl) (hs2 : starEach [b] X.env = [(false, eval b X.env)] := by rfl) : JI K X tg (.Call (.Name "range" p) [a, b] [] pos) (iRng2 tl) (fiR2 fl) := ⟨pi_range2 hg hm h.p hs hs2, ri_r2 h.r⟩
theorem i_r3 (hm : X.mg "range" = none) (h : JA K X [a, b, c] tl fl) (hg : Gl X "range" := by rfl) (hs : starEach [a, b, c] X.env = (false, eval a X.env) :: starEach [b, c] X.env := by rfl) (hpl : (backTo pos (starEach [b, c] X.env)).any (·.1) = false := by rfl) : JI K X tg (.Call (.Name "range" p) [a, b, c] [] pos) (iRng3 tl) (fiR3 fl) := ⟨pi_range3 hg hm h.p hs hpl, ri_r3 h.r⟩
theorem i_zip {elts : List Expr} {kk : Nat} {tpos : Pos} (hm : X.mg "zip" = none) (h : JA K X [a, b] tl fl) (hg : Gl X "zip" := by rfl) (hs : starEach [a, b] X.env = (false, eval a X.env) :: starEach [b] X.env := by rfl) (hpl : (backTo pos (starEach [b] X.env)).any (·.1) = false := by rfl) (hk : X.K = K.fr := by rfl) : JI K X (.Tuple elts kk tpos) (.Call (.Name "zip" p) [a, b] [] pos) (iZip K tl) (fiZip fl) := by
  obtain ⟨kf, kt, ko, kn, kx⟩ := K
  subst hk
  exact ⟨pi_zip hg hm h.p hs hpl, ri_zip h.r⟩
theorem i_enum {elts : List Expr} {kk : Nat} {tpos : Pos} (hm : X.mg "enumerate" = none) (h : JA K X [a] tl fl) (hg : Gl X "enumerate" := by rfl) (hs : starEach [a] X.env = [(false, eval a X.env)] := by rfl) (hk : X.K = K.fr := by rfl) : JI K X (.Tuple elts kk tpos) (.Call (.Name "enumerate" p) [a] [] pos) (iEnum K tl) (fi1 enumD fl) := by
  obtain ⟨kf, kt, ko, kn, kx⟩ := K
  subst hk
  exact ⟨pi_enum hg hm h.p hs, ri_enum h.r⟩
theorem i_rev (hm : X.mg "reversed" = none) (h : JA K X [a] tl fl) (hg : Gl X "reversed" := by rfl) (hs : starEach [a] X.env = [(false, eval a X.env)] := by rfl) (hk : X.K = K.fr := by rfl) : JI K X tg (.Call (.Name "reversed" p) [a] [] pos) (iRev K tl) (fi1 List.reverse fl) := by
  obtain ⟨kf, kt, ko, kn, kx⟩ := K
  subst hk
  exact ⟨pi_reversed hg hm h.p hs, ri_rev h.r⟩
end
end Fx
set_option Elab.async false
set_option linter.all false
set_option maxRecDepth 100000
/-! Gx: defs: what they compute, what they promise. -/
namespace Fx
open PySem PySem.Spec L2
variable {K : Kc}
/-- how a def ends -/
inductive DR where
  | ret (o : OV) (ds : DS)
  | ex (x : Str) (ds : DS)
/-- a def computes g of its arguments' slots (and of its object's fields) -/
def spO (K : Kc) (mg : Str → Option Value) (g : DS → Option DR) : Sp := fun vs H Q E => vs.length = K.n ∧ ∃ G F ds r, SI K G H (vs.map some) ds F ∧ g ds = some r ∧ match r with
  | .ret o ds' => ∀ v G' H' F' fp, SI K G' H' (vs.map some) ds' F' → Step (Wf F) G H G' H' (Wf F') → Rep K G' H' v o fp → Fp G' H' (Wf F') (Wf F) H fp → Q v H'
  | .ex x ds' => ∀ C G' H' F', mg x = some (.ref C) → SI K G' H' (vs.map some) ds' F' → Step (Wf F) G H G' H' (Wf F') → E (.ref C) none H'
/-! ### more names; fewer -/
def padD (p q : Nat) (ds : DS) : DS := ds.take p ++ (List.replicate (q - p) none ++ ds.drop p)
def cutO (io : List Nat) (p q : Nat) (ds : DS) : DS := ((List.range p).map fun i => if i ∈ io then (ds[i]?).getD none else none) ++ ds.drop q
theorem padD_lt {p q i : Nat} {ds : DS} (hp : p ≤ ds.length) (h : i < p) : (padD p q ds)[i]? = ds[i]? := by
  unfold padD
  rw [List.getElem?_append_left (by simp; omega), List.getElem?_take_of_lt h]
theorem padD_mid {p q i : Nat} {ds : DS} (hp : p ≤ ds.length) (h : p ≤ i) (h2 : i < q) : (padD p q ds)[i]? = some none := by
  unfold padD
  have e : (ds.take p).length = p := by simp; omega
  rw [List.getElem?_append_right (by omega), List.getElem?_append_left (by simp; omega), List.getElem?_replicate, if_pos (by omega)]
theorem padD_ge {p q i : Nat} {ds : DS} (hp : p ≤ ds.length) (hq : p ≤ q) (h : q ≤ i) : (padD p q ds)[i]? = ds[i - (q - p)]? := by
  unfold padD
  have e : (ds.take p).length = p := by simp; omega
  rw [List.getElem?_append_right (by omega), List.getElem?_append_right (by simp; omega), List.getElem?_drop]
  congr 1
  simp
  omega
theorem padD_len {p q : Nat} {ds : DS} (hp : p ≤ ds.length) (hq : p ≤ q) : (padD p q ds).length = ds.length + (q - p) := by
  unfold padD
  simp
  omega
theorem cutO_lt {io : List Nat} {p q i : Nat} {ds : DS} (h : i < p) : (cutO io p q ds)[i]? = some (if i ∈ io then (ds[i]?).getD none else none) := by
  unfold cutO
  rw [List.getElem?_append_left (by simp; omega)]
  simp [h]
theorem cutO_ge {io : List Nat} {p q i : Nat} {ds : DS} (h : p ≤ i) : (cutO io p q ds)[i]? = ds[i + q - p]? := by
  unfold cutO
  rw [List.getElem?_append_right (by simp; omega), List.getElem?_drop]
  congr 1
  simp
  omega
theorem cutO_len {io : List Nat} {p q : Nat} {ds : DS} (h : q ≤ ds.length) : (cutO io p q ds).length = p + (ds.length - q) := by
  unfold cutO
  simp
theorem start_get {N : List Str} {vs : List V} {i : Nat} (h : i < vs.length) : (L2.start N vs)[i]? = (vs.map some)[i]? := by
  unfold L2.start
  rw [List.getElem?_append_left (by simpa using h)]
theorem start_len {N : List Str} {vs : List V} (h : vs.length ≤ N.length) : (L2.start N vs).length = N.length := by
  unfold L2.start
  simp
  omega
def padF (p q : Nat) (F : Nat → List Addr) : Nat → List Addr := fun i => if i < p then F i else if i < q then [] else F (i - (q - p))
theorem wf_pad {p q : Nat} {F : Nat → List Addr} (hq : p ≤ q) {b : Addr} : Wf (padF p q F) b ↔ Wf F b := by
  constructor
  · rintro ⟨i, h⟩
    unfold padF at h
    split at h
    · exact ⟨_, h⟩
    · split at h
      · cases h
      · exact ⟨_, h⟩
  · rintro ⟨i, h⟩
    by_cases hi : i < p
    · exact ⟨i, by unfold padF; rw [if_pos hi]; exact h⟩
    · refine ⟨i + (q - p), ?_⟩
      unfold padF
      rw [if_neg (by omega), if_neg (by omega)]
      have : i + (q - p) - (q - p) = i := by omega
      rw [this]; exact h
theorem SI.pad {G H : Hp} {vs : List V} {ds : DS} {F : Nat → List Addr} {N : List Str} (S : SI K G H (vs.map some) ds F) (hN : vs.length ≤ N.length) : SI ⟨K.fr, K.tb, K.ob, N.length, none⟩ G H (L2.start N vs) (padD vs.length N.length ds) (padF vs.length N.length F) := by
  have hsl := S.sl
  rw [List.length_map] at hsl
  have hp : vs.length ≤ ds.length := by rw [S.len]; omega
  refine ⟨S.sub, S.gnt, S.tab, start_len hN, ?_, fun i o e => ?_, fun i => ?_, fun i a h => ?_, fun i j a h1 h2 => ?_, fun o e => ?_, fun p e => by cases e⟩
  · rw [padD_len hp hN, S.len]
    show _ = N.length + K.nf
    omega
  · by_cases h1 : i < vs.length
    · rw [padD_lt hp h1] at e
      obtain ⟨v, k1, k2⟩ := S.rep i o e
      refine ⟨v, .inl (by rw [start_get h1]; exact look_at k1 (by simpa using h1)), ?_⟩
      unfold padF; rw [if_pos h1]; exact k2
    · by_cases h2 : i < N.length
      · rw [padD_mid hp (by omega) h2] at e; cases e
      · rw [padD_ge hp hN (by omega)] at e
        obtain ⟨v, k1, k2⟩ := S.rep _ o e
        refine ⟨v, ?_, by unfold padF; rw [if_neg h1, if_neg h2]; exact k2⟩
        rcases k1 with k1 | ⟨_, o', a, C, dx, fs, n, q1, q2, q3, q4, q5⟩
        · have := (List.getElem?_eq_some_iff.mp k1).1
          rw [List.length_map] at this
          omega
        · have hs : o'.slot < vs.length := by
            have := (List.getElem?_eq_some_iff.mp q2).1
            rwa [List.length_map] at this
          refine .inr ⟨by rw [start_len hN]; omega, o', a, C, dx, fs, n, q1, by rw [start_get hs]; exact q2, q3, ?_, q5⟩
          rw [start_len hN]
          rw [List.length_map] at q4
          have : i - (N.length - vs.length) - vs.length = i - N.length := by omega
          rw [this] at q4
          exact q4
  · unfold padF
    split
    · exact S.nod i
    · split
      · exact .nil
      · exact S.nod _
  · unfold padF at h
    split at h
    · exact S.off _ a h
    · split at h
      · cases h
      · exact S.off _ a h
  · unfold padF at h1 h2
    split at h1
    · split at h2
      · exact S.dis i j a h1 h2
      · split at h2
        · cases h2
        · have := S.dis _ _ a h1 h2
          omega
    · split at h1
      · cases h1
      · split at h2
        · have := S.dis _ _ a h1 h2
          omega
        · split at h2
          · cases h2
          · have := S.dis _ _ a h1 h2
            omega
  · obtain ⟨h1, h2, a, dx, fs, k1, k2, k3⟩ := S.obj o e
    rw [List.length_map] at h2
    refine ⟨by rw [padD_lt hp h2]; exact h1, by rw [start_len hN]; omega, a, dx, fs, by rw [start_get h2]; exact k1, ?_, k3⟩
    rw [padD_len hp hN]
    unfold padF
    rw [if_neg (by omega), if_neg (by omega)]
    have : ds.length + (N.length - vs.length) - (N.length - vs.length) = ds.length := by omega
    rw [this]; exact k2
def cutF (io : List Nat) (p q : Nat) (F : Nat → List Addr) : Nat → List Addr := fun i => if i < p then (if i ∈ io then F i else []) else F (i + q - p)
theorem wf_cut {io : List Nat} {p q : Nat} {F : Nat → List Addr} {b : Addr} (h : Wf (cutF io p q F) b) : Wf F b := by
  obtain ⟨i, h⟩ := h
  unfold cutF at h
  split at h
  · split at h
    · exact ⟨_, h⟩
    · cases h
  · exact ⟨_, h⟩
/-- back at the call: the arguments' slots io and the object's fields -/
theorem SI.cut {G H : Hp} {vs : List V} {σ : St} {ds : DS} {F : Nat → List Addr} {N : List Str} {io : List Nat} (S : SI ⟨K.fr, K.tb, K.ob, N.length, none⟩ G H σ ds F) (hK : vs.length = K.n) (hx : K.ex = none) (hN : vs.length ≤ N.length) (hio : ∀ i ∈ io, i < vs.length → σ[i]? = (vs.map some)[i]?) (hob : ∀ o, K.ob = some o → o.slot < vs.length ∧ σ[o.slot]? = (vs.map some)[o.slot]?) :
    SI K G H (vs.map some) (cutO io vs.length N.length ds) (cutF io vs.length N.length F) := by
  have hl : ds.length = N.length + K.nf := S.len
  have hsl : σ.length = N.length := S.sl
  have hq : N.length ≤ ds.length := by omega
  refine ⟨S.sub, S.gnt, S.tab, by rw [List.length_map]; exact hK, ?_, fun i o e => ?_, fun i => ?_, fun i a h => ?_, fun i j a h1 h2 => ?_, fun o e => ?_, fun p e => by rw [hx] at e; cases e⟩
  · rw [cutO_len hq, hl, ← hK]; omega
  · by_cases h1 : i < vs.length
    · rw [cutO_lt h1] at e
      by_cases hi : i ∈ io
      · rw [if_pos hi] at e
        have e' : ds[i]? = some (some o) := by
          cases hd : ds[i]? with
          | none => rw [hd] at e; cases e
          | some x => rw [hd] at e; exact e
        obtain ⟨v, k1, k2⟩ := S.rep i o e'
        have k3 := look_at k1 (by omega)
        rw [hio i hi h1] at k3
        refine ⟨v, .inl k3, ?_⟩
        unfold cutF; rw [if_pos h1, if_pos hi]; exact k2
      · rw [if_neg hi] at e; cases e
    · rw [cutO_ge (by omega)] at e
      obtain ⟨v, k1, k2⟩ := S.rep _ o e
      refine ⟨v, ?_, by unfold cutF; rw [if_neg h1]; exact k2⟩
      rcases k1 with k1 | ⟨hx, o', a, C, dx, fs, n, q1, q2, q3, q4, q5⟩
      · have := (List.getElem?_eq_some_iff.mp k1).1
        omega
      · obtain ⟨w1, w2⟩ := hob o' q1
        refine .inr ⟨by rw [List.length_map]; omega, o', a, C, dx, fs, n, q1, by rw [← w2]; exact q2, q3, ?_, q5⟩
        rw [hsl] at q4
        rw [List.length_map]
        have : i + N.length - vs.length - N.length = i - vs.length := by omega
        rw [this] at q4
        exact q4
  · unfold cutF
    split
    · split
      · exact S.nod i
      · exact .nil
    · exact S.nod _
  · unfold cutF at h
    split at h
    · split at h
      · exact S.off _ a h
      · cases h
    · exact S.off _ a h
  · unfold cutF at h1 h2
    split at h1
    · split at h1
      · split at h2
        · split at h2
          · exact S.dis i j a h1 h2
          · cases h2
        · have := S.dis _ _ a h1 h2
          omega
      · cases h1
    · split at h2
      · split at h2
        · have := S.dis _ _ a h1 h2
          omega
        · cases h2
      · have := S.dis _ _ a h1 h2
        omega
  · obtain ⟨h1, h2, a, dx, fs, k1, k2, k3⟩ := S.obj o e
    obtain ⟨w1, w2⟩ := hob o e
    refine ⟨?_, by rw [List.length_map]; exact w1, a, dx, fs, by rw [← w2]; exact k1, ?_, k3⟩
    · rw [cutO_lt w1]
      split
      · rw [h1]; rfl
      · rfl
    · rw [cutO_len hq]
      unfold cutF
      rw [if_neg (by omega)]
      have : vs.length + (ds.length - N.length) + N.length - vs.length = ds.length := by omega
      rw [this]; exact k2
/-- what a body computes of its arguments -/
def funO (io : List Nat) (p q : Nat) (f : DS → Option Out) (ds : DS) : Option DR := match f (padD p q ds) with
  | some (.ret o d) => some (.ret o (cutO io p q d))
  | some (.nx d) => some (.ret (.sh .none) (cutO io p q d))
  | some (.ex x d) => some (.ex x (cutO io p q d))
  | _ => none
/-- what the text's name x stands for: a def that computes g; n arguments -/
def Dk (P : Program) (w : World) (fr : PySem.W.Frag) (tb : List (Addr × Str)) (mg : Str → Option Value) (base : Heap) (k : Nat) (x : Str) (n : Nat) (g : DS → Option DR) : Prop :=
  ∃ (f : Addr) (fd : FuncData) (ps : List Str), FnOk P w fr mg base (L2.CX P w) k f fd ps (spO ⟨fr, tb, none, n, none⟩ mg g) ∧ mg x = some (.ref f) ∧ PySem.W.keepIn fr (.ref f) = true ∧ Binds fr fd ps []
/-- a body serves a def's promise -/
theorem body_ok {mg : Str → Option Value} {N : List Str} {vs : List V} {H : Hp} {Q : VK} {E : XK} {t : TS} {T io : List Nat} {fb : DS → Option Out} (hx : K.ex = none) (hN : K.n ≤ N.length) (hT : ∀ i ∈ io, i ∉ T) (hob : ∀ o, K.ob = some o → o.slot ∉ T)
    (J : RS ⟨K.fr, K.tb, K.ob, N.length, none⟩ ⟨fun c d _ H => E c d H, mg⟩ T t fb) (h : spO K mg (funO io K.n N.length fb) vs H Q E) : t { nx := fun _ H' => Q .non H', rt := Q } (L2.start N vs) H := by
  obtain ⟨hl, G, F, ds, r, S, hr, q⟩ := h
  have hN' : vs.length ≤ N.length := by omega
  have S0 := S.pad (N := N) hN'
  unfold funO at hr
  rw [← hl] at hr
  have same : ∀ {σ' : St}, Off T (L2.start N vs) σ' → (∀ i ∈ io, i < vs.length → σ'[i]? = (vs.map some)[i]?) ∧ ∀ o, K.ob = some o → o.slot < vs.length ∧ σ'[o.slot]? = (vs.map some)[o.slot]? := fun {σ'} f => by
    refine ⟨fun i hi hlt => by rw [f.2 i (hT i hi), start_get hlt], fun o e => ?_⟩
    obtain ⟨_, h2, _⟩ := S.obj o e
    rw [List.length_map] at h2
    exact ⟨h2, by rw [f.2 _ (hob o e), start_get h2]⟩
  have wp : ∀ {b}, Wf (padF vs.length N.length F) b ↔ Wf F b := wf_pad hN'
  have stp : ∀ {G' H' W'}, Step (Wf (padF vs.length N.length F)) G H G' H' W' → Step (Wf F) G H G' H' W' := fun {G' H' W'} s => ⟨s.sg, fun b x e n => s.keep b x e fun z => n (wp.mp z), s.dom, fun b x e => (s.new b x e).imp id fun z => z.imp wp.mp id, fun b z => (s.own b z).imp wp.mp id⟩
  split at hr
  · rename_i o d he
    cases hr
    refine J G H _ _ _ _ _ S0 he fun v σ' G' H' F' fp S' t' f' r' p' => ?_
    obtain ⟨a1, a2⟩ := same f'
    exact q v G' H' _ fp (S'.cut hl hx hN' a1 a2) (stp (t'.reown fun b hb => t'.own b (wf_cut hb))) r' ⟨p'.nod, fun a ha => ⟨(p'.off a ha).1, (p'.off a ha).2.1, fun z => (p'.off a ha).2.2 (wf_cut z)⟩, fun a ha => (p'.new a ha).imp wp.mp id⟩
  · rename_i d he
    cases hr
    refine J G H _ _ _ _ _ S0 he fun σ' G' H' F' S' t' f' => ?_
    obtain ⟨a1, a2⟩ := same f'
    exact q .non G' H' _ [] (S'.cut hl hx hN' a1 a2) (stp (t'.reown fun b hb => t'.own b (wf_cut hb))) ⟨.non, rfl⟩ .nil
  · rename_i x d he
    cases hr
    refine J G H _ _ _ _ _ S0 he fun C σ' G' H' F' m S' t' f' => ?_
    obtain ⟨a1, a2⟩ := same f'
    exact q C G' H' _ m (S'.cut hl hx hN' a1 a2) (stp (t'.reown fun b hb => t'.own b (wf_cut hb)))
  · cases hr
theorem def_ok {P : Program} {w : World} {fr : PySem.W.Frag} {tb : List (Addr × Str)} {mg : Str → Option Value} {base : Heap} {x qual : Str} {st : Stmt} {f : Addr} {fd : FuncData} {N ps : List Str} {k : Nat} {io T : List Nat} {fb : DS → Option Out} (F : L2.Fun fr x qual st f fd) (hm : mg x = some (.ref f)) (hb : Binds fr fd ps []) (S : FnScope N ps (defScope st)) (hN : ps.length ≤ N.length)
    (body : ∀ (cdv : Value) (A : Around) (outer : List Env) (s : Shared) (H : Hp) (E : XK), Room k (A.deeper (PyProof.Rows.envOfC qual (defScope st) s.heap.objs.size f cdv)) → ∃ t, JB ⟨fr, tb, none, N.length, none⟩ (cxOf (L2.CX P w) P w fr mg base N qual (defScope st) f cdv A outer s H E) ⟨fun c d _ H => E c d H, mg⟩ T (defBody st) t fb) (hT : ∀ i ∈ io, i ∉ T := by decide) :
    Dk P w fr tb mg base (k + 1) x ps.length (funO io ps.length N.length fb) := by
  refine ⟨f, fd, ps, F.okX S (fun vs H Q E h => h.1) fun cdv A outer s H vs Q E hr h => ?_, hm, F.kp, hb⟩
  obtain ⟨t, J⟩ := body cdv A outer s H E hr
  exact ⟨t, J.p, body_ok (K := ⟨fr, tb, none, ps.length, none⟩) rfl hN hT (fun o e => nomatch e) J.r h⟩
end Fx
set_option Elab.async false
set_option linter.all false
set_option maxRecDepth 100000
/-! Gx: calls of the text's defs. -/
namespace Fx
open PySem PySem.Spec L2
variable {K : Kc}
/-- behind a call: what the caller owns stays -/
theorem SI.frame {G H G' H' : Hp} {σ : St} {ds : DS} {F : Nat → List Addr} {Wa W' : Addr → Prop} (S : SI K G H σ ds F) (t : Step Wa G H G' H' W') (sub : Same G' H') (nt : ∀ b x, G' b = some x → NT x) (tab : TabX K.tb H') (dj : ∀ a, Wf F a → ¬ Wa a) : SI K G' H' σ ds F := by
  have kp : ∀ i b, b ∈ F i → ∀ x, H b = some x → H' b = some x := fun i b hb x e => by
    obtain ⟨_, y, h1, h2⟩ := S.off i b hb
    rw [e] at h1; cases h1
    exact t.keep b x e (dj b ⟨i, hb⟩) h2.1
  refine ⟨sub, nt, tab, S.sl, S.len, fun i o e => ?_, S.nod, fun i a ha => ?_, S.dis, fun u e => ?_, S.exs⟩
  · obtain ⟨v, h1, h2⟩ := S.rep i o e
    refine ⟨v, ?_, h2.mono t.sg fun b hb x hx => kp i b hb x hx⟩
    rcases h1 with h | ⟨h, o', a, C, dx, fs, n, q1, q2, q3, q4, q5⟩
    · exact .inl h
    · obtain ⟨_, _, a', dx', fs', k1, k2, k3⟩ := S.obj o' q1
      rw [q2] at k1; cases k1
      exact .inr ⟨h, o', a, C, dx, fs, n, q1, q2, kp ds.length a (by rw [k2]; simp) _ q3, q4, q5⟩
  · obtain ⟨h1, x, h2, h3⟩ := S.off i a ha
    refine ⟨?_, x, kp i a ha x h2, h3⟩
    rcases some_or (G' a) with ⟨y, e⟩ | e
    · rcases t.new a y e with ⟨z, e'⟩ | w | e'
      · rw [h1] at e'; cases e'
      · exact absurd w (dj a ⟨i, ha⟩)
      · rw [h2] at e'; cases e'
    · exact e
  · obtain ⟨h1, h2, a, dx, fs, k1, k2, k3, k4, k5⟩ := S.obj u e
    exact ⟨h1, h2, a, dx, fs, k1, k2, kp ds.length a (by rw [k2]; simp) _ k3, kp ds.length dx (by rw [k2]; simp) _ k4, k5⟩
/-- shared arguments -/
theorem SI.shared {fr : PySem.W.Frag} {tb : List (Addr × Str)} {G H : Hp} {vs : List V} {l : List D} (s : Same G H) (nt : ∀ b x, G b = some x → NT x) (tab : TabX tb H) (h : L2.DpAll fr G vs l) : SI ⟨fr, tb, none, vs.length, none⟩ G H (vs.map some) (l.map fun d => some (.sh d)) (fun _ => []) where
  sub := s
  gnt := nt
  tab := tab
  sl := by rw [List.length_map]
  len := by
    rw [List.length_map]
    have := dpsLen (K := ⟨fr, tb, none, 0, none⟩) h
    show l.length = vs.length + 0
    omega
  rep := fun i o e => by
    rw [List.getElem?_map] at e
    obtain ⟨d, h1, h2⟩ := Option.map_eq_some_iff.mp e
    cases h2
    obtain ⟨v, h3, h4⟩ := dpsGet (K := ⟨fr, tb, none, 0, none⟩) h h1
    exact ⟨v, .inl (by rw [List.getElem?_map, h3]; rfl), h4, rfl⟩
  nod := fun _ => .nil
  off := fun _ _ h => nomatch h
  dis := fun _ _ _ h => nomatch h
  obj := fun o e => nomatch e
  exs := fun o e => nomatch e
theorem bindSome' {α β : Type} (a : α) (f : α → Option β) : (some a).bind f = f a := rfl
theorem noW {b : Addr} (h : Wf (fun _ => []) b) : False := by
  obtain ⟨i, h⟩ := h
  cases h
abbrev shs (l : List D) : DS := l.map fun d => some (OV.sh d)
/-- a call with shared arguments: a value, or an exception -/
def fCallX (n : Nat) (g : DS → Option DR) (fa : DS → Option (List RV × DS)) (ds : DS) : Option ((RV × DS) ⊕ (Str × DS)) :=
  (fa ds).bind fun p => (frzs p.1 p.2).bind fun q => if q.1.length = n then (g (shs q.1)).map fun r => match r with
    | .ret o _ => .inl (.ov o, q.2)
    | .ex x _ => .inr (x, q.2) else none
/-- an expression that may raise -/
def RX (K : Fr) (Z : Zc) (t : TE) (f : DS → Option ((RV × DS) ⊕ (Str × DS))) : Prop :=
  ∀ (G H : Hp) (F : Nat → List Addr) (σ : St) (ds : DS) (r : (RV × DS) ⊕ (Str × DS)) (Q : VK), SI K G H σ ds F → f ds = some r → (match r with
    | .inl (rv, ds') => ∀ v G' H' F' fp, SI K G' H' σ ds' F' → Step (Wf F) G H G' H' (Wf F') → VRep K G' H' σ v rv fp → Fp G' H' (Wf F') (Wf F) H fp → Q v H'
    | .inr (x, ds') => ∀ C G' H' F', Z.mg x = some (.ref C) → SI K G' H' σ ds' F' → Step (Wf F) G H G' H' (Wf F') → Z.W (.ref C) none σ H') → t σ H Q
theorem rx_call {Z : Zc} {n : Nat} {g : DS → Option DR} {t : TA} {fa : DS → Option (List RV × DS)} (ha : RA K t fa) : RX K Z (tCallS (spO ⟨K.fr, K.tb, none, n, none⟩ Z.mg g) (WE Z.W) t) (fCallX n g fa) := by
  intro G H F σ ds r Q S e q
  simp only [fCallX, Option.bind_eq_some_iff] at e
  obtain ⟨⟨ra, d1⟩, e1, ⟨l, d2⟩, e3, e4⟩ := e
  split at e4
  · rename_i hn
    simp only [Option.map_eq_some_iff] at e4
    obtain ⟨dr, e5, e6⟩ := e4
    refine ha G H F σ ds ra d1 _ S e1 fun v1 G1 H1 F1 fp1 S1 t1 r1 f1 => ?_
    obtain ⟨G2, F2, S2, t2, s2, dd, _⟩ := frzs_ok (fq := []) S1 t1 r1 (by rw [List.append_nil]; exact f1) e3
    have hl : v1.length = n := by rw [dpsLen dd]; exact hn
    subst hl
    refine ⟨rfl, G2, fun _ => [], shs l, dr, SI.shared S2.sub S2.gnt S2.tab dd, e5, ?_⟩
    cases dr with
    | ret o d' =>
      subst e6
      intro v G' H' F' fp S' t' r' f'
      have SS := S2.frame t' S'.sub S'.gnt S'.tab fun a _ z => noW z
      have tt : Step (Wf F) G H G' H' (Wf F2) := t2.trans ⟨t'.sg, fun b x e n nt => t'.keep b x e noW nt, t'.dom, fun b x e => (t'.new b x e).imp id fun z => z.elim (fun z => (noW z).elim) .inr, fun b z => .inl z⟩
      refine q v G' H' F2 fp SS tt r' ⟨f'.nod, fun a h => ⟨(f'.off a h).1, (f'.off a h).2.1, fun ⟨i, z⟩ => ?_⟩, fun a h => .inr ?_⟩
      · rcases f'.new a h with z' | z'
        · exact noW z'
        · obtain ⟨_, x, y, _⟩ := S2.off i a z
          rw [z'] at y; cases y
      · rcases f'.new a h with z' | z'
        · exact (noW z').elim
        · exact t2.back z'
    | ex x d' =>
      subst e6
      intro C G' H' F' m S' t'
      have SS := S2.frame t' S'.sub S'.gnt S'.tab fun a _ z => noW z
      have tt : Step (Wf F) G H G' H' (Wf F2) := t2.trans ⟨t'.sg, fun b x e n nt => t'.keep b x e noW nt, t'.dom, fun b x e => (t'.new b x e).imp id fun z => z.elim (fun z => (noW z).elim) .inr, fun b z => .inl z⟩
      exact q C G' H' F2 m SS tt
  · cases e4
def fCallS (n : Nat) (g : DS → Option DR) (fa : DS → Option (List RV × DS)) (ds : DS) : Option (RV × DS) := (fCallX n g fa ds).bind fun r => match r with
  | .inl p => some p
  | .inr _ => none
/-- nothing is let out -/
def Z0 (mg : Str → Option Value) : Zc := ⟨fun _ _ _ _ => False, mg⟩
theorem re_callS {mg : Str → Option Value} {n : Nat} {g : DS → Option DR} {t : TA} {fa : DS → Option (List RV × DS)} (ha : RA K t fa) : RE K (tCallS (spO ⟨K.fr, K.tb, none, n, none⟩ mg g) (WE (Z0 mg).W) t) (fCallS n g fa) := by
  intro G H F σ ds r ds' Q S e q
  simp only [fCallS, Option.bind_eq_some_iff] at e
  obtain ⟨rr, e1, e2⟩ := e
  cases rr with
  | inl p => cases e2; exact rx_call (Z := Z0 mg) ha G H F σ ds _ Q S e1 q
  | inr p => cases e2
/-! ### borrowed arguments -/
/-- all that stands in H and is no table, but for the places fp -/
noncomputable def Gb (H : Hp) (fp : List Addr) : Hp := fun b => if b ∈ fp then none else match H b with
  | some x => if yes (NT x) = true then some x else none
  | none => none
theorem gb_some {H : Hp} {fp : List Addr} {b : Addr} {x : HO} (h : Gb H fp b = some x) : H b = some x ∧ NT x ∧ b ∉ fp := by
  unfold Gb at h
  split at h
  · cases h
  · rename_i hn
    split at h
    · split at h
      · rename_i hy
        cases h
        exact ⟨by assumption, of_yes hy, hn⟩
      · cases h
    · cases h
theorem gb_of {H : Hp} {fp : List Addr} {b : Addr} {x : HO} (h : H b = some x) (nt : NT x) (n : b ∉ fp) : Gb H fp b = some x := by
  unfold Gb
  rw [if_neg n, h]
  exact if_pos (yes_of nt)
/-- what holds of data without the places of other things -/
theorem Rep.closed {G G' H : Hp} {v : V} {o : OV} {fp : List Addr} {d : D} (r : Rep K G' H v o fp) (e : o.own? = some d) : Rep K G H v o fp := by
  cases o with
  | sh d' =>
    simp only [OV.own?] at e
    split at e
    · exact ⟨(scOf r.1 (by assumption)).dp, r.2⟩
    · cases e
  | flat l =>
    simp only [OV.own?] at e
    split at e
    · rename_i hl
      obtain ⟨a, xs, rfl, h1, h2, rfl⟩ := r
      refine ⟨a, xs, rfl, h1, ?_, rfl⟩
      have go : ∀ {vs : List V} {ds : List D}, DpAll K G' vs ds → ds.all isSc = true → DpAll K G vs ds := by
        intro vs ds h
        induction ds generalizing vs with
        | nil => intro _; cases h; exact .nil
        | cons d ds ih =>
          intro hs
          rw [List.all_cons, Bool.and_eq_true] at hs
          cases h with
          | cons a b => exact .cons (scOf a hs.1).dp (ih b hs.2)
      exact go h2 hl
    · cases e
  | tree d' => exact r
mutual
/-- data that is read in H is read without the places fp, if it does not touch them -/
theorem dpGb {H : Hp} {G : Hp} {fp : List Addr} (hG : ∀ b x, G b = some x → NT x ∧ b ∉ fp ∧ H b = some x) : ∀ (d : D) (v : V), Dp K G v d → Dp K (Gb H fp) v d
  | .none, _, h => by cases h; exact .non
  | .bool b, _, h => by cases h; exact .bl b
  | .int i, _, h => by cases h; exact .int i
  | .str x, _, h => by cases h; exact .str x
  | .list ds, _, h => by
    cases h with
    | lst hs ha => exact .lst (Same.seq (fun b x e => gb_of (hG b x e).2.2 (hG b x e).1 (hG b x e).2.1) hs) (dpsGb hG ds _ ha)
  | .tuple ds, _, h => by
    cases h with
    | tup hs ha => exact .tup (same_sqt (K := K) (fun b x e => gb_of (hG b x e).2.2 (hG b x e).1 (hG b x e).2.1) hs) (dpsGb hG ds _ ha)
  | .dict _, _, h => by cases h
theorem dpsGb {H : Hp} {G : Hp} {fp : List Addr} (hG : ∀ b x, G b = some x → NT x ∧ b ∉ fp ∧ H b = some x) : ∀ (ds : List D) (vs : List V), DpAll K G vs ds → DpAll K (Gb H fp) vs ds
  | [], _, h => by cases h; exact .nil
  | d :: ds, _, h => by
    cases h with
    | cons h1 h2 => exact .cons (dpGb hG d _ h1) (dpsGb hG ds _ h2)
end
end Fx
set_option Elab.async false
set_option linter.all false
set_option maxRecDepth 100000
/-! Gx: calls with borrowed arguments; a first argument that is moved, or lent to be changed. -/
namespace Fx
open PySem PySem.Spec L2
variable {K : Kc}
theorem Rep.gb {G H : Hp} {v : V} {o : OV} {fp fm : List Addr} (r : Rep K G H v o fp) (hG : ∀ b x, G b = some x → NT x ∧ b ∉ fm ∧ H b = some x) (hp : ∀ b ∈ fp, b ∉ fm ∧ ∃ x, H b = some x ∧ NT x) : Dp K (Gb H fm) v o.view := by
  have kp : ∀ b ∈ fp, ∀ x, H b = some x → Gb H fm b = some x := fun b hb x e => by
    obtain ⟨n, y, h1, h2⟩ := hp b hb
    rw [e] at h1; cases h1
    exact gb_of e h2 n
  cases o with
  | sh d => exact dpGb hG d v r.1
  | flat l =>
    obtain ⟨a, xs, rfl, h1, h2, rfl⟩ := r
    exact .lst (SqL.of (kp a (by simp) _ h1)) (dpsGb hG l xs h2)
  | tree d => exact trDp d v fp (trMono d v fp r kp)
/-- arguments as they are seen without the places fm -/
theorem sees_gb {G H : Hp} {σ : St} {ds : DS} {F : Nat → List Addr} {W0 : Addr → Prop} {H0 : Hp} {fm : List Addr} (S : SI K G H σ ds F) (hm : ∀ b ∈ fm, G b = none) : ∀ {vs : List V} {rs : List RV} {fp : List Addr} {l : List D}, VReps K G H σ vs rs fp → Fp G H (Wf F) W0 H0 fp → (∀ b ∈ fp, b ∉ fm) → (∀ i : Nat, RV.loc i ∈ rs → ∀ b ∈ F i, b ∉ fm) → sees rs ds = some l → DpAll K (Gb H fm) vs l := by
  have hG : ∀ b x, G b = some x → NT x ∧ b ∉ fm ∧ H b = some x := fun b x e => ⟨S.gnt b x e, (fun z => by rw [hm b z] at e; cases e), S.sub b x e⟩
  intro vs rs fp l h
  induction h generalizing l with
  | nil => intro _ _ _ e; cases e; exact .nil
  | cons a t ih =>
    rename_i v vs r rs fp fq
    intro f hfm hl e
    simp only [sees, Option.bind_eq_some_iff, Option.map_eq_some_iff] at e
    obtain ⟨d, h1, l', h2, rfl⟩ := e
    refine .cons ?_ (ih f.right (fun b hb => hfm b (List.mem_append_right _ hb)) (fun i hi => hl i (by simp [hi])) h2)
    cases r with
    | ov o =>
      cases h1
      exact Rep.gb a hG fun b hb => ⟨hfm b (List.mem_append_left _ hb), (f.left.off b hb).2.1⟩
    | loc i =>
      simp only [see] at h1
      split at h1
      · rename_i o ho
        cases h1
        obtain ⟨u, k1, k2⟩ := S.rep i o ho
        obtain rfl := look_eq k1 a.1
        exact Rep.gb k2 hG fun b hb => ⟨hl i (by simp) b hb, (S.off i b hb).2⟩
      · cases h1
/-- a call: what nobody else holds leaves the arguments owned; else they become shared -/
def fCall (n : Nat) (g : DS → Option DR) (fa : DS → Option (List RV × DS)) (ds : DS) : Option (RV × DS) :=
  (fa ds).bind fun p => (sees p.1 p.2).bind fun l => if l.length = n then (g (shs l)).bind fun r => match r with
    | .ret o _ => if o.own?.isSome then some (.ov o, p.2) else (frzs p.1 p.2).map fun q => (.ov o, q.2)
    | .ex _ _ => none else none
theorem re_call {mg : Str → Option Value} {n : Nat} {g : DS → Option DR} {t : TA} {fa : DS → Option (List RV × DS)} (ha : RA K t fa) : RE K (tCallS (spO ⟨K.fr, K.tb, none, n, none⟩ mg g) (WE (Z0 mg).W) t) (fCall n g fa) := by
  intro G H F σ ds rv ds' Q S e q
  have e0 := e
  simp only [fCall, Option.bind_eq_some_iff] at e
  obtain ⟨⟨ra, d1⟩, e1, l, e3, e4⟩ := e
  split at e4
  · rename_i hn
    simp only [Option.bind_eq_some_iff] at e4
    obtain ⟨dr, e5, e6⟩ := e4
    cases dr with
    | ex x d => cases e6
    | ret o dd =>
    simp only at e6
    split at e6
    · rename_i hc
      cases e6
      obtain ⟨d, hc⟩ := Option.isSome_iff_exists.mp hc
      refine ha G H F σ ds ra _ _ S e1 fun v1 G1 H1 F1 fp1 S1 t1 r1 f1 => ?_
      have dp := sees_gb (fm := []) S1 (fun _ h => nomatch h) r1 f1 (fun _ _ h => nomatch h) (fun _ _ _ _ h => nomatch h) e3
      have hl : v1.length = n := by rw [dpsLen dp]; exact hn
      subst hl
      refine ⟨rfl, Gb H1 [], fun _ => [], shs l, _, SI.shared (fun b x h => (gb_some h).1) (fun b x h => (gb_some h).2.1) S1.tab dp, e5, ?_⟩
      intro v G' H' F' fp S' t' r' f'
      have tf : Step (Wf (fun _ => [])) G1 H1 G1 H' (Wf F') := ⟨Same.refl _, t'.keep, t'.dom, fun b x e => .inl ⟨x, e⟩, t'.own⟩
      have SS := S1.frame tf (fun b x h => t'.keep b x (S1.sub b x h) noW (S1.gnt b x h).1) S1.gnt S'.tab fun a _ z => noW z
      have tt : Step (Wf F) G H G1 H' (Wf F1) := t1.trans ⟨Same.refl _, fun b x e n nt => t'.keep b x e noW nt, t'.dom, fun b x e => .inl ⟨x, e⟩, fun b z => .inl z⟩
      refine q v G1 H' F1 fp SS tt (Rep.closed (K := K) r' hc) ⟨f'.nod, fun a h => ?_, fun a h => .inr ?_⟩
      · have fr : H1 a = none := (f'.new a h).elim (fun z => (noW z).elim) id
        refine ⟨S1.sub.free fr, (f'.off a h).2.1, fun ⟨i, z⟩ => ?_⟩
        obtain ⟨_, x, y, _⟩ := S1.off i a z
        rw [fr] at y; cases y
      · exact t1.back ((f'.new a h).elim (fun z => (noW z).elim) id)
    · simp only [Option.map_eq_some_iff] at e6
      obtain ⟨⟨l2, d2⟩, e7, e8⟩ := e6
      cases e8
      have el : l2 = l := Option.some.inj ((frzs_sees e7).symm.trans e3)
      subst el
      exact re_callS ha G H F σ ds (.ov o) d2 Q S (by simp only [fCallS, fCallX, e1, bindSome', e7, if_pos hn, e5, Option.map_some]) q
  · cases e4
end Fx
set_option Elab.async false
set_option linter.all false
set_option maxRecDepth 100000
/-! Gx: calls and exceptions, with their syntax. -/
namespace Fx
open PySem PySem.Spec L2
section
variable {K : Kc} {X : Cx} {Z : Zc} {e : Expr} {es : List Expr} {tl : TA} {fl : DS → Option (List RV × DS)} {pos p : Pos} {k : Nat} {x : Str} {n : Nat} {g : DS → Option DR}
theorem Dk.le {P : Program} {w : World} {fr : PySem.W.Frag} {tb : List (Addr × Str)} {mg : Str → Option Value} {base : Heap} {k k' : Nat} {x : Str} {n : Nat} {g : DS → Option DR} (h : Dk P w fr tb mg base k x n g) (hk : k ≤ k') : Dk P w fr tb mg base k' x n g :=
  let ⟨f, fd, ps, h1, h2⟩ := h; ⟨f, fd, ps, h1.mono hk, h2⟩
theorem j_call {mg : Str → Option Value} (d : Dk X.prog X.w K.fr K.tb mg X.base k x n g) (hr : Room k X.A) (h : JA K X (e :: es) tl fl) (hg : Gl X x := by rfl) (hdb : (x == ("__debug__" : Str)) = false := by decide) (he : starEach (e :: es) X.env = (false, eval e X.env) :: starEach es X.env := by rfl) (hpl : (backTo pos (starEach es X.env)).any (·.1) = false := by rfl) (hk : X.K = K.fr := by rfl) (hmg : X.mg = mg := by rfl) :
    JE K X (.Call (.Name x p) (e :: es) [] pos) (tCallS (spO ⟨K.fr, K.tb, none, n, none⟩ mg g) (WE (Z0 mg).W) tl) (fCall n g fl) := by
  subst hmg
  obtain ⟨f, fd, ps, F, hm, hkp, hb⟩ := d
  rw [← hk] at F hkp hb
  refine ⟨?_, re_call h.r⟩
  rw [← hk]
  exact pe_callS F hr hg hm hkp hb (fun σ => passAt takes0 σ) h.p hdb he hpl
/-- an expression that may raise -/
structure JX (K : Fr) (X : Cx) (Z : Zc) (e : Expr) (t : TE) (f : DS → Option ((RV × DS) ⊕ (Str × DS))) : Prop where
  p : PE X e t
  r : RX K Z t f
theorem x_call (tk : Takes X Z.W) (hz : Z.mg = X.mg) (d : Dk X.prog X.w K.fr K.tb X.mg X.base k x n g) (hr : Room k X.A) (h : JA K X (e :: es) tl fl) (hg : Gl X x := by rfl) (hdb : (x == ("__debug__" : Str)) = false := by decide) (he : starEach (e :: es) X.env = (false, eval e X.env) :: starEach es X.env := by rfl) (hpl : (backTo pos (starEach es X.env)).any (·.1) = false := by rfl) (hk : X.K = K.fr := by rfl) :
    JX K X Z (.Call (.Name x p) (e :: es) [] pos) (tCallS (spO ⟨K.fr, K.tb, none, n, none⟩ X.mg g) (WE Z.W) tl) (fCallX n g fl) := by
  obtain ⟨f, fd, ps, F, hm, hkp, hb⟩ := d
  rw [← hk] at F hkp hb
  refine ⟨?_, ?_⟩
  · rw [← hk]
    exact pe_callS F hr hg hm hkp hb (fun σ => passAt tk σ) h.p hdb he hpl
  · rw [← hz]; exact rx_call h.r
end
/-! ### statements of such expressions -/
section
variable {K : Kc} {Z : Zc} {t : TE} {f : DS → Option ((RV × DS) ⊕ (Str × DS))}
def fExprX (f : DS → Option ((RV × DS) ⊕ (Str × DS))) (ds : DS) : Option Out := (f ds).map fun r => match r with
  | .inl p => .nx p.2
  | .inr q => .ex q.1 q.2
def exO (r : (RV × DS) ⊕ (Str × DS)) (k : RV × DS → Option Out) : Option Out := match r with
  | .inl p => k p
  | .inr q => some (.ex q.1 q.2)
theorem rs_exprX (h : RX K Z t f) : RS K Z [] (tDrop t) (fExprX f) := by
  intro G H F σ ds o E S e q
  simp only [fExprX, Option.map_eq_some_iff] at e
  obtain ⟨r, e1, e2⟩ := e
  cases r with
  | inl p => cases e2; exact h G H F σ ds _ _ S e1 fun v G1 H1 F1 fp S1 t1 _ _ => q σ G1 H1 F1 S1 t1 (Off.refl _ _)
  | inr p => cases e2; exact h G H F σ ds _ _ S e1 fun C G1 H1 F1 m S1 t1 => q C σ G1 H1 F1 m S1 t1 (Off.refl _ _)
def fSetX (i : Nat) (f : DS → Option ((RV × DS) ⊕ (Str × DS))) (ds : DS) : Option Out := (f ds).bind fun r => match r with
  | .inl p => (match p.1 with
    | .ov o => some (.nx (p.2.set i (some o)))
    | .loc _ => none)
  | .inr q => some (.ex q.1 q.2)
theorem rs_setX {i : Nat} (hi : i < K.n) (hf : K.free i) (h : RX K Z t f) : RS K Z [i] (tAsg t (gName i)) (fSetX i f) := by
  intro G H F σ ds o E S e q
  simp only [fSetX, Option.bind_eq_some_iff] at e
  obtain ⟨r, e1, e2⟩ := e
  cases r with
  | inl p =>
    obtain ⟨rv, d1⟩ := p
    cases rv with
    | ov u => cases e2; exact h G H F σ ds _ _ S e1 fun v G1 H1 F1 fp S1 t1 r1 f1 => q _ G1 H1 _ (S1.put i hi hf r1 f1) (t1.put f1.new) (Off.set i _ σ)
    | loc j => cases e2
  | inr p => cases e2; exact h G H F σ ds _ _ S e1 fun C G1 H1 F1 m S1 t1 => q C σ G1 H1 F1 m S1 t1 (Off.refl _ _)
def fRetX (f : DS → Option ((RV × DS) ⊕ (Str × DS))) (ds : DS) : Option Out := (f ds).bind fun r => match r with
  | .inl p => (mov p.1 p.2).map fun q => .ret q.1 q.2
  | .inr q => some (.ex q.1 q.2)
theorem rs_retX (h : RX K Z t f) : RS K Z [] (tRet t) (fRetX f) := by
  intro G H F σ ds o E S e q
  simp only [fRetX, Option.bind_eq_some_iff] at e
  obtain ⟨r, e1, e2⟩ := e
  cases r with
  | inl p =>
    obtain ⟨rv, d1⟩ := p
    simp only [Option.map_eq_some_iff] at e2
    obtain ⟨⟨o', d2⟩, e3, e4⟩ := e2
    cases e4
    refine h G H F σ ds _ _ S e1 fun v G1 H1 F1 fp S1 t1 r1 f1 => ?_
    obtain ⟨F2, fp2, S2, t2, r2, f2, _⟩ := mov_ok (fq := []) S1 t1 r1 (by rw [List.append_nil]; exact f1) e3
    rw [List.append_nil] at f2
    exact q v σ G1 H1 F2 fp2 S2 t2 (Off.refl _ _) r2 f2
  | inr p => cases e2; exact h G H F σ ds _ _ S e1 fun C G1 H1 F1 m S1 t1 => q C σ G1 H1 F1 m S1 t1 (Off.refl _ _)
def fAsgX (g : D → DS → Option DS) (f : DS → Option ((RV × DS) ⊕ (Str × DS))) (ds : DS) : Option Out := (f ds).bind fun r => match r with
  | .inl p => (frz p.1 p.2).bind fun q => (g q.1 q.2).map fun d => .nx d
  | .inr q => some (.ex q.1 q.2)
theorem rs_asgX {T : List Nat} {g : TG} {fg : D → DS → Option DS} (h : RX K Z t f) (hg : RG K T g fg) : RS K Z T (tAsg t g) (fAsgX fg f) := by
  intro G H F σ ds o E S e q
  simp only [fAsgX, Option.bind_eq_some_iff] at e
  obtain ⟨r, e1, e2⟩ := e
  cases r with
  | inl p =>
    obtain ⟨rv, d1⟩ := p
    simp only [Option.bind_eq_some_iff, Option.map_eq_some_iff] at e2
    obtain ⟨⟨d, d2⟩, e2, d3, e3, e4⟩ := e2
    cases e4
    refine h G H F σ ds _ _ S e1 fun v G1 H1 F1 fp S1 t1 r1 f1 => ?_
    obtain ⟨G2, F2, S2, t2, s2, dd, f2⟩ := frz_ok (fq := []) S1 t1 r1 (by rw [List.append_nil]; exact f1) e2
    exact hg G2 H1 F2 σ d2 v d d3 _ S2 dd e3 fun σ' F' S3 w3 o3 => q σ' G2 H1 F' S3 (t2.reown fun b hb => t2.own b (w3 b hb)) o3
  | inr p => cases e2; exact h G H F σ ds _ _ S e1 fun C G1 H1 F1 m S1 t1 => q C σ G1 H1 F1 m S1 t1 (Off.refl _ _)
/-- raise x(..) -/
def fRaise (x : Str) (ds : DS) : Option Out := some (.ex x ds)
theorem rs_raise {x : Str} {C : Addr} (hx : Z.mg x = some (.ref C)) : RS K Z [] (fun _ σ H => Z.W (.ref C) none σ H) (fRaise x) := by
  intro G H F σ ds o E S e q
  cases e
  exact q C σ G H F hx S (Step.refl _ _ _) (Off.refl _ _)
end
section
variable {K : Kc} {X : Cx} {Z : Zc} {e : Expr} {t : TE} {f : DS → Option ((RV × DS) ⊕ (Str × DS))} {pos p : Pos} {x : Str}
theorem s_exprX (h : JX K X Z e t f) (hs : swapsWith e none pos.line X.env = pure false := by rfl) : JS K X Z [] (.Expr e pos) (tDrop t) (fExprX f) := ⟨ps_expr h.p hs, rs_exprX h.r⟩
theorem s_retX (h : JX K X Z e t f) : JS K X Z [] (.Return (some e) pos) (tRet t) (fRetX f) := ⟨ps_ret h.p, rs_retX h.r⟩
theorem s_setX (i : Nat) {x : Str} {pos' : Pos} (hN : X.N.Nodup) (he : JX K X Z e t f) (hi : X.N[i]? = some x := by rfl) (hx : Loc X.env.scope x := by first | exact Or.inl rfl | exact Or.inr rfl) (hs : swapsWith e (some (.Name x pos')) pos.line X.env = pure false := by rfl) (hf : X.fn x = true ∨ X.env.scope.names.lookup x = some .local := by first | exact .inl rfl | exact .inr rfl | assumption)
    (kin : decide (i < K.n) = true := by rfl) (kif : K.freeB i = true := by rfl) : JS K X Z [i] (.Assign [.Name x pos'] e pos) (tAsg t (gName i)) (fSetX i f) := ⟨ps_set hN hi hx he.p hs hf, rs_setX (of_decide_eq_true kin) (Kc.freeB_ok kif) he.r⟩
theorem s_asgX {tg : Expr} {T : List Nat} {g : TG} {fg : D → DS → Option DS} (he : JX K X Z e t f) (hg : JG K X T tg g fg) (hs : swapsWithSole [tg] e pos.line X.env = pure false := by rfl) (hw : swappedStores [tg] e X.env = pure none := by rfl)
    (h1 : (assignEach [tg] X.env).map (·.2) = [assign tg X.env] := by rfl) : JS K X Z T (.Assign [tg] e pos) (tAsg t g) (fAsgX fg f) := ⟨ps_asg he.p hg.p hs hw h1, rs_asgX he.r hg.r⟩
/-- what the text says of an own class of exceptions (a ValueError's heir without __init__) -/
structure ExT (fr : PySem.W.Frag) (mg : Str → Option Value) (x : Str) (C : Addr) : Prop where
  g : mg x = some (.ref C)
  x : PySem.W.excIn fr C [.type "ValueError", .type "Exception", .type "BaseException", .type "object"] "ValueError.__new__" = true
  k : PySem.W.keepIn fr (.ref C) = true
  b : PySem.W.subIn fr (.ref C) (.type "BaseException") = some true
  t : PySem.W.typeIn fr (.ref C) = some (.type "type")
  i : PySem.W.isClsIn fr C = true
end
end Fx
set_option Elab.async false
set_option linter.all false
set_option maxRecDepth 100000
/-! Gx: raise, try. -/
namespace Fx
open PySem PySem.Spec L2
theorem s_raise {K : Kc} {X : Cx} {Z : Zc} {x m : Str} {j : Nat} {p p2 pos pos' : Pos} {C : Addr} (hc : X.calm = true) (tk : Takes X Z.W) (E : ExT K.fr Z.mg x C) (hz : X.mg = Z.mg := by rfl) (hg : Gl X x := by rfl) (hdb : (x == ("__debug__" : Str)) = false := by decide) (hk : X.K = K.fr := by rfl) :
    JS K X Z [] (.Raise (some (.Call (.Name x p) [.Constant (.str m) j p2] [] pos)) none pos') (fun _ σ H => Z.W (.ref C) none σ H) (fRaise x) := by
  obtain ⟨g1, x1, k1, b1, t1, i1⟩ := E
  refine ⟨?_, rs_raise g1⟩
  rw [← hk] at x1 k1 b1 t1
  exact ps_raise hc tk (pmk_own PySem.F.excBase_ValueError x1 (by rw [hz]; exact g1) k1 (raises_own b1 t1) hg hdb)
section
variable {K : Kc} {Z : Zc}
abbrev Kc.caught (K : Kc) (i : Nat) (a : Addr) : Kc := ⟨K.fr, K.tb, K.ob, K.n, some (i, a)⟩
theorem SI.catch {G H : Hp} {σ : St} {ds : DS} {F : Nat → List Addr} (S : SI K G H σ ds F) {i : Nat} (a : Addr) (hi : i < K.n) (hf : K.free i) : SI (K.caught i a) G H (σ.set i (some (.ref a))) (ds.set i none) (offF F i []) := by
  have S1 := S.shut i hi
  have lt : i < σ.length := by rw [S.sl]; exact hi
  have lt2 : i < ds.length := by rw [S.len]; omega
  refine ⟨S1.sub, S1.gnt, S1.tab, by rw [List.length_set]; exact S1.sl, S1.len, fun j o e => ?_, S1.nod, S1.off, S1.dis, fun o e => ?_, fun p e => ?_⟩
  · by_cases hj : j = i
    · subst hj
      rw [List.getElem?_set_self lt2] at e
      cases e
    · obtain ⟨v, h1, h2⟩ := S1.rep j o e
      exact ⟨v, look_set (K := K) hf hj h1, h2⟩
  · obtain ⟨h1, h2, b, dx, fs, k1, k2, k3⟩ := S1.obj o e
    have ne := Kc.free_ne hf e
    exact ⟨h1, by rw [List.length_set]; exact h2, b, dx, fs, by rw [List.getElem?_set_ne (Ne.symm ne)]; exact k1, k2, k3⟩
  · cases e
    exact ⟨List.getElem?_set_self lt2, List.getElem?_set_self lt⟩
theorem SI.uncatch {G H : Hp} {σ : St} {ds : DS} {F : Nat → List Addr} {i : Nat} {a : Addr} (S : SI (K.caught i a) G H σ ds F) (hf : K.free i) (hx : K.ex = none) : SI K G H (σ.set i none) ds F := by
  have ex := S.exs (i, a) rfl
  refine ⟨S.sub, S.gnt, S.tab, by rw [List.length_set]; exact S.sl, S.len, fun j o e => ?_, S.nod, S.off, S.dis, fun o e => ?_, fun p e => by rw [hx] at e; cases e⟩
  · have hj : j ≠ i := fun z => by subst z; rw [ex.1] at e; cases e
    obtain ⟨v, h1, h2⟩ := S.rep j o e
    exact ⟨v, look_set (K := K) hf hj h1, h2⟩
  · obtain ⟨h1, h2, b, dx, fs, k1, k2, k3⟩ := S.obj o e
    have ne := Kc.free_ne hf e
    exact ⟨h1, by rw [List.length_set]; exact h2, b, dx, fs, by rw [List.getElem?_set_ne (Ne.symm ne)]; exact k1, k2, k3⟩
/-- try: .. except x as slot i: .. ; what is raised is of x itself -/
def fTry (x : Str) (i : Nat) (fb fs : DS → Option Out) (ds : DS) : Option Out := (fb ds).bind fun o => match o with
  | .ex y d => if y = x then (fs (d.set i none)).bind fun o => match o with
    | .ex _ _ => none
    | o => some o else none
  | o => some o
/-- nothing may leave -/
abbrev Zf (mg : Str → Option Value) : Zc := ⟨fun _ _ _ _ => False, mg⟩
theorem Off.end {T T' : List Nat} {i : Nat} {σ σ1 σ2 : St} {v w : Option V} (a : Off T σ σ1) (b : Off T' (σ1.set i v) σ2) : Off (T ++ (i :: T')) σ (σ2.set i w) := by
  refine ⟨by rw [List.length_set, b.1, List.length_set, a.1], fun j hj => ?_⟩
  have h1 : j ∉ T := fun z => hj (List.mem_append_left _ z)
  have h2 : j ≠ i := fun z => hj (List.mem_append_right _ (by simp [z]))
  have h3 : j ∉ T' := fun z => hj (List.mem_append_right _ (List.mem_cons_of_mem _ z))
  rw [List.getElem?_set_ne (Ne.symm h2), b.2 j h3, List.getElem?_set_ne (Ne.symm h2), a.2 j h1]
theorem rs_try {x : Str} {C : Addr} {i : Nat} {T T' : List Nat} {tb : WX → TS} {ts : Addr → TS} {fb fs : DS → Option Out} (hi : i < K.n) (hf : K.free i) (hx0 : K.ex = none) (hC : Z.mg x = some (.ref C)) (he : PySem.W.exmOne K.fr (.ref C) (.ref C) = some true)
    (hb : ∀ W, RS K ⟨W, Z.mg⟩ T (tb W) fb) (hs : ∀ a, RS (K.caught i a) (Zf Z.mg) T' (ts a) fs) :
    RS K Z (T ++ (i :: T')) (fun D σ H => tb (wAs K.fr (.ref C) i (fun a cls d D σ H => (cls = .ref C ∧ d = none) ∧ ts a D σ H) Z.W D) D σ H) (fTry x i fb fs) := by
  intro G H F σ ds o E S e q
  simp only [fTry, Option.bind_eq_some_iff] at e
  obtain ⟨o1, e1, e2⟩ := e
  refine hb _ G H F σ ds o1 E S e1 ?_
  cases o1 with
  | nx d => cases e2; exact fun σ' G' H' F' S' t' f' => q σ' G' H' F' S' t' f'.left
  | bk d => cases e2; exact fun σ' G' H' F' S' t' f' => q σ' G' H' F' S' t' f'.left
  | ct d => cases e2; exact fun σ' G' H' F' S' t' f' => q σ' G' H' F' S' t' f'.left
  | ret r d => cases e2; exact fun v σ' G' H' F' fp S' t' f' => q v σ' G' H' F' fp S' t' f'.left
  | ex y d =>
    simp only at e2
    split at e2
    · rename_i hy
      subst hy
      simp only [Option.bind_eq_some_iff] at e2
      obtain ⟨o2, e3, e4⟩ := e2
      intro C' σ1 G1 H1 F1 m S1 t1 f1
      have hCC : C' = C := by
        have z : Z.mg y = some (.ref C') := m
        rw [hC] at z; cases z; rfl
      subst hCC
      refine ⟨true, he, fun _ a ha => ⟨⟨rfl, rfl⟩, ?_⟩, fun z => nomatch z⟩
      have S2 := S1.catch a hi hf
      have t2 : Step (Wf F) G H G1 H1 (Wf (offF F1 i [])) := t1.reown fun b hb => t1.own b (wf_shut hb)
      refine hs a G1 H1 _ _ _ o2 _ S2 e3 ?_
      cases o2 with
      | ex y' d' => cases e4
      | nx d' => cases e4; exact fun σ' G' H' F' S' t' f' => q _ G' H' F' (S'.uncatch hf hx0) (t2.trans t') (f1.end f')
      | bk d' => cases e4; exact fun σ' G' H' F' S' t' f' => q _ G' H' F' (S'.uncatch hf hx0) (t2.trans t') (f1.end f')
      | ct d' => cases e4; exact fun σ' G' H' F' S' t' f' => q _ G' H' F' (S'.uncatch hf hx0) (t2.trans t') (f1.end f')
      | ret r d' => cases e4; exact fun v σ' G' H' F' fp S' t' f' r' p' => q v _ G' H' F' fp (S'.uncatch hf hx0) (t2.trans t') (f1.end f') r' (p'.since t2)
    · cases e2
end
section
variable {K : Kc} {X : Cx} {Z : Zc} {x n : Str} {C : Addr} {i : Nat} {body suite : List Stmt} {b₀ : Stmt} {np pos pos' : Pos} {T T' : List Nat} {tb : WX → TS} {ts : Addr → TS} {fb fs : DS → Option Out}
/-- what the text says of a class that an except clause names -/
structure CaT (fr : PySem.W.Frag) (mg : Str → Option Value) (x : Str) (C : Addr) : Prop where
  g : mg x = some (.ref C)
  b : PySem.W.subIn fr (.ref C) (.type "BaseException") = some true
  d : PySem.W.hasDictIn fr C = true
  t : PySem.W.typeIn fr (.ref C) = some (.type "type")
  s : PySem.W.subIn fr (.ref C) (.ref C) = some true
theorem CaT.e {fr : PySem.W.Frag} {mg : Str → Option Value} (h : CaT fr mg x C) : PySem.W.exmOne fr (.ref C) (.ref C) = some true := PySem.W.exm_ref h.b h.d h.t h.s
theorem s_tryAs (i : Nat) (tk : Takes X Z.W) (E : CaT K.fr Z.mg x C) (hN : X.N.Nodup)
    (hb : ∀ (W : WX) (pn : List (Addr × Obj)) (xe : Value → Shared → Prop), Takes (X.tr pn xe) W → JB K (X.tr pn xe) ⟨W, Z.mg⟩ T body (tb W) fb)
    (hs : ∀ (a : Addr) (oe : Obj) (pn : List (Addr × Obj)), L2.Zc (.ref C) none oe → (∃ vs, oe.data = .fields vs) → JB (K.caught i a) (X.suite a ((a, oe) :: pn)) (Zf Z.mg) T' (b₀ :: suite) (ts a) fs)
    (hi : X.N[i]? = some n := by rfl) (hln : X.env.kindOf n = some .local := by rfl) (hg : Gl X x := by rfl) (hdb : (x == ("__debug__" : Str)) = false := by decide) (hst : X.stack = X.env :: X.outer := by rfl) (hfr : X.env.frame = some X.env.locals := by rfl) (hz : X.mg = Z.mg := by rfl) (hk : X.K = K.fr := by rfl) (kin : decide (i < K.n) = true := by rfl) (kif : K.freeB i = true := by rfl) (kx : K.ex = none := by rfl) :
    JS K X Z (T ++ (i :: T')) (.Try body [.ExceptHandler (some (.Name x np)) (some n) (b₀ :: suite) pos'] [] [] pos) (fun D σ H => tb (wAs K.fr (.ref C) i (fun a cls d D σ H => (cls = .ref C ∧ d = none) ∧ ts a D σ H) Z.W D) D σ H) (fTry x i fb fs) := by
  obtain ⟨kf, kt, ko, kn, kx'⟩ := K
  subst hk
  have hf : (⟨X.K, kt, ko, kn, kx'⟩ : Kc).free i := Kc.freeB_ok kif
  refine ⟨ps_try_as hst hfr hN hi hln ⟨hg, hdb, .inl (by rw [hz]; exact E.g)⟩ tk (fun W pn xe t _ => (hb W pn xe t).p) fun a oe cls d pn z f => ⟨fun pins s σ H D I h => ?_⟩, rs_try (of_decide_eq_true kin) hf kx E.g E.e (fun W => (hb W [] (fun _ _ => True) fun _ _ _ => trivial).r) fun a => (hs a ⟨.ref C, none, .fields #[], #[]⟩ [] ⟨rfl, rfl⟩ ⟨_, rfl⟩).r⟩
  obtain ⟨⟨rfl, rfl⟩, h⟩ := h
  exact (hs a oe pn z f).p.run pins s σ H D I h
end
end Fx
namespace Fx
open PySem PySem.Spec L2
section
variable {K : Kc} {X : Cx} {Z : Zc} {x n y : Str} {C : Addr} {suite es : List Stmt} {b₀ : Stmt} {np pos pos' : Pos} {T' : List Nat} {ts : Addr → TS} {fs : DS → Option Out} {e : Expr} {as : List Expr} {tl : TA} {fl : DS → Option (List RV × DS)} {cp p sp : Pos} {k m : Nat} {g : DS → Option DR}
/-- try: y(..) except x as n: .. -/
theorem s_tryE (i : Nat) (tk : Takes X Z.W) (E : CaT K.fr Z.mg x C) (hN : X.N.Nodup) (d : Dk X.prog X.w K.fr K.tb X.mg X.base k y m g) (hr : Room k X.A) (h : ∀ (pn : List (Addr × Obj)) (xe : Value → Shared → Prop), JA K (X.tr pn xe) (e :: as) tl fl)
    (hs : ∀ (a : Addr) (oe : Obj) (pn : List (Addr × Obj)), L2.Zc (.ref C) none oe → (∃ vs, oe.data = .fields vs) → JB (K.caught i a) (X.suite a ((a, oe) :: pn)) (Zf Z.mg) T' (b₀ :: suite) (ts a) fs)
    (hi : X.N[i]? = some n := by rfl) (hln : X.env.kindOf n = some .local := by rfl) (hg : Gl X x := by rfl) (hdb : (x == ("__debug__" : Str)) = false := by decide) (hst : X.stack = X.env :: X.outer := by rfl) (hfr : X.env.frame = some X.env.locals := by rfl) (hz : X.mg = Z.mg := by rfl) (hk : X.K = K.fr := by rfl) (kin : decide (i < K.n) = true := by rfl) (kif : K.freeB i = true := by rfl) (kx : K.ex = none := by rfl)
    (hgy : Gl X y := by rfl) (hdy : (y == ("__debug__" : Str)) = false := by decide) (he : starEach (e :: as) X.env = (false, eval e X.env) :: starEach as X.env := by rfl) (hpl : (backTo cp (starEach as X.env)).any (·.1) = false := by rfl) (hsw : swapsWith (.Call (.Name y p) (e :: as) [] cp) none sp.line X.env = pure false := by rfl) :
    JS K X Z ([] ++ (i :: T')) (.Try [.Expr (.Call (.Name y p) (e :: as) [] cp) sp] [.ExceptHandler (some (.Name x np)) (some n) (b₀ :: suite) pos'] [] [] pos) (fun D σ H => tDrop (tCallS (spO ⟨K.fr, K.tb, none, m, none⟩ X.mg g) (WE (wAs K.fr (.ref C) i (fun a cls d D σ H => (cls = .ref C ∧ d = none) ∧ ts a D σ H) Z.W D)) tl) D σ H) (fTry x i (fExprX (fCallX m g fl)) fs) :=
  s_tryAs (tb := fun W => tDrop (tCallS (spO ⟨K.fr, K.tb, none, m, none⟩ X.mg g) (WE W) tl)) i tk E hN (fun W pn xe t => b_one (s_exprX (x_call (X := X.tr pn xe) (Z := ⟨W, Z.mg⟩) t hz.symm d hr (h pn xe) hgy hdy he hpl hk) hsw)) hs hi hln hg hdb hst hfr hz hk kin kif kx
/-- try: return y(..) except x as n: .. -/
theorem s_tryR (i : Nat) (tk : Takes X Z.W) (E : CaT K.fr Z.mg x C) (hN : X.N.Nodup) (d : Dk X.prog X.w K.fr K.tb X.mg X.base k y m g) (hr : Room k X.A) (h : ∀ (pn : List (Addr × Obj)) (xe : Value → Shared → Prop), JA K (X.tr pn xe) (e :: as) tl fl)
    (hs : ∀ (a : Addr) (oe : Obj) (pn : List (Addr × Obj)), L2.Zc (.ref C) none oe → (∃ vs, oe.data = .fields vs) → JB (K.caught i a) (X.suite a ((a, oe) :: pn)) (Zf Z.mg) T' (b₀ :: suite) (ts a) fs)
    (hi : X.N[i]? = some n := by rfl) (hln : X.env.kindOf n = some .local := by rfl) (hg : Gl X x := by rfl) (hdb : (x == ("__debug__" : Str)) = false := by decide) (hst : X.stack = X.env :: X.outer := by rfl) (hfr : X.env.frame = some X.env.locals := by rfl) (hz : X.mg = Z.mg := by rfl) (hk : X.K = K.fr := by rfl) (kin : decide (i < K.n) = true := by rfl) (kif : K.freeB i = true := by rfl) (kx : K.ex = none := by rfl)
    (hgy : Gl X y := by rfl) (hdy : (y == ("__debug__" : Str)) = false := by decide) (he : starEach (e :: as) X.env = (false, eval e X.env) :: starEach as X.env := by rfl) (hpl : (backTo cp (starEach as X.env)).any (·.1) = false := by rfl) :
    JS K X Z ([] ++ (i :: T')) (.Try [.Return (some (.Call (.Name y p) (e :: as) [] cp)) sp] [.ExceptHandler (some (.Name x np)) (some n) (b₀ :: suite) pos'] [] [] pos) (fun D σ H => tRet (tCallS (spO ⟨K.fr, K.tb, none, m, none⟩ X.mg g) (WE (wAs K.fr (.ref C) i (fun a cls d D σ H => (cls = .ref C ∧ d = none) ∧ ts a D σ H) Z.W D)) tl) D σ H) (fTry x i (fRetX (fCallX m g fl)) fs) :=
  s_tryAs (tb := fun W => tRet (tCallS (spO ⟨K.fr, K.tb, none, m, none⟩ X.mg g) (WE W) tl)) i tk E hN (fun W pn xe t => b_one (s_retX (x_call (X := X.tr pn xe) (Z := ⟨W, Z.mg⟩) t hz.symm d hr (h pn xe) hgy hdy he hpl hk))) hs hi hln hg hdb hst hfr hz hk kin kif kx
end
end Fx
set_option Elab.async false
set_option linter.all false
set_option maxRecDepth 100000
/-! Gx: isinstance(e, ..) of a caught exception. -/
namespace Fx
open PySem PySem.Spec L2
theorem re_isE {K : Kc} {i : Nat} {a D : Addr} {v : V} {cv : Value} {b : Bool} (hv : ∀ u, RelV v u → u = cv) (hb : PySem.W.kitOne K.fr (.ref D) cv = some b) : RE (K.caught i a) (tCB (rIsE K.fr D a) (tCons (tVar i) (tCons (tC v) tNil))) (fC (.bool b)) := by
  intro G H F σ ds r ds' Q S e q
  cases e
  refine ⟨.ref a, (S.exs (i, a) rfl).2, v, cv, b, rfl, hv, hb, ?_⟩
  exact q _ G H F [] S (Step.refl _ _ _) ⟨.bl b, rfl⟩ .nil
section
variable {K : Kc} {X : Cx} {a D C : Addr} {oe : Obj} {pn : List (Addr × Obj)} {x n : Str} {p pos p1 p2 : Pos} {i : Nat} {b : Bool}
theorem j_isE (i : Nat) (E : ExcC K.fr D) (hm : X.mg "isinstance" = none) (hz : L2.Zc (.ref D) none oe) (hf : ∃ vs, oe.data = .fields vs) (hx : X.mg x = some (.ref C)) (hb : PySem.W.kitOne K.fr (.ref D) (.ref C) = some b) (hN : X.N[i]? = some n := by rfl) (hv : Vis X.env.scope n := by first | exact Or.inl rfl | exact Or.inr (Or.inl rfl) | exact Or.inr (Or.inr rfl))
    (hd : (n == ("__debug__" : Str)) = false := by decide) (hcd : (n == ("__classdict__" : Str)) = false := by decide) (hg : Gl X "isinstance" := by rfl) (hgx : Gl X x := by rfl) (hd2 : (x == ("__debug__" : Str)) = false := by decide)
    (he : starEach [.Name n p1, .Name x p2] X.env = (false, eval (.Name n p1) X.env) :: starEach [.Name x p2] X.env := by rfl) (he2 : starEach [.Name x p2] X.env = (false, eval (.Name x p2) X.env) :: starEach [] X.env := by rfl) (hpl : (backTo pos (starEach [.Name x p2] X.env)).any (·.1) = false := by rfl) (hk : X.K = K.fr := by rfl) :
    JE (K.caught i a) (X.suite a ((a, oe) :: pn)) (.Call (.Name "isinstance" p) [.Name n p1, .Name x p2] [] pos) (tCB (rIsE K.fr D a) (tCons (tVar i) (tCons (tC (.ref C)) tNil))) (fC (.bool b)) := by
  refine ⟨?_, re_isE (fun u r => r) hb⟩
  rw [← hk] at E ⊢
  exact pe_callB (X := X.suite a ((a, oe) :: pn)) (call_isE E hz hf) hg hm (by decide +kernel) (pa_cons (pe_var hN hv hd hcd) (pa_cons (pe_glob (v := .ref C) hgx hx rfl hd2) pa_nil he2) he) (by decide) (by decide) he hpl
theorem j_isEB (i : Nat) {T : String} (E : ExcC K.fr D) (hm : X.mg "isinstance" = none) (hz : L2.Zc (.ref D) none oe) (hf : ∃ vs, oe.data = .fields vs) (hx : X.mg x = none) (hb : PySem.W.kitOne K.fr (.ref D) (.type T) = some b) (hbt : bootBuiltins x = some (.type T) := by decide +kernel) (hnn : x ≠ "__name__" := by decide) (hN : X.N[i]? = some n := by rfl) (hv : Vis X.env.scope n := by first | exact Or.inl rfl | exact Or.inr (Or.inl rfl) | exact Or.inr (Or.inr rfl))
    (hd : (n == ("__debug__" : Str)) = false := by decide) (hcd : (n == ("__classdict__" : Str)) = false := by decide) (hg : Gl X "isinstance" := by rfl) (hgx : Gl X x := by rfl) (hd2 : (x == ("__debug__" : Str)) = false := by decide)
    (he : starEach [.Name n p1, .Name x p2] X.env = (false, eval (.Name n p1) X.env) :: starEach [.Name x p2] X.env := by rfl) (he2 : starEach [.Name x p2] X.env = (false, eval (.Name x p2) X.env) :: starEach [] X.env := by rfl) (hpl : (backTo pos (starEach [.Name x p2] X.env)).any (·.1) = false := by rfl) (hk : X.K = K.fr := by rfl) :
    JE (K.caught i a) (X.suite a ((a, oe) :: pn)) (.Call (.Name "isinstance" p) [.Name n p1, .Name x p2] [] pos) (tCB (rIsE K.fr D a) (tCons (tVar i) (tCons (tC (.ty T)) tNil))) (fC (.bool b)) := by
  refine ⟨?_, re_isE (fun u r => r) hb⟩
  rw [← hk] at E ⊢
  exact pe_callB (X := X.suite a ((a, oe) :: pn)) (call_isE E hz hf) hg hm (by decide +kernel) (pa_cons (pe_var hN hv hd hcd) (pa_cons (pe_bltn (v := .ty T) hgx hx hbt rfl hnn hd2) pa_nil he2) he) (by decide) (by decide) he hpl
end
end Fx
set_option Elab.async false
set_option linter.all false
set_option maxRecDepth 100000
/-! Gx: // of any size. -/
namespace Fx
open PySem PySem.Spec L2
/-- what a def of the text may lean on: nobody watches the imports -/
structure Bx (P : Program) (base : Heap) : Prop where
  s : base.NoSeer
  t : P.given.tree = none
def StkOk (X : Cx) : Prop := ∃ e l, X.stack = e :: l ∧ e.scope.isGenerator = false ∧ e.scope.isCoroutine = false ∧ e.builtins = builtinsNs ∧ e.globals = mainGlobals
theorem op_fdP {X : Cx} {k : Nat} (B : Bx X.prog X.base) (hr : Room k X.A) (hk : 32 ≤ k) (hst : StkOk X) : OpR X (binaryOp .FloorDiv) (rI (fun _ j => j ≠ 0) fun i j => .int (i.fdiv j)) := by
  intro pins s σ H x y v u Q I rx ry h
  obtain ⟨i, j, rfl, rfl, hc, q⟩ := h
  obtain ⟨t, rfl⟩ := rx
  obtain ⟨t', rfl⟩ := ry
  obtain ⟨e, l, h1, h2, h3, h4, h5⟩ := hst
  have dp := hr.dp
  refine PyProof.Rows.floordiv_int hc ⟨.int (i.fdiv j), H, I.tok _, ⟨_, rfl⟩, q⟩ (.inr (PySem.PylongRoom.of I.nolimit ?_ ?_))
  · show X.A.depth + 100 < recursionLimit
    omega
  · exact PySem.SeerAt.of (B.s.keeps I.bk) B.t (by rw [I.ok.frames, h1]) h2 h3 h4 h5
section
variable {K : Kc} {X : Cx} {a b : Expr} {ta tb : TE} {fa fb : DS → Option (RV × DS)} {pos : Pos} {k : Nat}
theorem j_fdivP (B : Bx X.prog X.base) (hr : Room k X.A) (ha : JE K X a ta fa) (hb : JE K X b tb fb) (hk : 32 ≤ k := by decide) (hst : StkOk X := by exact ⟨_, _, rfl, rfl, rfl, rfl, rfl⟩) : JE K X (.BinOp a .FloorDiv b pos) (tOp (rI (fun _ j => j ≠ 0) fun i j => .int (i.fdiv j)) ta tb) (fOp (gI cNz fun i j => .int (i.fdiv j)) fa fb) :=
  ⟨pe_op (op_fdP B hr hk hst) ha.p hb.p, re_op (vop_I (fun _ _ h => of_decide_eq_true h) fun _ _ => .int _) ha.r hb.r⟩
end
end Fx
set_option Elab.async false
set_option linter.all false
set_option maxRecDepth 100000
/-! Fx: the end of a law's row, where the law's own def calls repr (no call of repr runs around it). -/
namespace Fx
open PySem PySem.Spec L2
/-- the abstract heap in which the script alone is told -/
def scriptH (a : Addr) (us : List Value) (ns : List Int) : Hp := fun c => if c = a then some (.frz { cls := .type "list", data := .seq us.toArray } (.lst (ns.map V.int))) else none
theorem scriptH_at {a : Addr} {us : List Value} {ns : List Int} : scriptH a us ns a = some (.frz { cls := .type "list", data := .seq us.toArray } (.lst (ns.map V.int))) := if_pos rfl
theorem scriptH_off {a c : Addr} {us : List Value} {ns : List Int} (h : c ≠ a) : scriptH a us ns c = none := if_neg h
theorem only_script {a : Addr} {us : List Value} {ns : List Int} : Only (scriptH a us ns) := fun c => by
  by_cases h : c = a
  · subst h; exact .inr ⟨_, _, scriptH_at⟩
  · exact .inl (scriptH_off h)
/-- what a def of the text wants at the law's call -/
theorem law_env {P : Program} {w : World} {K : PySem.W.Frag} {mg mb : Str → Option Value} {a : Addr} {z : Shared} {us : List Value} {ns : List Int} (kin : K.In z.heap) (gl : z.heap.Ns mainGlobals mg) (bl : z.heap.Ns builtinsNs mb)
    (bb : ∀ x : Str, x ≠ "__name__" → mb x = bootBuiltins x) (lim : z.heap.NoLimit) (gens : z.gens = #[]) (ho : z.heap.get? a = some { cls := .type "list", data := .seq us.toArray }) (hi : PyProof.Rows.IntsAre us ns) (small : ns.length ≤ sizeLine) (seer : z.heap.NoSeer) :
    ∃ (H : Hp) (base : Heap), Only H ∧ L2.SqL K H a (ns.map V.int) ∧ K.In base ∧ base.Ns mainGlobals mg ∧ base.NoSeer ∧ Env0 P w K mg base callerA [] z H := by
  have vals := vals_ints hi
  have step : ∀ T : Hp, Only T → L2.SqL K T a (ns.map V.int) → HOk P w T z.heap → (∀ c u, T c = some u → c = a ∧ K.lookup a = none) → ∃ (H : Hp) (base : Heap), Only H ∧ L2.SqL K H a (ns.map V.int) ∧ K.In base ∧ base.Ns mainGlobals mg ∧ base.NoSeer ∧ Env0 P w K mg base callerA [] z H := by
    intro T oT sT okT onlyA
    have out : ∀ {c : Addr}, (∀ u, T c ≠ some u) → T c = none := fun {c} h => by
      rcases some_or (T c) with ⟨u, e⟩ | e
      · exact absurd e (h u)
      · exact e
    have names : ∀ {c : Addr} {m : Str → Option Value}, z.heap.Ns c m → (hidT z.heap T).Ns c m := by
      rintro c m ⟨o, es, ep, e1, e2, e3⟩
      refine ⟨o, es, ep, hidT_get e1 (out fun u e => ?_), e2, e3⟩
      obtain ⟨rfl, _⟩ := onlyA c u e
      rw [ho] at e1
      cases e1
      cases e2
    have inn : K.In (hidT z.heap T) := fun c o e => hidT_get (kin c o e) (out fun u q => by
      obtain ⟨rfl, n⟩ := onlyA c u q
      rw [n] at e
      cases e)
    obtain ⟨mc, l1, l2⟩ := lim
    have see : (hidT z.heap T).NoSeer := by
      obtain ⟨⟨m1, a1, a2⟩, ⟨m2, b1, b2⟩, ⟨m3, c1, c2⟩, ⟨m4, bm, ob, d1, d2, d3, d4, d5⟩⟩ := seer
      refine ⟨⟨m1, names a1, a2⟩, ⟨m2, names b1, b2⟩, ⟨m3, names c1, c2⟩, ⟨m4, bm, ob, names d1, d2, hidT_get d3 (out fun u e => ?_), d4, d5⟩⟩
      obtain ⟨rfl, _⟩ := onlyA bm u e
      rw [ho] at d3
      cases d3
      exact absurd d4 (by simp)
    exact ⟨T, hidT z.heap T, oT, sT, inn, names gl, see, rfl, ⟨inn, names gl, ⟨mb, names bl, bb⟩, mc, names l1, l2⟩, fun c o e => of_hidT e, Nat.le_of_eq (hidT_size _ _), trivial, fun c hc => (nomatch (show c ∈ ([] : List Addr) from hc)), okT, .of_eq gens⟩
  rcases some_or (K.lookup a) with ⟨o, e⟩ | e
  · have e1 := kin a o e
    rw [ho] at e1
    cases e1
    exact step (fun _ => none) (fun _ => .inl rfl) (.inr ⟨_, us.toArray, _, e, rfl, rfl, rfl, by rw [List.size_toArray, hi.length]; exact small, by simpa using vals⟩) (fun _ _ q => nomatch q) fun _ _ q => nomatch q
  · refine step (scriptH a us ns) only_script (.inl (.inr ⟨_, scriptH_at⟩)) (fun c u q => ?_) fun c u q => ?_
    · by_cases h : c = a
      · subst h
        rw [scriptH_at] at q
        cases q
        exact ⟨ho, by rw [List.length_map]; exact small, us, _, vals, ho⟩
      · rw [scriptH_off h] at q; cases q
    · by_cases h : c = a
      · exact ⟨h, e⟩
      · rw [scriptH_off h] at q; cases q
/-- the law's own def: its body at the law's call -/
theorem law_runG {P : Program} {w : World} {K : PySem.W.Frag} {mg : Str → Option Value} {base : Heap} {k : Nat} {x : Str} {st : Stmt} {f a : Addr} {fd : FuncData} {N : List Str} {v : Str} {fb : DS → Option Out} {ns : List Int} {z : Shared} {H : Hp} (F : L2.Fun K x x st f fd) (S : FnScope N [v] (defScope st))
    (bind : ∀ (s : Shared) (u : Value), BindsTo s fd ⟨[u], []⟩ [(v, u)]) (hr : Room (k + 1) callerA) (oH : Only H) (sH : L2.SqL K H a (ns.map V.int)) (env : Env0 P w K mg base callerA [] z H)
    (body : ∀ (cdv : Value) (A : Around) (outer : List Env) (s : Shared) (H : Hp) (E : XK), Room k (A.deeper (PyProof.Rows.envOfC x (defScope st) s.heap.objs.size f cdv)) → (A.deeper (PyProof.Rows.envOfC x (defScope st) s.heap.objs.size f cdv)).guards = some [] →
      ∃ t T, JB ⟨K, [], none, N.length, none⟩ (cxOf CX0 P w K mg base N x (defScope st) f cdv A outer s H E).nox (Zf mg) T (defBody st) t fb) (yes : ∃ d, funO [] 1 N.length fb [some (.sh (.list (ns.map PyData.int)))] = some (.ret (.sh (.bool true)) d)) :
    codeAny (model P w) callerA (.call (.ref f) ⟨[.ref a], []⟩) (fun r s' => r = .ok (.ret (.bool true)) ∧ PySem.OldK z.heap s'.heap ∧ s'.os = z.os ∧ PyProof.Rows.AllBare s'.gens) z := by
  obtain ⟨oc, od, kV, doc, pm, an, cdv, ct, osl, rfl, lk, hcd⟩ := F.ex
  have kin : K.In z.heap := env.mod.kin.keeps fun b o e => (env.bs b o e).1
  have lim : z.heap.NoLimit := env.mod.nolimit.keeps fun b o e => (env.bs b o e).1
  have kinds : ∀ y ∈ [v].zip [Value.ref a], (defScope st).names.lookup y.1 = some .local ∨ ((defScope st).names.lookup y.1 = some .cell ∧ ((cellsFrom (z.heap.objs.size + 1) (defScope st).names []).lookup y.1).isSome = true) := by
    intro y hy
    obtain rfl : y = (v, Value.ref a) := by simpa using hy
    rcases S.par v (by simp) with q | q
    · exact .inl q
    · exact .inr ⟨q, PySem.W.cellsFrom_some _ _ _ (.inl q)⟩
  refine codeAny_call_function hr.depth (kin _ _ lk) rfl S.co S.gen rfl (PySem.W.codeRec_of kin hcd) (bind z (.ref a) _ _ _ _ ?_)
  refine wpAny_newFunctionEnv_cells (binds := [(v, Value.ref a)]) S.kind kinds fun envv he s1 xx => ?_
  subst he
  refine ⟨lim.keeps xx.toInCall.keep, codeAny_func ?_⟩
  obtain ⟨t, T', J⟩ := body cdv callerA [] z H (fun _ _ _ => False) (hr.deeper _) rfl
  have I := inv_start (CX := CX0) (E := fun _ _ _ => False) (vs := [V.ref a]) (us := [Value.ref a]) S hr.hd env rfl (.cons rfl .nil) xx
  have dlist : L2.DpAll K H [V.ref a] [PyData.list (ns.map PyData.int)] := .cons (.lst sH (by
    clear sH yes
    induction ns with
    | nil => exact .nil
    | cons n ns ih => exact .cons (.int n) ih)) .nil
  have hN : [V.ref a].length ≤ N.length := by
    have z := congrArg List.length S.pre
    rw [List.length_take] at z
    simp at z ⊢
    omega
  have rd : t { nx := fun _ _ => False, rt := fun v _ => v = .bl true } (L2.start N [V.ref a]) H := by
    obtain ⟨dd, yes⟩ := yes
    have nt : ∀ b x, H b = some x → NT x := fun b x e => by
      rcases oH b with z | ⟨o, xs, z⟩
      · rw [e] at z; cases z
      · rw [e] at z; cases z
        exact ⟨(fun _ h => nomatch h), (fun _ h => nomatch h)⟩
    have S0 : SI ⟨K, [], none, 1, none⟩ H H ([V.ref a].map some) _ _ := SI.shared (vs := [V.ref a]) (Same.refl H) nt ⟨(fun p hp => (nomatch hp)), (fun b ps e => absurd rfl ((nt b _ e).1 ps))⟩ dlist
    have S1 : SI ⟨K, [], none, N.length, none⟩ H H (L2.start N [V.ref a]) _ _ := S0.pad (K := ⟨K, [], none, 1, none⟩) hN
    unfold funO at yes
    split at yes
    · rename_i o d ho
      cases yes
      exact J.r H H _ _ _ _ _ S1 ho fun v σ' G' H' F' fp sg t1 f1 r1 p1 => by
        have r1 : Dp ⟨K, [], none, N.length, none⟩ G' v (.bool true) := r1.1
        cases r1
        rfl
    · cases yes
    · cases yes
    · cases yes
  refine wpAny_mono (J.p.run [] s1 (L2.start N [V.ref a]) H _ (I.wish _) rd) (fun fl s' hs => ?_) fun e s' hs => hs.elim
  cases fl with
  | next => obtain ⟨_, _, _, q⟩ := hs; exact q.elim
  | brk => obtain ⟨_, _, _, q⟩ := hs; exact q.elim
  | cont => obtain ⟨_, _, _, q⟩ := hs; exact q.elim
  | ret u =>
    obtain ⟨v', σ', H', J', rv, q⟩ := hs
    have q : v' = .bl true := q
    subst q
    obtain rfl : u = Value.bool true := rv
    refine ⟨rfl, PySem.OldK.of_keep fun c o e => ?_, J'.os, J'.bare⟩
    rcases some_or (H c) with ⟨y, h⟩ | h
    · rcases oH c with n | ⟨ob, xs, n⟩
      · rw [h] at n; cases n
      · have later := J'.base.frzs c ob _ n
        obtain ⟨e1, _⟩ := env.hok c _ n
        obtain ⟨e2, _⟩ := J'.hok c _ later
        rw [e] at e1
        cases e1
        exact e2
    · exact J'.base.keep c o e h (by intro z; exact (nomatch (show c ∈ ([] : List Addr) from z))) (by intro z; exact (nomatch (show c ∈ ([] : List Addr) from z)))
/-- the goal that k_head leaves, for such a law -/
theorem walk_G {l : PySem.W.OpenLaw} {n k : Nat} {q : Program} {loose : List Str} {XP : (Str → Option Value) → Heap → Prop} {YP : World → Heap → Prop} {d : DefRec} {K : Params → PySem.W.Frag} {st : Stmt} {N : List Str} {v : Str} {fb : DS → Option Out}
    (hn : l.most = some n) (hn2 : n ≤ sizeLine) (hdf : d.params.defaults = []) (hr : Room (k + 1) callerA) (hY : ∀ (w : World) (h : Heap), YP w h → (K w.params).In h) (hi : PyProof.Rows.importsNone q = true) (ht : l.prog.given.tree = none)
    (F : ∀ (w : World) (mg : Str → Option Value) (fa : Addr) (h : Heap), (K w.params).In h → h.Ns mainGlobals mg → mg d.name = some (.ref fa) →
      ∃ (x : Str) (fd : FuncData), L2.Fun (K w.params) x x st fa fd ∧ (∀ (s : Shared) (u : Value), BindsTo s fd ⟨[u], []⟩ [(v, u)]) ∧
        ∀ base : Heap, (K w.params).In base → base.Ns mainGlobals mg → Bx l.prog base → ∀ (cdv : Value) (A : Around) (outer : List Env) (s : Shared) (H : Hp) (E : XK), Room k (A.deeper (PyProof.Rows.envOfC x (defScope st) s.heap.objs.size fa cdv)) →
          (A.deeper (PyProof.Rows.envOfC x (defScope st) s.heap.objs.size fa cdv)).guards = some [] → ∃ t T, JB ⟨K w.params, [], none, N.length, none⟩ (cxOf CX0 l.prog w (K w.params) mg base N x (defScope st) fa cdv A outer s H E).nox (Zf mg) T (defBody st) t fb)
    (S : FnScope N [v] (defScope st)) (yes : ∀ ns : List Int, ns.length ≤ n → (∀ k ∈ ns, Builtin.Int.intBits k ≤ 1048576) → ∃ d, funO [] 1 N.length fb [some (.sh (.list (ns.map PyData.int)))] = some (.ret (.sh (.bool true)) d)) :
    PySem.W.WalkO q loose XP YP l.row.toRowW d [] (fun f vs => PySem.call f vs) := by
  refine Att.attach_callB hn hdf fun w s₀ z mg mb fa o pm cd doc a us ns G Y ho hd hcd hmg hobj hints hlen hbits hg => ?_
  have KX := hY w _ Y
  obtain ⟨x, fd, FF, bd, body⟩ := F w mg fa _ KX G.T.g hmg
  obtain ⟨H, base, oH, sH, b1, b2, b3, env⟩ := law_env (P := l.prog) (w := w) KX G.T.g G.T.b G.T.builtins G.T.nolimit hg hobj hints (Nat.le_trans hlen hn2) (G.T.seer hi)
  exact law_runG FF S bd hr oH sH env (body base b1 b2 ⟨b3, ht⟩) (yes ns hlen hbits)
end Fx
set_option Elab.async false
set_option linter.all false
set_option maxRecDepth 100000
/-! Fx: a for over an owned list that stays owned: the slot is shut while the loop runs. -/
namespace Fx
open PySem PySem.Spec L2
def back (i : Nat) (l : List D) : Out → Out
  | .nx d => .nx (d.set i (some (.flat l)))
  | .bk d => .bk (d.set i (some (.flat l)))
  | .ct d => .ct (d.set i (some (.flat l)))
  | .ret o d => .ret o (d.set i (some (.flat l)))
  | .ex x d => .ex x (d.set i (some (.flat l)))
def fForB (i : Nat) (g : D → DS → Option DS) (body : DS → Option Out) (ds : DS) : Option Out := match ds[i]? with
  | some (some (.flat l)) => (loopF g body l (ds.set i none)).map (back i l)
  | _ => none
variable {K : Fr} {Z : Zc}
/-- an owned list comes back to its slot -/
theorem SI.open' {G H H0 : Hp} {σ : St} {ds : DS} {F : Nat → List Addr} {W0 : Addr → Prop} {v : V} {o : OV} {fp : List Addr} (S : SI K G H σ ds F) (i : Nat) (hi : i < K.n) (hf : K.free i) (hσ : σ[i]? = some (some v)) (r : Rep K G H v o fp) (f : Fp G H (Wf F) W0 H0 fp) : SI K G H σ (ds.set i (some o)) (offF F i fp) := by
  have e : σ.set i (some v) = σ := by
    refine List.ext_getElem? fun j => ?_
    by_cases hj : i = j
    · subst hj
      rw [hσ]
      exact List.getElem?_set_self (List.getElem?_eq_some_iff.mp hσ).1
    · exact List.getElem?_set_ne hj
  have := S.put i hi hf r f
  rwa [e] at this
theorem rs_forB {i : Nat} (hi : i < K.n) (hf0 : K.free i) {T T' : List Nat} {g : TG} {tb : TS} {fg : D → DS → Option DS} {fb : DS → Option Out} (hn : i ∉ T ++ T') (hg : RG K T g fg) (hb : RS K Z T' tb fb) : RS K Z (T ++ T') (tFor (iList K (tVar i)) g tb) (fForB i fg fb) := by
  intro G0 H0 F0 σ0 ds0 o E S0 e q
  unfold fForB at e
  split at e
  · rename_i l hl
    obtain ⟨a, xs, k1, k2, k3, k4⟩ := slot_flat S0 hi hl
    simp only [Option.map_eq_some_iff] at e
    obtain ⟨o', e1, e2⟩ := e
    refine ⟨.ref a, k1, a, rfl, ⟨xs, SqL.of k2⟩, fun j m σ H => m = l.length - j ∧ j ≤ l.length ∧ ∃ G F ds, SI K G H σ ds F ∧ Step (Wf F0) G0 H0 G H (Wf F) ∧ H a = some (.lst xs) ∧ Same G0 G ∧ Fp G H (Wf F) (Wf F0) H0 [a] ∧ Off (T ++ T') σ0 σ ∧ loopF fg fb (l.drop j) ds = some o',
      ⟨l.length, by simp, Nat.zero_le _, G0, _, _, S0.shut i hi, (Step.refl _ _ _).reown fun b hb => .inl ((wf_off hb).elim id fun z => nomatch z), k2, Same.refl _, ⟨by simp, fun b hb => ?_, fun b hb => ?_⟩, Off.refl _ _, by simpa using e1⟩, ?_⟩
    · obtain rfl : b = a := by simpa using hb
      refine ⟨(S0.off i b (by simp [k4])).1, ⟨_, k2, nt_lst⟩, fun ⟨j, hj⟩ => ?_⟩
      unfold offF at hj
      split at hj
      · cases hj
      · rename_i hji
        exact hji (S0.dis j i b hj (by simp [k4]))
    · obtain rfl : b = a := by simpa using hb
      exact .inl ⟨i, by simp [k4]⟩
    rintro j m σ H ⟨rfl, hj, G, F, ds, S, t, ha, sg, hf, off, hrun⟩
    have hS : SqL K H a xs := SqL.of ha
    by_cases hlt : j < l.length
    · have hlx : j < xs.length := by rw [dpsLen k3]; exact hlt
      refine .inr ⟨⟨xs, xs[j], hS, by simp [hlx]⟩, fun σ' H' => ∃ G F ds, SI K G H' σ' ds F ∧ Step (Wf F0) G0 H0 G H' (Wf F) ∧ H' a = some (.lst xs) ∧ Same G0 G ∧ Fp G H' (Wf F) (Wf F0) H0 [a] ∧ Off (T ++ T') σ0 σ' ∧ loopF fg fb (l.drop (j + 1)) ds = some o',
        fun σ' H' h => ⟨l.length - (j + 1), by omega, rfl, hlt, h⟩, fun x H' y => ?_⟩
      obtain ⟨rfl, y⟩ := y
      have hx := y xs hS
      obtain ⟨d, d1, d2⟩ := dpsGetV k3 hx
      rw [List.drop_eq_getElem_cons hlt] at hrun
      have dl : l[j] = d := by
        rw [List.getElem?_eq_getElem hlt] at d1
        exact Option.some.inj d1
      rw [dl] at hrun
      simp only [loopF, Option.bind_eq_some_iff] at hrun
      obtain ⟨ds2, h1, oo, h2, h3⟩ := hrun
      refine hg G _ F σ ds x d ds2 _ S (dpMono sg _ _ d2) h1 fun σ2 F2 S2 w2 o2 => ?_
      have t2 : Step (Wf F0) G0 H0 G _ (Wf F2) := t.reown fun b hb => t.own b (w2 b hb)
      have hf2 : Fp G _ (Wf F2) (Wf F0) H0 [a] := ⟨hf.nod, fun b hb => ⟨(hf.off b hb).1, (hf.off b hb).2.1, fun z => (hf.off b hb).2.2 (w2 b z)⟩, hf.new⟩
      have off2 := off.trans (o2.left (T' := T'))
      refine hb G _ F2 σ2 ds2 oo _ S2 h2 ?_
      cases oo with
      | nx ds3 => exact fun σ3 G3 H3 F3 S3 t3 f3 => ⟨G3, F3, ds3, S3, t2.trans t3, hf2.keeps t3 a (by simp) _ ha, sg.trans t3.sg, hf2.step t3, off2.trans f3.right, h3⟩
      | ct ds3 => exact fun σ3 G3 H3 F3 S3 t3 f3 => ⟨G3, F3, ds3, S3, t2.trans t3, hf2.keeps t3 a (by simp) _ ha, sg.trans t3.sg, hf2.step t3, off2.trans f3.right, h3⟩
      | bk ds3 =>
        cases h3
        cases e2
        intro σ3 G3 H3 F3 S3 t3 f3
        have o3 := off2.trans f3.right
        have f4 := hf2.step t3
        exact q σ3 G3 H3 _ (S3.open' i hi hf0 ((o3.2 i hn).trans k1) ⟨a, xs, rfl, hf2.keeps t3 a (by simp) _ ha, dpsMono (sg.trans t3.sg) _ _ k3, rfl⟩ f4) ((t2.trans t3).put f4.new) o3
      | ret r ds3 =>
        cases h3
        cases e2
        intro v σ3 G3 H3 F3 fp S3 t3 f3 r3 p3
        have o3 := off2.trans f3.right
        have f4 := hf2.step t3
        have ap := p3.since t2
        have nfp : ∀ b ∈ fp, b ≠ a := fun b hb z => by
          subst z
          rcases p3.new b hb with z | z
          · exact (hf2.off b (by simp)).2.2 z
          · obtain ⟨_, ⟨x, h, _⟩, _⟩ := hf2.off b (by simp)
            rw [z] at h; cases h
        refine q v σ3 G3 H3 _ fp (S3.open' i hi hf0 ((o3.2 i hn).trans k1) ⟨a, xs, rfl, hf2.keeps t3 a (by simp) _ ha, dpsMono (sg.trans t3.sg) _ _ k3, rfl⟩ f4) ((t2.trans t3).put f4.new) o3 r3 ⟨ap.nod, fun b hb => ⟨(ap.off b hb).1, (ap.off b hb).2.1, fun z => ?_⟩, ap.new⟩
        rcases wf_off z with z | z
        · exact (ap.off b hb).2.2 z
        · exact nfp b hb (by simpa using z)
      | ex x ds3 =>
        cases h3
        cases e2
        intro C σ3 G3 H3 F3 m S3 t3 f3
        have o3 := off2.trans f3.right
        have f4 := hf2.step t3
        exact q C σ3 G3 H3 _ m (S3.open' i hi hf0 ((o3.2 i hn).trans k1) ⟨a, xs, rfl, hf2.keeps t3 a (by simp) _ ha, dpsMono (sg.trans t3.sg) _ _ k3, rfl⟩ f4) ((t2.trans t3).put f4.new) o3
    · have ej : j = l.length := by omega
      subst ej
      rw [List.drop_length] at hrun
      cases hrun
      cases e2
      exact .inl ⟨⟨xs, hS, by rw [dpsLen k3]; exact Nat.le_refl _⟩, q σ G H _ (S.open' i hi hf0 ((off.2 i hn).trans k1) ⟨a, xs, rfl, ha, dpsMono sg _ _ k3, rfl⟩ hf) (t.put hf.new) off⟩
  · cases e
section
variable {X : Cx} {tg : Expr} {sts : List Stmt} {ts : TS} {fs : DS → Option Out} {g : TG} {fg : D → DS → Option DS} {T T' : List Nat} {pos p : Pos}
theorem s_forB (i : Nat) {x : Str} (hc : X.calm = true) (hg : JG K X T tg g fg) (hb : JB K X Z T' sts ts fs) (hN : X.N[i]? = some x := by rfl) (hv : Vis X.env.scope x := by first | exact Or.inl rfl | exact Or.inr (Or.inl rfl) | exact Or.inr (Or.inr rfl)) (hd : (x == ("__debug__" : Str)) = false := by decide)
    (hcd : (x == ("__classdict__" : Str)) = false := by decide) (hn : i ∉ T ++ T' := by decide) (hp : PassesOwn (model X.prog X.w) X.A X.env X.xe := by first | exact PassesOwn.never | exact passes_of rfl)
    (hs : ∀ y, foldedSetIterable (.Name x p) X.env y = pure y := by intro _; rfl) (hk : X.K = K.fr := by rfl) (kin : decide (i < K.n) = true := by rfl) (kif : K.freeB i = true := by rfl) : JS K X Z (T ++ T') (.For tg (.Name x p) sts [] pos) (tFor (iList K (tVar i)) g ts) (fForB i fg fs) := by
  obtain ⟨kf, kt, ko, kn, kx⟩ := K
  subst hk
  exact ⟨ps_for hp hc (pi_list (pe_var hN hv hd hcd)) hg.p hb.p hs, rs_forB (of_decide_eq_true kin) (Kc.freeB_ok kif) hn hg.r hb.r⟩
end
end Fx
set_option Elab.async false
set_option linter.all false
set_option maxRecDepth 100000
/-! Fx: x[i] op= e, where x holds a list that it owns -/
namespace Fx
open PySem PySem.Spec L2
variable {X : Cx}
theorem pget_list : PGet X (L2.rIxL X.K) := by
  intro pins s σ H o i ov iv Q I rx ry h
  obtain ⟨p, xs, i, z, rfl, rfl, hq, he, q⟩ := h
  cases rx
  obtain ⟨t, rfl⟩ := ry
  obtain ⟨its, r, pl, hz⟩ := I.list hq
  obtain ⟨j, h1, h2, h3, h4, h5⟩ := atI_get he
  obtain ⟨w, ew, rw'⟩ := r.get h2
  have hl := r.length
  have hn := line63
  have fin : EP X pins σ Q w s := ⟨z, H, I, rw', q⟩
  by_cases h0 : 0 ≤ i
  · have hj : i.toNat = j := by
      rw [seqIndex_of h0 h5] at h1
      exact Option.some.inj h1
    exact wpAny_getItem_list pl.isList h0 (by omega) (by rw [hj]; simpa using ew) fin
  · have hj : (i + (its.toArray.size : Int)).toNat = j := by
      rw [seqIndex_neg (by omega) h4] at h1
      rw [List.size_toArray, ← hl]
      exact Option.some.inj h1
    exact wpAny_getItem_list_neg pl.isList (by omega) (by rw [List.size_toArray] <;> omega) (by omega) (by rw [hj]; simpa using ew) fin
def fAugIx (i : Nat) (g : Int → Int → Int) (f fk : DS → Option (RV × DS)) (ds : DS) : Option Out := match ds[i]? with
  | some (some (.flat _)) => (fk ds).bind fun w => match see w.1 w.2, w.2[i]? with
    | some (.int k), some (some (.flat l)) => match atI l k with
      | some (.int a) => (f w.2).bind fun p => match see p.1 p.2, p.2[i]? with
        | some (.int b), some (some (.flat m)) => (ixN m.length k).map fun j => .nx (p.2.set i (some (.flat (m.set j (.int (g a b))))))
        | _, _ => none
      | _ => none
    | _, _ => none
  | _ => none
variable {K : Fr} {Z : Zc}
theorem rs_augIx {i : Nat} (hi : i < K.n) {g : Int → Int → Int} {t tk : TE} {f fk : DS → Option (RV × DS)} (h : RE K t f) (hk : RE K tk fk) : RS K Z [] (tAugS (tVar i) tk t (rIxL K) (ipI g) rSetL) (fAugIx i g f fk) := by
  intro G H F σ ds o E S e q
  unfold fAugIx at e
  split at e
  · rename_i l0 hl0
    simp only [Option.bind_eq_some_iff] at e
    obtain ⟨⟨rk, d2⟩, e1, e2⟩ := e
    split at e2
    · rename_i k l hk' hl
      split at e2
      · rename_i a ha
        simp only [Option.bind_eq_some_iff] at e2
        obtain ⟨⟨rv, d3⟩, e3, e4⟩ := e2
        split at e4
        · rename_i b m hb hm
          simp only [Option.map_eq_some_iff] at e4
          obtain ⟨j, e5, e6⟩ := e4
          cases e6
          obtain ⟨a0, xs0, k1, k2, k3, k4⟩ := slot_flat S hi hl0
          refine ⟨.ref a0, k1, ?_⟩
          refine hk G H F σ ds rk d2 _ S e1 fun vk G2 H2 F2 fp2 S2 t2 r2 f2 => ?_
          have xk := see_ok S2 r2 hk'
          cases xk
          obtain ⟨a1, xs1, m1, m2, m3, m4⟩ := slot_flat S2 hi hl
          rw [k1] at m1
          cases m1
          obtain ⟨v, v1, v2⟩ := atI_dp m3 ha
          cases v2
          refine ⟨a0, xs1, k, _, rfl, rfl, SqL.of m2, v1, ?_⟩
          refine h G2 H2 F2 σ d2 rv d3 _ S2 e3 fun vb G3 H3 F3 fp3 S3 t3 r3 f3 => ?_
          have xb := see_ok S3 r3 hb
          cases xb
          obtain ⟨a2, xs2, n1, n2, n3, n4⟩ := slot_flat S3 hi hm
          rw [k1] at n1
          cases n1
          refine ⟨a, b, rfl, rfl, a0, xs2, k, j, rfl, rfl, n2, by rw [dpsLen n3]; exact e5, ?_⟩
          have t23 := t2.trans t3
          exact q σ G3 _ F3 (S3.change (H0 := H) hm (.inl k1) n2 n4 (dpsSet (.int _) j n3)) (t23.poke (t23.own a0 ⟨i, by simp [n4]⟩)) (Off.refl _ _)
        · cases e4
      · cases e2
    · cases e2
  · cases e
variable {e k : Expr} {te tk : TE} {fe fk : DS → Option (RV × DS)} {pos : Pos}
theorem s_augIx (i : Nat) {x : Str} {p1 p2 : Pos} {op : Operator} {g : Int → Int → Int} (ho : PIp X op (ipI g)) (he : JE K X e te fe) (hk : JE K X k tk fk) (hN : X.N[i]? = some x := by rfl) (hv : Vis X.env.scope x := by first | exact Or.inl rfl | exact Or.inr (Or.inl rfl) | exact Or.inr (Or.inr rfl)) (hd : (x == ("__debug__" : Str)) = false := by decide) (hcd : (x == ("__classdict__" : Str)) = false := by decide)
    (ha : ∀ ov iv new, augStore k ov iv new = (do holding [new, ov, iv] (setItem ov iv new); release [new, ov, iv] []; pure .next) := by intros; rfl) (hK : X.K = K.fr := by rfl) (kin : decide (i < K.n) = true := by rfl) :
    JS K X Z [] (.AugAssign (.Subscript (.Name x p1) k p2) op e pos) (tAugS (tVar i) tk te (rIxL K) (ipI g) rSetL) (fAugIx i g fe fk) := by
  obtain ⟨kf, kt, ko, kn, kx⟩ := K
  subst hK
  exact ⟨ps_augS (pe_var hN hv hd hcd) hk.p pget_list he.p ho set_list ha, rs_augIx (of_decide_eq_true kin) he.r hk.r⟩
/-! a target that unpacks a list -/
def fgLst (n : Nat) (g : List D → DS → Option DS) (d : D) (ds : DS) : Option DS := match d with
  | .list l => if l.length = n then g l ds else none
  | _ => none
theorem rg_lst {T : List Nat} {n : Nat} {t : TGs} {g : List D → DS → Option DS} (h : RGs K T t g) : RG K T (gLst K n t) (fgLst n g) := by
  intro G H F σ ds v d ds' Q S hd e q
  cases hd with
  | lst h1 h2 =>
    simp only [fgLst] at e
    split at e
    · rename_i hn
      exact ⟨_, _, rfl, S.sub.seq h1, by rw [dpsLen h2]; exact hn, h G H F σ ds _ _ ds' Q S h2 e q⟩
    · cases e
  | _ => cases e
theorem g_lst {T : List Nat} {es : List Expr} {gs : TGs} {fgs : List D → DS → Option DS} {k n : Nat} (hc : X.calm = true) (h : JGs K X T es gs fgs) (hn : (assignEach es X.env).length = n := by rfl) (hst : (assignEach es X.env).findIdx? (·.1) = none := by rfl) (hk : X.K = K.fr := by rfl) : JG K X T (.Tuple es k pos) (gLst K n gs) (fgLst n fgs) := by
  obtain ⟨kf, kt, ko, kn, kx⟩ := K
  subst hk
  exact ⟨pg_lst hc h.p hn hst, rg_lst h.r⟩
@[simp] theorem fgLst_c {n : Nat} {g : List D → DS → Option DS} {l : List D} {x0 : Option OV} {l0 : DS} : fgLst n g (.list l) (x0 :: l0) = if l.length = n then g l (x0 :: l0) else none := rfl
end Fx
set_option Elab.async false
set_option linter.all false
set_option maxRecDepth 100000
set_option maxHeartbeats 4000000
/-! Gx: sorted(xs, key=f), f called in the frame of the text's def. -/
namespace Fx
open PySem PySem.Spec L2 PySem.W PyProof.Rows
/-- f is called for each item, one after the other; the keys are ints -/
def KR (c1 : V → Hp → VK → Prop) : List V → List Int → Hp → (List Int → Hp → Prop) → Prop
  | [], acc, H, R => R acc H
  | x :: xs, acc, H, R => c1 x H fun v H' => ∃ k, v = V.int k ∧ KR c1 xs (acc ++ [k]) H' R
/-- ys are the xs by their keys -/
def SortedBy (ks : List Int) (xs ys : List V) : Prop := ∃ qs : List (Int × V), qs.Perm (ks.zip xs) ∧ ys = qs.map Prod.snd ∧ qs.Pairwise fun p q => p.1 ≤ q.1
theorem perm_lift {α β : Type} {f : α → β} : ∀ {p q : List β}, p.Perm q → ∀ l : List α, q = l.map f → ∃ l' : List α, l'.Perm l ∧ l'.map f = p := by
  intro p q h
  induction h with
  | nil => intro l e; cases l with
    | nil => exact ⟨[], .nil, rfl⟩
    | cons a l => cases e
  | cons x h ih =>
    intro l e
    cases l with
    | nil => cases e
    | cons a l =>
      rw [List.map_cons] at e
      injection e with e1 e2
      obtain ⟨l', h1, h2⟩ := ih l e2
      exact ⟨a :: l', h1.cons a, by rw [List.map_cons, h2, e1]⟩
  | swap x y l0 =>
    intro l e
    cases l with
    | nil => cases e
    | cons a l =>
      cases l with
      | nil => cases e
      | cons b l =>
        rw [List.map_cons, List.map_cons] at e
        injection e with e1 e2
        injection e2 with e2 e3
        exact ⟨b :: a :: l, .swap a b l, by rw [List.map_cons, List.map_cons, e1, e2, e3]⟩
  | trans h1 h2 ih1 ih2 =>
    intro l e
    obtain ⟨l1, a1, a2⟩ := ih2 l e
    obtain ⟨l2, b1, b2⟩ := ih1 l1 a2.symm
    exact ⟨l2, b1.trans a1, b2⟩
theorem vals_trip : ∀ l : List (Int × (Value × V)), (∀ t ∈ l, RelV t.2.2 t.2.1) → Vals (l.map fun t => t.2.2) (l.map fun t => t.2.1)
  | [], _ => .nil
  | t :: l, h => .cons (h t (by simp)) (vals_trip l fun u hu => h u (by simp [hu]))
theorem vals_zip : ∀ {xs : List V} {vs : List Value}, Vals xs vs → ∀ p ∈ vs.zip xs, RelV p.2 p.1
  | _, _, .nil, p, h => by simp at h
  | _, _, .cons a t, p, h => by
    rw [List.zip_cons_cons] at h
    rcases List.mem_cons.mp h with rfl | h
    · exact a
    · exact vals_zip t p h
theorem sorted_vals {ks : List Int} {xs : List V} {vs out : List Value} (rv : Vals xs vs) (h : KskOut false ks vs out) (hl : ks.length = vs.length) : ∃ ys, SortedBy ks xs ys ∧ Vals ys out ∧ ys.length = xs.length := by
  obtain ⟨ps, h1, rfl, h3⟩ := h
  have e : ks.zip vs = (ks.zip (vs.zip xs)).map fun t => (t.1, t.2.1) := by
    have lx := rv.length
    refine List.ext_getElem (by simp; omega) fun i a1 a2 => ?_
    simp
  obtain ⟨l', p1, p2⟩ := perm_lift h1 _ e
  have mem : ∀ t ∈ l', RelV t.2.2 t.2.1 := fun t ht => vals_zip rv _ (List.of_mem_zip (p1.mem_iff.mp ht)).2
  have lx := rv.length
  refine ⟨l'.map fun t => t.2.2, ⟨l'.map fun t => (t.1, t.2.2), ?_, by rw [List.map_map]; rfl, ?_⟩, ?_, ?_⟩
  · have e2 : ks.zip xs = (ks.zip (vs.zip xs)).map fun t => (t.1, t.2.2) := by
      refine List.ext_getElem (by simp; omega) fun i a1 a2 => ?_
      simp
    rw [e2]
    exact p1.map _
  · rw [← p2, List.pairwise_map] at h3
    rw [List.pairwise_map]
    refine h3.imp fun {a b} q => ?_
    simpa using q
  · rw [← p2, List.map_map]
    exact vals_trip l' mem
  · rw [List.length_map, p1.length_eq]
    simp
    omega
section
variable {X : Cx} {pins : List (Addr × Obj)} {σ : L2.St} {H : Hp} {s : Shared} {A : Around} {E : Value → Shared → Prop} {P : PySem.Fin → Shared → Prop} {a kS : Addr} {e e1 : Nat} {keys : Array Value} {xs : List V} {vs : List Value} {ks : List Int}
theorem sk_tail {st : SortSt} (I : Inv X ((kS, seqObj "list" keys e) :: (a, seqObj "list" #[] e1) :: pins) σ H s) (fa : FpOk X pins H a) (fk : FpOk X pins H kS) (hka : kS ≠ a)
    (hk : IntsAre keys.toList ks) (hlen : ks.length = vs.length) (h64 : vs.length < 64) (rv : Vals xs vs) (hp : (arrOf st).Perm (keys.zip vs.toArray)) (hs : SortedTo (arrOf st) (arrOf st).size) (hfl : failedOf st = none)
    (h : ∀ ys s', SortedBy ks xs ys → Inv X pins σ (upd H a (.lst ys)) s' → P (.done (.ret .none)) s') : wpAny (model X.prog X.w) A (ksk_tail a false e1 (.ref kS) st) P E s := by
  have nk := (I.pin (kS, seqObj "list" keys e) (List.mem_append_right _ (.head _))).1
  have na := (I.pin (a, seqObj "list" #[] e1) (List.mem_append_right _ (.tail _ (.head _)))).1
  have I0 : Inv X pins σ H s := I.pins_of fun p hp => I.pin p (List.mem_append_right _ (.tail _ (.tail _ hp)))
  have hsz : keys.size = vs.length := by
    have h1 := hk.length
    rw [Array.length_toList] at h1
    omega
  have hsz2 : (arrOf st).size = vs.length := by rw [hp.size_eq, Array.size_zip, hsz, List.size_toArray, Nat.min_self]
  have out := ksk_out (b := false) hk hp hs
  simp only [Bool.false_eq_true, if_false] at out
  obtain ⟨ys, y1, y2, y3⟩ := sorted_vals rv out hlen
  have na1 : (s.heap.update kS (Obj.mapSeq fun _ => (#[] : Array Value))).get? a = some (seqObj "list" #[] e1) := ((Heap.SameBut.update s.heap kS _).2 a hka.symm).trans na
  unfold ksk_tail
  try dsimp only
  refine wpAny_bind (listUpdate_at nk rfl ?_ (by rw [hsz, sizeLine_eq]; omega) (Nat.zero_le _))
  refine wpAny_bind (wpAny_letGo ?_)
  refine wpAny_bind (seqEpoch_at na1 rfl ?_)
  refine wpAny_bind (listUpdate_at na1 rfl ?_ (Nat.zero_le _) (by simp only [Bool.false_eq_true, if_false, Array.size_map]; rw [hsz2, sizeLine_eq]; omega))
  rw [hfl]
  simp only [bne_self_eq_false, Bool.false_eq_true, if_false]
  obtain ⟨fk1, fk2, fk3, fk4, fk5, fk6⟩ := fk
  have I1 : Inv X pins σ H { s with heap := s.heap.update kS (Obj.mapSeq fun _ => (#[] : Array Value)), toks := s.toks } := I0.turned (it := kS) (fun b o hb e => ((Heap.SameBut.update s.heap kS _).2 b hb).trans e) fk1 fk2 fk4 fk5 fk6
  obtain ⟨c2, hc2⟩ : ∃ c2, ((s.heap.update kS (Obj.mapSeq fun _ => (#[] : Array Value))).update a (Obj.mapSeq fun _ => (arrOf st).map (·.2))).get? a = some (seqObj "list" ((arrOf st).map (·.2)) c2) := ⟨_, get?_update_seq na1 fun _ => (arrOf st).map (·.2)⟩
  have I2 := I1.take (t' := s.toks) (it := a) (o := .lst ys) (h' := (s.heap.update kS (Obj.mapSeq fun _ => (#[] : Array Value))).update a (Obj.mapSeq fun _ => (arrOf st).map (·.2))) (fun b o hb e => ((Heap.SameBut.update _ a _).2 b hb).trans e) fa
    ⟨by rw [y3, rv.length, sizeLine_eq]; omega, ((arrOf st).map (·.2)).toList, c2, y2, by rw [hc2]⟩
  exact wpAny_pure (h ys _ y1 I2)
theorem sk_end (I : Inv X ((kS, seqObj "list" keys e) :: (a, seqObj "list" #[] e1) :: pins) σ H s) (fa : FpOk X pins H a) (fk : FpOk X pins H kS) (hka : kS ≠ a)
    (hk : IntsAre keys.toList ks) (hlen : ks.length = vs.length) (h64 : vs.length < 64) (rv : Vals xs vs)
    (h : ∀ ys s', SortedBy ks xs ys → Inv X pins σ (upd H a (.lst ys)) s' → P (.done (.ret .none)) s') : wpAny (model X.prog X.w) A (ksk_end a false vs.toArray e1 (.ref kS) keys) P E s := by
  have hsz : keys.size = vs.length := by
    have h1 := hk.length
    rw [Array.length_toList] at h1
    omega
  have hzs : (keys.zip vs.toArray).size = vs.length := by rw [Array.size_zip, hsz, List.size_toArray, Nat.min_self]
  unfold ksk_end
  try dsimp only
  rw [if_neg Bool.false_ne_true, if_neg Bool.false_ne_true]
  by_cases h2 : vs.toArray.size < 2
  · rw [if_pos h2, if_pos h2]
    refine wpAny_bind (wpAny_pure ?_)
    rw [StateT.run_pure]
    refine wpAny_bind (wpAny_pure ?_)
    try dsimp only
    refine sk_tail (st := SortSt.mk' general' (keys.zip vs.toArray) #[] 7 none) I fa fk hka hk hlen h64 rv (Array.Perm.refl _) ?_ rfl h
    intro i j hij hj
    have hj2 : j < (keys.zip vs.toArray).size := hj
    rw [hzs] at hj2
    rw [List.size_toArray] at h2
    have : i = j := by omega
    subst this
    exact Int.le_refl _
  · rw [if_neg h2, if_neg h2]
    rw [List.size_toArray] at h2
    rw [ksk_kind hk (by rw [hsz]; omega)]
    refine wpAny_bind (wpAny_pure ?_)
    refine wpAny_bind (wpAny_mono (wpS_sortRuns (a₀ := keys.zip vs.toArray) (st := SortSt.mk' oneType' (keys.zip vs.toArray) #[] 7 none)
      (Q := fun _ st' => (arrOf st').Perm (keys.zip vs.toArray) ∧ failedOf st' = none ∧ SortedTo (arrOf st') (keys.zip vs.toArray).size)
      (ksk_intKeys hk) ⟨Array.Perm.refl _, rfl, rfl, rfl⟩ (by rw [hzs]; omega) (by rw [hzs]; exact h64) fun st' a1 a2 a3 => ⟨a1, a2, a3⟩) ?_ fun _ _ e => e)
    rintro ⟨⟨⟩, st'⟩ s' ⟨rfl, hp, hf, hs⟩
    try dsimp only
    exact sk_tail I fa fk hka hk hlen h64 rv hp (by rw [hp.size_eq]; exact hs) hf h
theorem sk_rest {f : Value} {c1 : V → Hp → VK → Prop} {R : List Int → Hp → Prop} (hc : ∀ (ex : List (Addr × Obj)) (s : Shared) (H : Hp) (x : V) (u : Value) (Q : VK), Inv X (ex ++ pins) σ H s → RelV x u → c1 x H Q → wpAny (model X.prog X.w) A (call f [u]) (EP X (ex ++ pins) σ Q) (fun _ _ => False) s)
    (I : Inv X ((kS, seqObj "list" #[] 0) :: (a, seqObj "list" #[] e1) :: pins) σ H s) (fa : FpOk X pins H a) (fk : FpOk X pins H kS) (hka : kS ≠ a) (h64 : vs.length < 64) (rv : Vals xs vs) (run : KR c1 xs [] H R)
    (h : ∀ ks H' ys s', R ks H' → ks.length = xs.length → SortedBy ks xs ys → H' a = none → Inv X pins σ (upd H' a (.lst ys)) s' → P (.done (.ret .none)) s') : wpAny (model X.prog X.w) A (ksk_rest a f false vs.toArray e1 (.ref kS)) P E s := by
  have lx := rv.length
  obtain ⟨fa1, fa2, fa3, fa4, fa5, fa6⟩ := fa
  obtain ⟨fk1, fk2, fk3, fk4, fk5, fk6⟩ := fk
  unfold ksk_rest
  refine wpAny_bind (wpAny_rule ?_)
  first
    | rw [List.forIn_toArray]
    | (rw [← Array.forIn_toList]; simp only [List.toList_toArray])
    | rw [← Array.forIn_toList]
  refine wpAny_bind (ksk_fold (fun i s' => ∃ H' kA e ns, Inv X ((kS, seqObj "list" kA e) :: (a, seqObj "list" #[] e1) :: pins) σ H' s' ∧ ns.length = i ∧ IntsAre kA.toList ns ∧ KR c1 (xs.drop i) ns H' R) vs 0 s
    ⟨H, #[], 0, [], I, rfl, by simpa using IntsAre.nil, run⟩ ?step ?done)
  case step =>
    rintro j u s' hu ⟨H', kA, e, ns, I', hn, hk, hr⟩
    simp only [Nat.zero_add] at hn hr ⊢
    have hj : j < vs.length := (List.getElem?_eq_some_iff.mp hu).1
    have hjx : j < xs.length := by omega
    obtain ⟨w, w1, w2⟩ := rv.get (i := j) (x := xs[j]) (by simp [hjx])
    rw [hu] at w1
    cases w1
    rw [List.drop_eq_getElem_cons hjx] at hr
    refine wpAny_bind (wpAny_attempt (wpAny_mono (hc [(kS, seqObj "list" kA e), (a, seqObj "list" #[] e1)] s' H' xs[j] u _ I' w2 hr) (fun v s'' he => ?_) fun _ _ hF => hF.elim))
    obtain ⟨z, H1, I1, rz, k, rfl, hr1⟩ := he
    obtain ⟨t, rfl⟩ := rz
    try dsimp only
    have nk := (I1.pin (kS, seqObj "list" kA e) (List.mem_append_right _ (.head _)))
    have na := (I1.pin (a, seqObj "list" #[] e1) (List.mem_append_right _ (.tail _ (.head _))))
    have hz : kA.size = ns.length := by
      have h1 := hk.length
      rwa [Array.length_toList] at h1
    refine wpAny_bind (listUpdate_at nk.1 rfl ?_ (by rw [hz, hn, sizeLine_eq]; omega) (Nat.le_trans (Nat.le_of_eq (Array.size_push ..)) (by rw [hz, hn, sizeLine_eq]; omega)))
    obtain ⟨c2, hc2⟩ : ∃ c2, (s''.heap.update kS (Obj.mapSeq (·.push (.int k t)))).get? kS = some (seqObj "list" (kA.push (.int k t)) c2) := ⟨_, get?_update_seq nk.1 (·.push (.int k t))⟩
    have I2 : Inv X ((a, seqObj "list" #[] e1) :: pins) σ H1 s'' := I1.pins_of fun p hp => I1.pin p (List.mem_append_right _ (.tail _ hp))
    have I3 : Inv X ((a, seqObj "list" #[] e1) :: pins) σ H1 { s'' with heap := s''.heap.update kS (Obj.mapSeq (·.push (.int k t))), toks := s''.toks } := I2.turned (it := kS) (fun b o hb e => ((Heap.SameBut.update s''.heap kS _).2 b hb).trans e) nk.2.1 fk2 fk4 fk5 (fun p hp => by
      rcases List.mem_append.mp hp with hp | hp
      · exact fk6 p (List.mem_append_left _ hp)
      · rcases List.mem_cons.mp hp with rfl | hp
        · exact hka.symm
        · exact fk6 p (List.mem_append_right _ hp))
    have ea : (kA.push (Value.int k t)).toList = kA.toList ++ [Value.int k t] := by simp
    refine wpAny_pure ⟨rfl, H1, kA.push (.int k t), c2, ns ++ [k], I3.pins_of fun p hp => ?_, by simp [hn], by rw [ea]; exact ksk_snoc hk, hr1⟩
    rcases List.mem_cons.mp hp with rfl | hp
    · exact ⟨hc2, nk.2.1, nk.2.2.1, nk.2.2.2.1, fun v z => by cases z⟩
    · exact I3.pin p (List.mem_append_right _ hp)
  case done =>
    rintro s' ⟨H', kA, e, ns, I', hn, hk, hr⟩
    rw [Nat.zero_add] at hn hr
    rw [List.drop_of_length_le (by omega)] at hr
    have nk := (I'.pin (kS, seqObj "list" kA e) (List.mem_append_right _ (.head _)))
    have na := (I'.pin (a, seqObj "list" #[] e1) (List.mem_append_right _ (.tail _ (.head _))))
    try dsimp only
    refine wpAny_bind (listItems_at nk.1 rfl ?_)
    exact sk_end I' ⟨na.2.1, fa2, fa3, fa4, fa5, fa6⟩ ⟨nk.2.1, fk2, fk3, fk4, fk5, fk6⟩ hka hk (by omega) h64 rv fun ys s3 y1 I3 => h ns H' ys s3 hr (by omega) y1 na.2.1 I3
end
end Fx
set_option Elab.async false
set_option linter.all false
set_option maxRecDepth 100000
set_option maxHeartbeats 4000000
/-! Gx: sorted(xs, key=f): the built-in. -/
namespace Fx
open PySem PySem.Spec L2 PySem.W PyProof.Rows
section
variable {X : Cx} {pins : List (Addr × Obj)} {σ : L2.St} {H : Hp} {s : Shared} {A : Around} {E : Value → Shared → Prop} {a : Addr} {xs : List V} {vs : List Value}
theorem sk_sort {f : Value} {n : Nat} {P : PySem.Fin → Shared → Prop} {c1 : V → Hp → VK → Prop} {R : List Int → Hp → Prop} (hc : ∀ (ex : List (Addr × Obj)) (s : Shared) (H : Hp) (x : V) (u : Value) (Q : VK), Inv X (ex ++ pins) σ H s → RelV x u → c1 x H Q → wpAny (model X.prog X.w) A (call f [u]) (EP X (ex ++ pins) σ Q) (fun _ _ => False) s)
    (I : Inv X pins σ H s) (oa : s.heap.get? a = some (seqObj "list" vs.toArray n)) (fa : FpOk X pins H a) (h64 : vs.length < 64) (rv : Vals xs vs) (run : KR c1 xs [] H R)
    (h : ∀ ks H' ys s', R ks H' → ks.length = xs.length → SortedBy ks xs ys → H' a = none → Inv X pins σ (upd H' a (.lst ys)) s' → P (.done (.ret .none)) s') : wpAny (model X.prog X.w) A (ksk_tree a f false) P E s := by
  have ha : a < s.heap.objs.size := Heap.lt_size oa
  obtain ⟨fa1, fa2, fa3, fa4, fa5, fa6⟩ := id fa
  obtain ⟨e1, ho1⟩ : ∃ e1, (s.heap.update a (Obj.mapSeq fun _ => (#[] : Array Value))).get? a = some (seqObj "list" #[] e1) := ⟨_, get?_update_seq oa fun _ => #[]⟩
  have I1 : Inv X pins σ H { s with heap := s.heap.update a (Obj.mapSeq fun _ => (#[] : Array Value)), toks := s.toks } := I.turned (it := a) (fun b o hb e => ((Heap.SameBut.update s.heap a _).2 b hb).trans e) fa1 fa2 fa4 fa5 fa6
  have hkS : ((s.heap.update a (Obj.mapSeq fun _ => (#[] : Array Value))).push (seqObj "tuple" vs.toArray 0)).objs.size = s.heap.objs.size + 1 := by rw [size_push', Heap.size_update]
  unfold ksk_tree
  refine wpAny_bind (listItems_at oa rfl ?_)
  refine wpAny_bind (listUpdate_at oa rfl ?_ (by rw [List.size_toArray, sizeLine_eq]; omega) (Nat.zero_le _))
  refine wpAny_bind (seqEpoch_at ho1 rfl ?_)
  refine wpAny_bind (wpAny_newTuple ?_ (by show vs.length ≤ _; rw [sizeLine_eq]; omega))
  refine wpAny_bind (wpAny_newList ?_ (Nat.zero_le _))
  refine wpAny_holding ?_
  have kp : ∀ b o, (s.heap.update a (Obj.mapSeq fun _ => (#[] : Array Value))).get? b = some o → (((s.heap.update a (Obj.mapSeq fun _ => (#[] : Array Value))).push (seqObj "tuple" vs.toArray 0)).push (seqObj "list" #[] 0)).get? b = some o := fun b o e => Heap.get?_push_of_some _ (Heap.get?_push_of_some _ e)
  have I2 : Inv X pins σ H { s with heap := ((s.heap.update a (Obj.mapSeq fun _ => (#[] : Array Value))).push (seqObj "tuple" vs.toArray 0)).push (seqObj "list" #[] 0), toks := s.toks } := I1.kept kp
  have nS : H (s.heap.objs.size + 1) = none := I.hok.fresh (Nat.le_succ _)
  have fk : FpOk X pins H (s.heap.objs.size + 1) := I.fpOk (Nat.le_succ _) nS
  have gS : (((s.heap.update a (Obj.mapSeq fun _ => (#[] : Array Value))).push (seqObj "tuple" vs.toArray 0)).push (seqObj "list" #[] 0)).get? (s.heap.objs.size + 1) = some (seqObj "list" #[] 0) := by rw [← hkS]; exact Heap.get?_push_size _ rfl
  have I3 : Inv X ((s.heap.objs.size + 1, seqObj "list" #[] 0) :: (a, seqObj "list" #[] e1) :: pins) σ H { s with heap := ((s.heap.update a (Obj.mapSeq fun _ => (#[] : Array Value))).push (seqObj "tuple" vs.toArray 0)).push (seqObj "list" #[] 0), toks := s.toks } := I2.pins_of fun p hp => by
    rcases List.mem_cons.mp hp with rfl | hp
    · exact ⟨gS, nS, fk.2.1, fk.2.2.1, fun v z => by cases z⟩
    · rcases List.mem_cons.mp hp with rfl | hp
      · exact ⟨kp _ _ ho1, fa1, fa2, fa3, fun v z => by cases z⟩
      · exact I2.pin p (List.mem_append_right _ hp)
  show wpAny (model X.prog X.w) A (ksk_rest a f false vs.toArray e1 (.ref ((s.heap.update a (Obj.mapSeq fun _ => (#[] : Array Value))).push (seqObj "tuple" vs.toArray 0)).objs.size)) P E _
  rw [hkS]
  exact sk_rest hc I3 fa fk (Nat.ne_of_gt (Nat.lt_succ_of_lt ha)) h64 rv run h
theorem sk_sorted {l : Addr} {f : Value} {kw : List (Str × Value)} {Q : VK} {c1 : V → Hp → VK → Prop} {R : List Int → Hp → Prop} (hc : ∀ (ex : List (Addr × Obj)) (s : Shared) (H : Hp) (x : V) (u : Value) (Q : VK), Inv X (ex ++ pins) σ H s → RelV x u → c1 x H Q → wpAny (model X.prog X.w) X.A.in1.in1 (call f [u]) (EP X (ex ++ pins) σ Q) (fun _ _ => False) s)
    (I : Inv X pins σ H s) (hl : s.heap.IsList l vs.toArray) (h64 : vs.length < 64) (rv : Vals xs vs) (run : KR c1 xs [] H R) (ha1 : argsOk "sorted" ⟨[.ref l], kw⟩) (ha2 : ∀ x, argsOk "list.sort" ⟨[.ref x], kw⟩) (ht : ∀ x, Builtin.«list.sort» ⟨[.ref x], kw⟩ = ksk_tree x f false)
    (h : ∀ ks H' ys a, R ks H' → ks.length = xs.length → SortedBy ks xs ys → H' a = none → Q (.ref a) (upd H' a (.lst ys))) : wpAny (model X.prog X.w) X.A (call (.builtin "sorted") [.ref l] kw) (EP X pins σ Q) X.xe s := by
  refine call_function_entry_kw kind_sorted plain_sorted entry_sorted ha1 ?_
  unfold Builtin.«sorted»
  refine wpAny_bind (m := checkCount "sorted" 1 1 _) (wpAny_pure ?_)
  refine wpAny_bind (collect_list hl ?_ (by rw [sizeLine_eq]; omega))
  refine wpAny_bind (wpAny_newList ?_ (by rw [sizeLine_eq]; omega))
  have hsz : ((s.heap.push (seqObj "list" #[] 0)).update s.heap.objs.size (Obj.mapSeq (· ++ vs.toArray))).objs.size = s.heap.objs.size + 1 := by
    rw [Heap.size_update, size_push']
  have hoL : (((s.heap.push (seqObj "list" #[] 0)).update s.heap.objs.size (Obj.mapSeq (· ++ vs.toArray))).push (seqObj "list" vs.toArray 0)).get? (s.heap.objs.size + 1) = some (seqObj "list" vs.toArray 0) := by
    rw [← hsz]; exact Heap.get?_push_size _ rfl
  have keep : ∀ b o, s.heap.get? b = some o → (((s.heap.push (seqObj "list" #[] 0)).update s.heap.objs.size (Obj.mapSeq (· ++ vs.toArray))).push (seqObj "list" vs.toArray 0)).get? b = some o := fun b o q => by
    have hlt : b < s.heap.objs.size := Heap.lt_size q
    rw [Heap.get?_push_ne _ _ _ (by rw [hsz]; exact Nat.ne_of_lt (Nat.lt_succ_of_lt hlt)), Heap.get?_update_ne _ _ _ _ (Nat.ne_of_lt hlt), Heap.get?_push_ne _ _ _ (Nat.ne_of_lt hlt)]
    exact q
  have I1 : Inv X pins σ H { s with heap := ((s.heap.push (seqObj "list" #[] 0)).update s.heap.objs.size (Obj.mapSeq (· ++ vs.toArray))).push (seqObj "list" vs.toArray 0), toks := s.toks } := I.kept keep
  have nS : H (s.heap.objs.size + 1) = none := I.hok.fresh (Nat.le_succ _)
  show wpAny _ _ _ _ _ { s with heap := ((s.heap.push (seqObj "list" #[] 0)).update s.heap.objs.size (Obj.mapSeq (· ++ vs.toArray))).push (seqObj "list" vs.toArray 0) }
  rw [hsz]
  refine wpAny_bind (wpAny_holding (wpAny_call_entry_kw slot_list_sort ⟨_, hoL, rfl⟩ entry_list_sort ?body (ha2 _)))
  case body =>
    have ht' := ht (s.heap.objs.size + 1)
    show wpAny (model X.prog X.w) X.A.in1.in1 (Builtin.«list.sort» ⟨[.ref (s.heap.objs.size + 1)], kw⟩) _ _ _
    rw [ht']
    refine sk_sort hc I1 hoL (I.fpOk (Nat.le_succ _) nS) h64 rv run fun ks H' ys s' r kl y1 hn I2 => ⟨_, rfl, ?_⟩
    exact wpAny_pure ⟨_, rfl, .ref (s.heap.objs.size + 1), _, I2, rfl, h ks H' ys _ r kl y1 hn⟩
end
end Fx
set_option Elab.async false
set_option linter.all false
set_option maxRecDepth 100000
set_option maxHeartbeats 4000000
/-! Gx: a lambda of the text is made. -/
namespace Fx
open PySem PySem.Spec L2
/-- what the making of a lambda does: a table grows, a code object is told -/
structure LamStep (T : List (Addr × Str)) (H H1 : Hp) : Prop where
  keep : ∀ b x, H b = some x → NB x → H1 b = some x
  dom : ∀ b x, H b = some x → ∃ y, H1 b = some y
  tab : TabX T H1
theorem tab_grown {T : List (Addr × Str)} {H : Hp} {P c : Addr} {q : Str} {ps : Array Value} {pos : Pos} (hT : TabX T H) (hP : H P = some (.tbl ps)) (ht : TriplesOk ps.toList) (nC : H c = none) (hu : ∀ p ∈ T, p.1 = P → p.2 = q) :
    LamStep T H (upd (upd H P (.tbl (ps ++ #[rawInt pos.line, rawInt pos.col, .ref c]))) c (LamX.CodeO c q)) := by
  have nPc : P ≠ c := fun z => by rw [z, nC] at hP; cases hP
  have other : ∀ b, b ≠ P → b ≠ c → upd (upd H P (.tbl (ps ++ #[rawInt pos.line, rawInt pos.col, .ref c]))) c (LamX.CodeO c q) b = H b := fun b h1 h2 => by rw [upd_ne h2, upd_ne h1]
  have atP : upd (upd H P (.tbl (ps ++ #[rawInt pos.line, rawInt pos.col, .ref c]))) c (LamX.CodeO c q) P = some (.tbl (ps ++ #[rawInt pos.line, rawInt pos.col, .ref c])) := by rw [upd_ne nPc, upd_same]
  have nc : ∀ b x, H b = some x → b ≠ c := fun b x e z => by rw [z, nC] at e; cases e
  have kp : ∀ b x, H b = some x → (∀ r, x ≠ .tbl r) → upd (upd H P (.tbl (ps ++ #[rawInt pos.line, rawInt pos.col, .ref c]))) c (LamX.CodeO c q) b = some x := fun b x e n => by
    rw [other b (fun z => by rw [z, hP] at e; exact n ps (Option.some.inj e).symm) (nc b x e)]
    exact e
  refine ⟨fun b x e n => kp b x e n, fun b x e => ?_, fun p hp => ?_, fun b r e => ?_⟩
  · by_cases hb : b = P
    · subst hb; exact ⟨_, atP⟩
    · exact ⟨x, by rw [other b hb (nc b x e)]; exact e⟩
  · by_cases hb : p.1 = P
    · rw [hu p hp hb, hb]
      have el : (ps ++ #[rawInt pos.line, rawInt pos.col, .ref c]).toList = ps.toList ++ [rawInt pos.line, rawInt pos.col, .ref c] := by simp
      refine ⟨_, atP, by rw [el]; exact PySem.TriplesOk_snoc _ _ _ _ ht, fun p' cv hcv => ?_⟩
      rw [el] at hcv
      rcases LamX.among_app _ ht hcv with z | z
      · obtain ⟨ps2, a1, a2, a3⟩ := hT.1 p hp
        rw [hb, hP] at a1
        cases a1
        obtain ⟨c0, e1, e2⟩ := a3 p' cv z
        rw [hu p hp hb] at e2
        exact ⟨c0, e1, kp _ _ e2 LamX.codeO_ne⟩
      · exact ⟨c, z, upd_same⟩
    · obtain ⟨ps2, a1, a2, a3⟩ := hT.1 p hp
      refine ⟨ps2, by rw [other _ hb (nc _ _ a1)]; exact a1, a2, fun p' cv hcv => ?_⟩
      obtain ⟨c0, e1, e2⟩ := a3 p' cv hcv
      exact ⟨c0, e1, kp _ _ e2 LamX.codeO_ne⟩
  · by_cases hc : b = c
    · subst hc
      rw [upd_same] at e
      exact absurd (Option.some.inj e) (LamX.codeO_ne r)
    · by_cases hb : b = P
      · subst hb; exact hT.2 b ps hP
      · rw [other b hb hc] at e; exact hT.2 b r e
theorem LamStep.refl {T : List (Addr × Str)} {H : Hp} (t : TabX T H) : LamStep T H H := ⟨fun _ _ e _ => e, fun _ x e => ⟨x, e⟩, t⟩
section
variable {X : Cx} {pins : List (Addr × Obj)} {σ : L2.St} {H : Hp} {s : Shared}
theorem mk_lam {T : List (Addr × Str)} {c P : Addr} {params : Arguments} {body : Expr} {scope : Scope} {pos : Pos} {E : Value → Shared → Prop} {Q : Value → Shared → Prop} (I : Inv X pins σ H s) (TB : LamX.TabB X.base X.mg c P) (hcode : X.env.code = .ref c)
    (hm : (P, X.env.qual ++ "<lambda>") ∈ T) (hu : ∀ p ∈ T, p.1 = P → p.2 = X.env.qual ++ "<lambda>") (hT : TabX T H) (hdef : defaultsOf params X.env = ([], [])) (hfree : ∀ y ∈ scope.names, y.2 = .free → ∃ c, X.env.cells.lookup y.1 = some c)
    (h : ∀ (f c' : Addr) (pm ctv : Value) (H1 : Hp) (s' : Shared), Inv X pins σ H1 s' → LamStep T H H1 → s.heap.objs.size ≤ f →
      s'.heap.get? f = some (PySem.W.kla_obj "<lambda>" (X.env.qual ++ "<lambda>") params body scope (cloFrom X.env.cells scope.names []) pm c' ctv) → H1 f = none → f ∉ frs X.stack → H1 c' = some (LamX.CodeO c' (X.env.qual ++ "<lambda>")) → Q (.ref f) s') :
    wpAny (model X.prog X.w) X.A (eval (.Lambda params body scope pos) X.env) Q E s := by
  obtain ⟨ps, hP, ht, ha⟩ := hT.1 _ hm
  have old : s.heap.get? P = some { cls := .none, data := .fields ps } := I.hok P _ hP
  have off : ∀ f, s.heap.objs.size ≤ f → f ∉ frs X.stack := fun f hf z => by
    rcases List.mem_cons.mp (I.stkSub _ z) with e | e
    · have := I.lt
      rw [← e] at this
      exact absurd (Nat.lt_of_lt_of_le this hf) (Nat.lt_irrefl _)
    · exact I.nofs hf e
  refine PySem.W.kla_eval hdef ?_
  cases q : codeAmong pos ps.toList with
  | some cv =>
    obtain ⟨c', rfl, hco⟩ := ha pos cv q
    refine PySem.W.kla_makeFunctionHit (mg := X.mg) (c := c) (P := P) (ps := ps) (closure_ok hfree) I.ok.glob (I.mod.glob.keeps I.bk) hcode (TB.code.keeps I.bk) old ht q (TB.bm.keeps I.bk) fun ctv h' tk k1 k2 => ?_
    exact h _ c' _ ctv H _ (I.kept fun b o e => Heap.get?_push_of_some _ (k1 b o e)) (.refl hT) k2 (Heap.get?_push_size _ rfl) (I.hok.fresh k2) (off _ k2) hco
  | none =>
    refine PySem.W.kla_makeFunction (mg := X.mg) (c := c) (P := P) (ps := ps) (closure_ok hfree) I.ok.glob (I.mod.glob.keeps I.bk) hcode (TB.code.keeps I.bk) old ht q TB.gP (TB.bm.keeps I.bk) fun c' ctv h' tk k1 k2 k3 k4 k5 => ?_
    obtain ⟨c2, oc, vs, t, e2, r1, r2, r3⟩ := k4
    cases e2
    have nC : H c' = none := I.hok.fresh k2
    have big : s.heap.objs.size ≤ h'.objs.size := Nat.le_trans k2 (Nat.le_of_lt k3)
    have I1 := LamX.inv_table (t' := tk) (c := c') (q := X.env.qual ++ "<lambda>") (more := #[rawInt pos.line, rawInt pos.col, .ref c']) (h' := h'.push (PySem.W.kla_obj "<lambda>" (X.env.qual ++ "<lambda>") params body scope (cloFrom X.env.cells scope.names []) ((X.mg "__name__").getD .none) c' ctv)) I hP
      (fun b o hb e => Heap.get?_push_of_some _ (k1 b o hb e)) (Heap.get?_push_of_some _ k5) k2 ⟨oc, vs, t, Heap.get?_push_of_some _ r1, r2, r3⟩
    have n1 : h'.objs.size ≠ c' := Nat.ne_of_gt k3
    have n2 : h'.objs.size ≠ P := Nat.ne_of_gt (Nat.lt_of_lt_of_le (Heap.lt_size old) big)
    exact h _ c' _ ctv _ _ I1 (tab_grown hT hP ht nC hu) big (Heap.get?_push_size _ rfl) (by rw [upd_ne n1, upd_ne n2]; exact I.hok.fresh big) (off _ big) upd_same
end
end Fx
set_option Elab.async false
set_option linter.all false
set_option maxRecDepth 100000
set_option maxHeartbeats 4000000
/-! Gx: a lambda with one parameter, called in the frame that made it. -/
namespace Fx
open PySem PySem.Spec L2 PyProof.Rows
/-- one parameter a; caps: captured names with their slots -/
structure LamP (X : Cx) (a : Str) (caps : List (Str × Nat)) (scope : Scope) : Prop where
  kind : scope.kind = .function
  co : scope.isCoroutine = false
  gen : scope.isGenerator = false
  par : scope.names.lookup a = some .local
  loc : ∀ y ∈ scope.names, y.2 = .local → y.1 = a
  nocell : ∀ y ∈ scope.names, y.2 ≠ .cell
  free : ∀ y ∈ scope.names, y.2 = .free → X.env.scope.names.lookup y.1 = some .cell ∨ X.env.scope.names.lookup y.1 = some .free
  cap : ∀ p ∈ caps, scope.names.lookup p.1 = some .free ∧ X.N[p.2]? = some p.1
  nodup : (a :: caps.map Prod.fst).Nodup
abbrev lamN (a : Str) (caps : List (Str × Nat)) : List Str := a :: caps.map Prod.fst
abbrev lamS (v : V) (caps : List (Str × Nat)) (σ : L2.St) : L2.St := some v :: caps.map fun p => (σ[p.2]?).getD none
def lamC (X : Cx) (N : List Str) (s : Shared) (H : Hp) (scope : Scope) (f c' : Addr) : Cx where
  prog := X.prog
  w := X.w
  K := X.K
  mg := X.mg
  base := X.base
  A := X.A.in1.in1.deeper (LamX.lamEnv X scope s.heap.objs.size f c')
  N := N
  s_0 := s
  H_0 := H
  env := LamX.lamEnv X scope s.heap.objs.size f c'
  outer := X.stack
  stack := LamX.lamEnv X scope s.heap.objs.size f c' :: X.stack
  ex := []
  fn := fun _ => false
  calm := true
  pn := []
  xe := fun _ _ => False
section
variable {X : Cx} {pins : List (Addr × Obj)} {σ : L2.St} {H : Hp} {s : Shared} {a : Str} {caps : List (Str × Nat)} {scope : Scope}
theorem lam_in {f c' : Addr} {h₁ : Heap} {tk : Nat} {v : V} {u : Value} (I : Inv X pins σ H s) (L : LamP X a caps scope) (hd : X.A.handled = none) (rv : RelV v u)
    (hns : h₁.Ns s.heap.objs.size fun y => [(a, u)].reverse.lookup y) (kp : ∀ b o, s.heap.get? b = some o → h₁.get? b = some o) :
    Inv (lamC X (lamN a caps) s H scope f c') [] (lamS v caps σ) H { s with heap := h₁, toks := tk } := by
  have hfree : ∀ y ∈ scope.names, y.2 = .free → ∃ c, X.env.cells.lookup y.1 = some c := fun y hy e => I.ok.has _ ((L.free y hy e).imp id id)
  have cm : ∀ {y c}, (cloFrom X.env.cells scope.names []).lookup y = some c → X.env.cells.lookup y = some c := fun {y c} e => by
    rcases cloFrom_mem (PySem.mem_of_lookup e) with hm | ⟨h1, h2⟩
    · cases hm
    · obtain ⟨c1, hc⟩ := hfree _ h1 rfl
      have hc : X.env.cells.lookup y = some c1 := hc
      have e2 : c = c1 := by
        rw [h2, hc] <;> rfl
      rw [e2]; exact hc
  have look : ∀ {y}, scope.names.lookup y = some .free → ∃ c, (cloFrom X.env.cells scope.names []).lookup y = some c := fun {y} hl => by
    have hy : (y, NameKind.free) ∈ scope.names := PySem.mem_of_lookup hl
    exact mem_lookup (cloFrom_has (cells := X.env.cells) (acc := []) hy)
  have cellK : ∀ {c : Addr} {v : Option Value}, s.heap.IsCell c v → h₁.IsCell c v := fun {c v} ⟨o, ho, hd⟩ => ⟨o, kp _ _ ho, hd⟩
  have e0 := I.env0.in1.in1
  have noA : ∀ b : Addr, b ∉ (lamC X (lamN a caps) s H scope f c').ex := fun b z => absurd (show b ∈ ([] : List Addr) from z) (by simp)
  refine ⟨⟨e0.mod, L.kind, rfl, rfl, Nat.le_refl _, fun y z c e1 e2 => I.ok.inj y z c (cm e1) (cm e2), fun y hy => ?_, fun y c z _ => ?_, fun _ => hd, Around.frames_deeper e0.frames, .inr ⟨rfl, rfl⟩, fun b z => absurd z (noA b), e0.bs, e0.bsz, fun b _ _ => noA b,
      fun b z => absurd z (noA b), e0.funs, e0.frf⟩,
    rfl, e0.bare, Un.kept kp, ⟨_, hns, fun i y w e1 e2 e3 => ?_⟩, fun y c e => ?_, e0.hok.fresh (Nat.le_refl _), fun y c e => I.freeC y c (cm e), fun q hq => absurd (show q ∈ ([] : List (Addr × Obj)) ++ [] from hq) (by simp), e0.hok.kept kp, by show (lamS v caps σ).length = (lamN a caps).length; simp [lamS, lamN]⟩
  · have hy : scope.names.lookup y = some .cell ∨ scope.names.lookup y = some .free := hy
    rcases hy with hy | hy
    · exact absurd rfl (L.nocell _ (PySem.mem_of_lookup hy))
    · exact look hy
  · have z : false = true := z
    cases z
  · cases i with
    | zero =>
      have e1 : some a = some y := e1
      cases e1
      have e2 : some (some v) = some (some w) := e2
      cases e2
      exact ⟨u, rv, .inl ⟨L.par, by simp [List.lookup]⟩⟩
    | succ i =>
      have e1 : (caps.map Prod.fst)[i]? = some y := e1
      have e2 : (caps.map fun p => (σ[p.2]?).getD none)[i]? = some (some w) := e2
      rw [List.getElem?_map] at e1 e2
      obtain ⟨p, hp, rfl⟩ := Option.map_eq_some_iff.mp e1
      rw [hp] at e2
      have e2 : (σ[p.2]?).getD none = some w := Option.some.inj e2
      have hs : σ[p.2]? = some (some w) := by
        cases hq : σ[p.2]? with
        | none => rw [hq] at e2; cases e2
        | some x => rw [hq] at e2; exact congrArg some e2
      obtain ⟨q1, q2⟩ := L.cap p (List.mem_of_getElem? hp)
      have hm := PySem.mem_of_lookup q1
      have hvis : Vis X.env.scope p.1 := (L.free _ hm rfl).elim (fun k => .inr (.inl k)) (fun k => .inr (.inr k))
      obtain ⟨m, hn, hl⟩ := I.loc
      obtain ⟨w', r, k⟩ := hl p.2 p.1 w q2 hs hvis
      obtain ⟨c2, h2⟩ := look q1
      have c1 := cm h2
      refine ⟨w', r, .inr ⟨.inr q1, c2, h2, ?_⟩⟩
      rcases k with ⟨k', _⟩ | ⟨_, c3, e', z⟩
      · have k' : X.env.scope.names.lookup p.1 = some .local := k'
        rcases L.free _ hm rfl with k2 | k2 <;> rw [show X.env.scope.names.lookup p.1 = _ from k2] at k' <;> cases k'
      · rw [c1] at e'
        cases e'
        exact cellK z
  · obtain ⟨w', z⟩ := I.cell y c (cm e)
    exact ⟨w', cellK z⟩
end
end Fx
namespace Fx
open PySem PySem.Spec L2 PyProof.Rows
section
variable {X : Cx} {pins : List (Addr × Obj)} {σ : L2.St} {H : Hp} {s : Shared} {a : Str} {caps : List (Str × Nat)} {scope : Scope} {k : Nat}
/-- the code of the text's lambda -/
abbrev lamO (X : Cx) (params : Arguments) (body : Expr) (scope : Scope) (pm : Value) (c' : Addr) (ctv : Value) : Obj := PySem.W.kla_obj "<lambda>" (X.env.qual ++ "<lambda>") params body scope (cloFrom X.env.cells scope.names []) pm c' ctv
theorem lam_call {f c' : Addr} {params : Arguments} {body : Expr} {pm ctv : Value} {v : V} {u : Value} {tb : TE} {Q : VK} (I : Inv X pins σ H s) (L : LamP X a caps scope) (hr : Room (k + 3) X.A) (rv : RelV v u)
    (hf : s.heap.get? f = some (lamO X params body scope pm c' ctv)) (hco : H c' = some (LamX.CodeO c' (X.env.qual ++ "<lambda>")))
    (hbind : bindArgs (PySem.W.kla_fn "<lambda>" (X.env.qual ++ "<lambda>") params body scope (cloFrom X.env.cells scope.names []) pm (.ref c') ctv) ⟨[u], []⟩ = pure [(a, u)])
    (hb : ∀ (s : Shared) (H : Hp), Room k (lamC X (lamN a caps) s H scope f c').A → PE (lamC X (lamN a caps) s H scope f c') body tb) (ht : tb (lamS v caps σ) H Q) :
    wpAny (model X.prog X.w) X.A.in1.in1 (call (.ref f) [u]) (EP X pins σ Q) (fun _ _ => False) s := by
  have hr1 : Room (k + 1) X.A.in1.in1 := hr.in1.in1
  obtain ⟨⟨oc, vs, t, hoc, hdc, hvc⟩, _, _⟩ := I.hok c' _ hco
  have rc : codeAny (model X.prog X.w) X.A.in1.in1 (.call (.ref f) ⟨[u], []⟩) (CR CX0 X.stack X.prog X.w H s Q (fun _ _ _ => False)) s := by
    refine PySem.W.kla_callFunE hr1.depth hf rfl L.co L.gen rfl ⟨c', oc, vs, t, rfl, hoc, hdc, hvc⟩ ?_
    rw [hbind]
    refine wpAny_pure (wpAny_newFunctionEnv L.nocell (fun y hy => ?_) (fun h₁ hns hsb => ⟨I.nolimit.fresh _ hsb, ?_⟩) L.kind)
    · obtain rfl : y = (a, u) := by simpa using hy
      exact L.par
    show codeAny _ _ (.expr body (LamX.lamEnv X scope s.heap.objs.size f c')) _ _
    have kp : ∀ b o, s.heap.get? b = some o → h₁.get? b = some o := fun b o e => hsb.extBut b o (Nat.ne_of_lt (Heap.lt_size e)) (Heap.get?_push_of_some _ e)
    have J := lam_in (f := f) (c' := c') (tk := s.toks + [(a, u)].length) I L hr.hd rv hns kp
    refine PySem.W.kla_codeExpr (wpAny_mono ((hb s H (hr1.deeper _)).run [] _ _ H Q J ht) (fun v s' hq => ?_) fun e s' hq => hq.elim)
    obtain ⟨w', H', J', rv', q⟩ := hq
    exact ⟨w', H', J'.os, J'.bare, J'.base, J'.hok, rv', q⟩
  refine wpAny_call (codeAny_mono rc fun r s' hq => ?_)
  cases r with
  | error e => exact (show False from hq).elim
  | ok fl =>
    cases fl with
    | ret u => exact I.after hq
    | next => exact False.elim hq
    | brk => exact False.elim hq
    | cont => exact False.elim hq
end
end Fx
set_option Elab.async false
set_option linter.all false
set_option maxRecDepth 100000
set_option maxHeartbeats 4000000
/-! Gx: sorted(e, key=lambda a: body). -/
namespace Fx
open PySem PySem.Spec L2 PyProof.Rows
theorem sorted_unique {β : Type} : ∀ {p q : List (Int × β)}, p.Perm q → p.Pairwise (fun x y => x.1 ≤ y.1) → q.Pairwise (fun x y => x.1 ≤ y.1) → (p.map Prod.fst).Nodup → p = q
  | [], q, h, _, _, _ => (List.perm_nil.mp h.symm).symm
  | a :: p, [], h, _, _, _ => by have := h.length_eq; simp at this
  | a :: p, b :: q, h, hp, hq, hn => by
    rw [List.pairwise_cons] at hp hq
    rw [List.map_cons, List.nodup_cons] at hn
    have hab : a = b := by
      have ha : a ∈ b :: q := h.mem_iff.mp (by simp)
      have hb : b ∈ a :: p := h.mem_iff.mpr (by simp)
      rcases List.mem_cons.mp ha with e | ha
      · exact e
      · rcases List.mem_cons.mp hb with e | hb
        · exact e.symm
        · have e : a.1 = b.1 := Int.le_antisymm (hp.1 b hb) (hq.1 a ha)
          exact absurd (List.mem_map.mpr ⟨b, hb, e.symm⟩) hn.1
    subst hab
    rw [sorted_unique h.cons_inv hp.2 hq.2 hn.2]
/-- the items by their keys -/
def sortBy {β : Type} (ks : List Int) (l : List β) : List β := ((ks.zip l).mergeSort fun p q => decide (p.1 ≤ q.1)).map Prod.snd
theorem sortBy_eq {β : Type} {ks : List Int} {l : List β} {qs : List (Int × β)} (h : qs.Perm (ks.zip l)) (hq : qs.Pairwise fun p q => p.1 ≤ q.1) (hl : ks.length = l.length) (hn : ks.Nodup) : qs.map Prod.snd = sortBy ks l := by
  have h1 : ((ks.zip l).mergeSort fun p q => decide (p.1 ≤ q.1)).Perm (ks.zip l) := List.mergeSort_perm _ _
  have h2 : ((ks.zip l).mergeSort fun p q => decide (p.1 ≤ q.1)).Pairwise (fun p q => p.1 ≤ q.1) :=
    (List.pairwise_mergeSort (le := fun p q : Int × β => decide (p.1 ≤ q.1)) (fun a b c h1 h2 => by simp only [decide_eq_true_eq] at *; omega) (fun a b => by simp only [Bool.or_eq_true, decide_eq_true_eq]; omega) (ks.zip l)).imp fun h => of_decide_eq_true h
  have e : (ks.zip l).map Prod.fst = ks := by rw [List.map_fst_zip]; omega
  have e2 : (qs.map Prod.fst).Nodup := (h.map Prod.fst).nodup_iff.mpr (by rw [e]; exact hn)
  unfold sortBy
  rw [sorted_unique (h.trans h1.symm) hq h2 e2]
def capV (ds : DS) : List Nat → Option (List D)
  | [] => some []
  | j :: r => match ds[j]? with
    | some (some (.sh d)) => (capV ds r).map (d :: ·)
    | _ => none
def keysF (fb : DS → Option (RV × DS)) (cv : List D) : List D → Option (List Int)
  | [] => some []
  | d :: l => match fb (shs (d :: cv)) with
    | some (.ov (.sh (.int k)), _) => (keysF fb cv l).map (k :: ·)
    | _ => none
def fSortK (caps : List Nat) (fb : DS → Option (RV × DS)) (fa : DS → Option (RV × DS)) (ds : DS) : Option (RV × DS) := (fa ds).bind fun p => (frz p.1 p.2).bind fun q => match q.1 with
  | .list l => (capV q.2 caps).bind fun cv => (keysF fb cv l).bind fun ks => if l.length < 64 ∧ ks.Nodup then some (.ov (.flat (sortBy ks l)), q.2) else none
  | _ => none
/-- the reading -/
def tSortK (fr : PySem.W.Frag) (T : List (Addr × Str)) (qn : Str) (caps : List (Str × Nat)) (tb ta : TE) : TE := fun σ H Q => ta σ H fun v H1 => ∃ p xs, v = .ref p ∧ L2.SqL fr H1 p xs ∧ xs.length < 64 ∧ TabX T H1 ∧
  ∀ H2 c', LamStep T H1 H2 → H2 c' = some (LamX.CodeO c' qn) → KR (fun x H Q => H c' = some (LamX.CodeO c' qn) ∧ tb (lamS x caps σ) H Q) xs [] H2 fun ks H3 => ∀ ys l, ks.length = xs.length → SortedBy ks xs ys → H3 l = none → Q (.ref l) (upd H3 l (.lst ys))
theorem keysF_len {fb : DS → Option (RV × DS)} {cv : List D} : ∀ {l : List D} {ks : List Int}, keysF fb cv l = some ks → ks.length = l.length
  | [], _, e => by cases e; rfl
  | d :: l, ks, e => by
    simp only [keysF] at e
    split at e
    · simp only [Option.map_eq_some_iff] at e
      obtain ⟨r, h1, rfl⟩ := e
      simp [keysF_len h1]
    · cases e
variable {K : Kc}
theorem capV_ok {G H : Hp} {σ : L2.St} {ds : DS} {F : Nat → List Addr} (S : SI K G H σ ds F) : ∀ {caps : List (Str × Nat)} {cv : List D}, (∀ p ∈ caps, p.2 < K.n) → capV ds (caps.map Prod.snd) = some cv → ∃ ws : List V, (caps.map fun p => (σ[p.2]?).getD none) = ws.map some ∧ L2.DpAll K.fr G ws cv
  | [], cv, _, e => by cases e; exact ⟨[], rfl, .nil⟩
  | p :: caps, cv, hn, e => by
    simp only [List.map_cons, capV] at e
    split at e
    · rename_i d hd
      simp only [Option.map_eq_some_iff] at e
      obtain ⟨r, h1, rfl⟩ := e
      obtain ⟨ws, w1, w2⟩ := capV_ok S (fun q hq => hn q (by simp [hq])) h1
      obtain ⟨v, k1, k2⟩ := S.rep p.2 _ hd
      have k3 := look_at k1 (by rw [S.sl]; exact hn p (by simp))
      exact ⟨v :: ws, by rw [List.map_cons, List.map_cons, w1, k3]; rfl, .cons k2.1 w2⟩
    · cases e
theorem dps_trip {G : Hp} : ∀ {xs : List V} {l : List D}, L2.DpAll K.fr G xs l → ∀ t ∈ xs.zip l, L2.Dp K.fr G t.1 t.2
  | _, _, .nil, t, h => by simp at h
  | _, _, .cons a r, t, h => by
    rw [List.zip_cons_cons] at h
    rcases List.mem_cons.mp h with rfl | h
    · exact a
    · exact dps_trip r t h
theorem dps_of {G : Hp} : ∀ l : List (Int × (V × D)), (∀ t ∈ l, L2.Dp K.fr G t.2.1 t.2.2) → L2.DpAll K.fr G (l.map fun t => t.2.1) (l.map fun t => t.2.2)
  | [], _ => .nil
  | t :: l, h => .cons (h t (by simp)) (dps_of l fun u hu => h u (by simp [hu]))
theorem re_sortK {qn : Str} {caps : List (Str × Nat)} {tb ta : TE} {fb fa : DS → Option (RV × DS)} (hcap : ∀ p ∈ caps, p.2 < K.n) (hb : RE ⟨K.fr, K.tb, none, caps.length + 1, none⟩ tb fb) (ha : RE K ta fa) :
    RE K (tSortK K.fr K.tb qn caps tb ta) (fSortK (caps.map Prod.snd) fb fa) := by
  intro G H F σ ds rv ds' Q S e q
  simp only [fSortK, Option.bind_eq_some_iff] at e
  obtain ⟨⟨ra, d1⟩, e1, ⟨dl, d2⟩, e2, e3⟩ := e
  split at e3
  · rename_i l hl
    have hl : dl = .list l := hl
    subst hl
    simp only [Option.bind_eq_some_iff] at e3
    obtain ⟨cv, e4, ks, e5, e6⟩ := e3
    split at e6
    · rename_i hg
      obtain ⟨h64, hnd⟩ := hg
      cases e6
      refine ha G H F σ ds ra d1 _ S e1 fun v G1 H1 F1 fp S1 t1 r1 f1 => ?_
      obtain ⟨G2, F2, S2, t2, s2, dd, _⟩ := frz_ok (fq := []) S1 t1 r1 (by rw [List.append_nil]; exact f1) e2
      cases dd with
      | lst hs hx =>
        rename_i p xs
        have lx := dpsLen (K := K) hx
        refine ⟨_, _, rfl, S2.sub.seq hs, by omega, S2.tab, fun H2 c' ls hco => ?_⟩
        -- the state behind the lambda's making
        have tl : Step (Wf (fun _ => [])) G2 H1 G2 H2 (Wf (fun _ => [])) := ⟨Same.refl _, fun b x e _ nb => ls.keep b x e nb, ls.dom, fun b x e => .inl ⟨x, e⟩, fun b z => .inl z⟩
        have S3 := S2.frame tl (fun b x e => ls.keep b x (S2.sub b x e) (S2.gnt b x e).1) S2.gnt ls.tab fun a _ z => noW z
        have run : ∀ (ys : List V) (m : List D) (ns acc : List Int) (G' H' : Hp), L2.DpAll K.fr G2 ys m → keysF fb cv m = some ns → acc ++ ns = ks → SI K G' H' σ ds' F2 → Step (Wf F) G H G' H' (Wf F2) → Same G2 G' → H' c' = some (LamX.CodeO c' qn) →
            KR (fun x H Q => H c' = some (LamX.CodeO c' qn) ∧ tb (lamS x caps σ) H Q) ys acc H' fun ks H3 => ∀ ys l, ks.length = xs.length → SortedBy ks xs ys → H3 l = none → Q (.ref l) (upd H3 l (.lst ys)) := by
          intro ys
          induction ys with
          | nil =>
            intro m ns acc G' H' hy hk hacc S' t' sg hc
            cases hy
            cases hk
            rw [List.append_nil] at hacc
            subst hacc
            intro zs a hlen hsb hn
            obtain ⟨qs, p1, rfl, p3⟩ := hsb
            have ez : acc.zip xs = (acc.zip (xs.zip l)).map fun t => (t.1, t.2.1) := by
              refine List.ext_getElem (by simp; omega) fun i a1 a2 => ?_
              simp
            obtain ⟨l', w1, w2⟩ := perm_lift p1 _ ez
            have mem : ∀ t ∈ l', L2.Dp K.fr G' t.2.1 t.2.2 := fun t ht => dpMono (K := K) sg _ _ (dps_trip (K := K) hx _ (List.of_mem_zip (w1.mem_iff.mp ht)).2)
            have ey : qs.map Prod.snd = l'.map fun t => t.2.1 := by rw [← w2, List.map_map]; rfl
            have ed : (l'.map fun t => t.2.2) = sortBy acc l := by
              have z1 : (l'.map fun t => (t.1, t.2.2)).Perm (acc.zip l) := by
                have ez2 : acc.zip l = (acc.zip (xs.zip l)).map fun t => (t.1, t.2.2) := by
                  refine List.ext_getElem (by simp; omega) fun i a1 a2 => ?_
                  simp
                rw [ez2]
                exact w1.map _
              have z2 : (l'.map fun t => (t.1, t.2.2)).Pairwise fun p q => p.1 ≤ q.1 := by
                rw [← w2, List.pairwise_map] at p3
                rw [List.pairwise_map]
                exact p3
              have z3 := sortBy_eq z1 z2 (by omega) hnd
              rw [← z3, List.map_map]; rfl
            have hd : DpAll K G' (qs.map Prod.snd) (sortBy acc l) := by
              rw [ey, ← ed]
              exact dps_of (K := K) l' mem
            obtain ⟨S4, t4, r4, f4⟩ := new_list S' t' hn hd
            exact q _ _ _ _ _ S4 t4 r4 f4
          | cons x ys ih =>
            intro m ns acc G' H' hy hk hacc S' t' sg hc
            cases hy with
            | cons hxd hys =>
              rename_i d m
              simp only [keysF] at hk
              split at hk
              · rename_i k dsl hf
                simp only [Option.map_eq_some_iff] at hk
                obtain ⟨ns', h1, rfl⟩ := hk
                obtain ⟨ws, w1, w2⟩ := capV_ok S' hcap e4
                have es : lamS x caps σ = (x :: ws).map some := by
                  show some x :: _ = _
                  rw [w1]; rfl
                have wl : ws.length = caps.length := by
                  have := congrArg List.length w1
                  simpa using this.symm
                refine ⟨hc, ?_⟩
                rw [es]
                have Sl : SI ⟨K.fr, K.tb, none, (x :: ws).length, none⟩ G' H' ((x :: ws).map some) (shs (d :: cv)) (fun _ => []) := SI.shared S'.sub S'.gnt S'.tab (.cons (dpMono (K := K) sg _ _ hxd) w2)
                have el : (x :: ws).length = caps.length + 1 := by simp [wl]
                rw [el] at Sl
                refine hb G' H' _ _ _ _ _ _ Sl hf fun v G'' H'' F'' fp'' Sl' t'' r'' f'' => ?_
                have rk : Dp ⟨K.fr, K.tb, none, caps.length + 1, none⟩ G'' v (.int k) := r''.1
                cases rk
                refine ⟨k, rfl, ?_⟩
                have S'' := S'.frame t'' Sl'.sub Sl'.gnt Sl'.tab fun a _ z => noW z
                have tt : Step (Wf F) G H G'' H'' (Wf F2) := t'.trans ⟨t''.sg, fun b x e n nt => t''.keep b x e noW nt, t''.dom, fun b x e => (t''.new b x e).imp id fun z => z.elim (fun z => (noW z).elim) .inr, fun b z => .inl z⟩
                exact ih m ns' (acc ++ [k]) G'' H'' hys h1 (by rw [← hacc]; simp) S'' tt (sg.trans t''.sg) (t''.keep _ _ hc noW (LamX.codeO_ne))
              · cases hk
        have tt : Step (Wf F) G H G2 H2 (Wf F2) := t2.trans ⟨Same.refl _, fun b x e n nb => ls.keep b x e nb, ls.dom, fun b x e => .inl ⟨x, e⟩, fun b z => .inl z⟩
        exact run xs l ks [] G2 H2 hx e5 rfl S3 tt (Same.refl _) hco
    · cases e6
  · cases e3
end Fx
set_option Elab.async false
set_option linter.all false
set_option maxRecDepth 100000
set_option maxHeartbeats 4000000
/-! Gx: sorted(e, key=lambda a: body): the syntax. -/
namespace Fx
open PySem PySem.Spec L2 PyProof.Rows
theorem sql_lam {fr : PySem.W.Frag} {T : List (Addr × Str)} {H H2 : Hp} {p : Addr} {xs : List V} (h : L2.SqL fr H p xs) (ls : LamStep T H H2) : L2.SqL fr H2 p xs := by
  rcases h with (h | ⟨o, h⟩) | h
  · exact .inl (.inl (ls.keep _ _ h fun _ z => nomatch z))
  · exact .inl (.inr ⟨o, ls.keep _ _ h fun _ z => nomatch z⟩)
  · exact .inr h
section
variable {X : Cx} {a : Str} {caps : List (Str × Nat)} {scope : Scope} {k : Nat} {T : List (Addr × Str)} {c P : Addr} {params : Arguments} {body e : Expr} {lpos kp p pos : Pos} {ta tb : TE}
theorem pe_sortK (hm : X.mg "sorted" = none) (TB : LamX.TabB X.base X.mg c P) (hr : Room (k + 3) X.A) (L : LamP X a caps scope) (ha : PE X e ta)
    (hb : ∀ (s : Shared) (H : Hp) (f c' : Addr), Room k (lamC X (lamN a caps) s H scope f c').A → PE (lamC X (lamN a caps) s H scope f c') body tb)
    (hmT : (P, X.env.qual ++ "<lambda>") ∈ T) (hu : ∀ p ∈ T, p.1 = P → p.2 = X.env.qual ++ "<lambda>")
    (hcode : X.env.code = .ref c := by rfl) (hdef : defaultsOf params X.env = ([], []) := by rfl)
    (hbind : ∀ (q : Str) (cl : List (Str × Addr)) (pm cv ctv u : Value), bindArgs (PySem.W.kla_fn "<lambda>" q params body scope cl pm cv ctv) ⟨[u], []⟩ = pure [(a, u)] := by intros; rfl)
    (hg : Gl X "sorted" := by rfl) (he : starEach [e] X.env = (false, eval e X.env) :: starEach [] X.env := by rfl) (hbk : backTo pos (starEach [e] X.env) = (false, eval e X.env) :: backTo pos (starEach [] X.env) := by rfl) (hpl : (backTo pos (starEach [e] X.env)).any (·.1) = false := by rfl)
    (hall : (backToKw pos (keywordEach [⟨some "key", .Lambda params body scope lpos, kp⟩] X.env)).all (·.1.isSome) = true := by rfl) (hkw : (backToKw pos (keywordEach [⟨some "key", .Lambda params body scope lpos, kp⟩] X.env)).any (·.1.isNone) = false := by rfl)
    (hks : (backToKw pos (keywordEach [⟨some "key", .Lambda params body scope lpos, kp⟩] X.env)).filterMap (·.1) = [("key" : Str)] := by rfl) :
    PE X (.Call (.Name "sorted" p) [e] [⟨some "key", .Lambda params body scope lpos, kp⟩] pos) (tSortK X.K T (X.env.qual ++ "<lambda>") caps tb ta) := by
  refine ⟨fun pins s σ H Q I h => ?_⟩
  refine wpAny_Call_Name_kw (ld_blt (u := .builtin "sorted") I hg hm (by decide +kernel) ?_ (by decide) (by decide))
  refine callWith_kw ?_ hbk hpl hall hkw
  have hpa : PA X [e] (tCons ta tNil) := pa_cons ha pa_nil he
  refine thn (hpa.run pos pins s σ H (fun vs H1 => match vs with
    | [v] => ∃ p xs, v = .ref p ∧ L2.SqL X.K H1 p xs ∧ xs.length < 64 ∧ TabX T H1 ∧
    ∀ H2 c', LamStep T H1 H2 → H2 c' = some (LamX.CodeO c' (X.env.qual ++ "<lambda>")) → KR (fun x H Q => H c' = some (LamX.CodeO c' (X.env.qual ++ "<lambda>")) ∧ tb (lamS x caps σ) H Q) xs [] H2 fun ks H3 => ∀ ys l, ks.length = xs.length → SortedBy ks xs ys → H3 l = none → Q (.ref l) (upd H3 l (.lst ys))
    | _ => False) I h) fun us s1 hh => ?_
  obtain ⟨vs, H1, I1, r1, hh⟩ := hh
  cases r1 with
  | nil => exact hh.elim
  | cons rx rn =>
    cases rn with
    | cons _ _ => exact hh.elim
    | nil =>
    obtain ⟨p1, xs, rfl, hs, h64, hT, q⟩ := hh
    obtain rfl := rx
    refine kws_cons (mk_lam I1 TB hcode hmT hu hT hdef (fun y hy e => I1.ok.has _ ((L.free y hy e).imp id id)) fun f c' pm ctv H2 s2 I2 ls big hf hn off hco => kws_nil ?_)
    rw [hks]
    have fo : FpOk X pins H2 f := I1.fpOk big hn
    have I3 : Inv X ((f, lamO X params body scope pm c' ctv) :: pins) σ H2 s2 := I2.pins_of fun p hp => by
      rcases List.mem_cons.mp hp with rfl | hp
      · exact ⟨hf, hn, fo.2.1, fo.2.2.1, fun v z => by cases z⟩
      · exact I2.pin p (List.mem_append_right _ hp)
    obtain ⟨its, rv, hl, hz⟩ := I3.list (sql_lam hs ls)
    have lx := rv.length
    refine thn (sk_sorted (kw := [(("key" : Str), .ref f)]) (fun ex s H x u Q I rx ht => ?_) I3 hl.isList (by omega) rv (q H2 c' ls hco) (ksk_s1 _ _) (fun x => ksk_l1 _ _) (fun x => ksk_t1 f x) fun ks H' ys a r kl y1 hn => r ys a kl y1 hn) fun u s3 hq => ?_
    · have of := (I.pin (f, lamO X params body scope pm c' ctv) (by simp)).1
      exact lam_call I L hr rx of ht.1 (hbind _ _ _ _ _ _) (fun s H hr => hb s H f c' hr) ht.2
    · obtain ⟨z, H3, I4, rz, q3⟩ := hq
      exact ⟨z, H3, I4.pins_of fun p hp => I4.pin p (List.mem_append_right _ (.tail _ hp)), rz, q3⟩
end
end Fx
set_option Elab.async false
set_option linter.all false
set_option maxRecDepth 100000
set_option maxHeartbeats 4000000
/-! Gx: sorted(e, key=lambda a: body), whole; a def whose code object is known. -/
namespace Fx
open PySem PySem.Spec L2 PyProof.Rows
section
variable {K : Kc} {X : Cx} {a : Str} {caps : List (Str × Nat)} {scope : Scope} {k : Nat} {c P : Addr} {params : Arguments} {body e : Expr} {lpos kp p pos : Pos} {ta tb : TE} {fa fb : DS → Option (RV × DS)}
theorem j_sortK (caps : List (Str × Nat)) (hm : X.mg "sorted" = none) (TB : LamX.TabB X.base X.mg c P) (hr : Room (k + 3) X.A) (L : LamP X a caps scope) (ha : JE K X e ta fa)
    (hb : ∀ (s : Shared) (H : Hp) (f c' : Addr), Room k (lamC X (lamN a caps) s H scope f c').A → JE ⟨K.fr, K.tb, none, caps.length + 1, none⟩ (lamC X (lamN a caps) s H scope f c') body tb fb)
    (hmT : (P, X.env.qual ++ "<lambda>") ∈ K.tb) (hu : ∀ p ∈ K.tb, p.1 = P → p.2 = X.env.qual ++ "<lambda>") (hcap : (caps.all fun p => decide (p.2 < K.n)) = true := by rfl) (hk : X.K = K.fr := by rfl)
    (hcode : X.env.code = .ref c := by rfl) (hdef : defaultsOf params X.env = ([], []) := by rfl)
    (hbind : ∀ (q : Str) (cl : List (Str × Addr)) (pm cv ctv u : Value), bindArgs (PySem.W.kla_fn "<lambda>" q params body scope cl pm cv ctv) ⟨[u], []⟩ = pure [(a, u)] := by intros; rfl)
    (hg : Gl X "sorted" := by rfl) (he : starEach [e] X.env = (false, eval e X.env) :: starEach [] X.env := by rfl) (hbk : backTo pos (starEach [e] X.env) = (false, eval e X.env) :: backTo pos (starEach [] X.env) := by rfl) (hpl : (backTo pos (starEach [e] X.env)).any (·.1) = false := by rfl)
    (hall : (backToKw pos (keywordEach [⟨some "key", .Lambda params body scope lpos, kp⟩] X.env)).all (·.1.isSome) = true := by rfl) (hkw : (backToKw pos (keywordEach [⟨some "key", .Lambda params body scope lpos, kp⟩] X.env)).any (·.1.isNone) = false := by rfl)
    (hks : (backToKw pos (keywordEach [⟨some "key", .Lambda params body scope lpos, kp⟩] X.env)).filterMap (·.1) = [("key" : Str)] := by rfl) :
    JE K X (.Call (.Name "sorted" p) [e] [⟨some "key", .Lambda params body scope lpos, kp⟩] pos) (tSortK K.fr K.tb (X.env.qual ++ "<lambda>") caps tb ta) (fSortK (caps.map Prod.snd) fb fa) := by
  have hr0 : Room k (lamC X (lamN a caps) X.s_0 X.H_0 scope 0 0).A := hr.in1.in1.deeper _
  refine ⟨?_, re_sortK (fun p hp => of_decide_eq_true (List.all_eq_true.mp hcap p hp)) (hb X.s_0 X.H_0 0 0 hr0).r ha.r⟩
  rw [← hk]
  exact pe_sortK hm TB hr L ha.p (fun s H f c' r => (hb s H f c' r).p) hmT hu hcode hdef hbind hg he hbk hpl hall hkw hks
end
/-- as def_ok, where the def's code object is c -/
theorem def_okC {P : Program} {w : World} {fr : PySem.W.Frag} {tb : List (Addr × Str)} {mg : Str → Option Value} {base : Heap} {x qual : Str} {st : Stmt} {f c : Addr} {fd : FuncData} {N ps : List Str} {k : Nat} {io T : List Nat} {fb : DS → Option Out} (F : L2.Fun fr x qual st f fd) (hcode : fd.code = .ref c) (hm : mg x = some (.ref f)) (hb : Binds fr fd ps []) (S : FnScope N ps (defScope st)) (hN : ps.length ≤ N.length)
    (body : ∀ (A : Around) (outer : List Env) (s : Shared) (H : Hp) (E : XK), Room k (A.deeper (PyProof.Rows.envOfC qual (defScope st) s.heap.objs.size f (.ref c))) → ∃ t, JB ⟨fr, tb, none, N.length, none⟩ (cxOf (L2.CX P w) P w fr mg base N qual (defScope st) f (.ref c) A outer s H E) ⟨fun c d _ H => E c d H, mg⟩ T (defBody st) t fb) (hT : ∀ i ∈ io, i ∉ T := by decide) :
    Dk P w fr tb mg base (k + 1) x ps.length (funO io ps.length N.length fb) := by
  refine ⟨f, fd, ps, ?_, hm, F.kp, hb⟩
  obtain ⟨oc, od, kV, doc, pm, an, cdv, ct, osl, rfl, lk, hcd⟩ := F.ex
  have hcode : cdv = .ref c := hcode
  subst hcode
  refine fn_of lk hcd S (fun vs H Q E h => h.1) fun A outer s H vs Q E hr h => ?_
  obtain ⟨t, J⟩ := body A outer s H E hr
  exact ⟨t, J.p, body_ok (K := ⟨fr, tb, none, ps.length, none⟩) rfl hN hT (fun o e => nomatch e) J.r h⟩
end Fx
namespace Fx
open PySem PySem.Spec L2 PyProof.Rows
/-- the lambda's names, by reckoning -/
def lamQB (N : List Str) (sc : Scope) (a : Str) (caps : List (Str × Nat)) (scope : Scope) : Bool :=
  decide (scope.kind = .function) && !scope.isCoroutine && !scope.isGenerator && decide (scope.names.lookup a = some .local) && (scope.names.all fun y => (!decide (y.2 = .local) || decide (y.1 = a)) && !decide (y.2 = .cell) && (!decide (y.2 = .free) || decide (sc.names.lookup y.1 = some .cell) || decide (sc.names.lookup y.1 = some .free))) &&
    (caps.all fun p => decide (scope.names.lookup p.1 = some .free) && decide (N[p.2]? = some p.1)) && decide ((a :: caps.map Prod.fst).Nodup)
theorem lamP_by {X : Cx} {a : Str} {caps : List (Str × Nat)} {scope sc : Scope} {N : List Str} (h : lamQB N sc a caps scope = true) (hN : X.N = N := by rfl) (hsc : X.env.scope = sc := by rfl) : LamP X a caps scope := by
  unfold lamQB at h
  simp only [Bool.and_eq_true, Bool.or_eq_true, Bool.not_eq_true', decide_eq_true_eq, decide_eq_false_iff_not, List.all_eq_true] at h
  obtain ⟨⟨⟨⟨⟨⟨h1, h2⟩, h3⟩, h4⟩, h5⟩, h6⟩, h7⟩ := h
  refine ⟨h1, h2, h3, h4, fun y hy e => ?_, fun y hy => (h5 y hy).1.2, fun y hy e => ?_, fun p hp => ?_, h7⟩
  · rcases (h5 y hy).1.1 with z | z
    · exact absurd e z
    · exact z
  · rw [hsc]
    rcases (h5 y hy).2 with (z | z) | z
    · exact absurd e z
    · exact .inl z
    · exact .inr z
  · rw [hN]; exact h6 p hp
/-- what a text with a lambda leans on: the maker's code object at ct, its table at Pt -/
structure Bl (P : Program) (base : Heap) (mg : Str → Option Value) (ct Pt : Addr) : Prop where
  b : Bx P base
  t : LamX.TabB base mg ct Pt
end Fx
set_option Elab.async false
set_option linter.all false
set_option maxRecDepth 100000
/-! Gx: a call whose first argument, an owned thing of a slot, is moved. -/
namespace Fx
open PySem PySem.Spec L2
variable {K : Kc}
/-- x(v, ..), v the owned thing of slot i, given away -/
def fCallM (n : Nat) (g : DS → Option DR) (i : Nat) (fa : DS → Option (List RV × DS)) (ds : DS) : Option (RV × DS) := match ds[i]? with
  | some (some _) => (fa ds).bind fun p => (frzs p.1 p.2).bind fun q => match q.2[i]? with
    | some (some o) => if q.1.length + 1 = n then (g (some o :: shs q.1)).bind fun r => match r with
      | .ret o' _ => some (.ov o', q.2.set i none)
      | .ex _ _ => none else none
    | _ => none
  | _ => none
theorem SI.moved {fr : PySem.W.Frag} {tb : List (Addr × Str)} {ob : Option Ob} {n : Nat} {ex : Option (Nat × Addr)} {G H : Hp} {σ : St} {ds : DS} {F : Nat → List Addr} {i : Nat} {o : OV} {v : V} {vs : List V} {l : List D} (S : SI ⟨fr, tb, ob, n, ex⟩ G H σ ds F) (r : Rep ⟨fr, tb, ob, n, ex⟩ G H v o (F i)) (h : L2.DpAll fr G vs l) :
    SI ⟨fr, tb, none, vs.length + 1, none⟩ G H ((v :: vs).map some) (some o :: shs l) (fun j => if j = 0 then F i else []) where
  sub := S.sub
  gnt := S.gnt
  tab := S.tab
  sl := by simp
  len := by
    have := dpsLen (K := ⟨fr, tb, none, 0, none⟩) h
    show (some o :: shs l).length = vs.length + 1 + 0
    simp; omega
  rep := fun j u e => by
    cases j with
    | zero =>
      have e : some (some o) = some (some u) := e
      cases e
      refine ⟨v, .inl rfl, ?_⟩
      show Rep _ G H v o (F i)
      cases o <;> exact r
    | succ j =>
      have e : (shs l)[j]? = some (some u) := e
      rw [List.getElem?_map] at e
      obtain ⟨d, h1, h2⟩ := Option.map_eq_some_iff.mp e
      cases h2
      obtain ⟨w, h3, h4⟩ := dpsGet (K := ⟨fr, tb, none, 0, none⟩) h h1
      exact ⟨w, .inl (by show (vs.map some)[j]? = _; rw [List.getElem?_map, h3]; rfl), h4, rfl⟩
  nod := fun j => by
    show (if j = 0 then F i else []).Nodup
    split
    · exact S.nod i
    · exact .nil
  off := fun j a ha => by
    have ha : a ∈ (if j = 0 then F i else []) := ha
    split at ha
    · exact S.off i a ha
    · cases ha
  dis := fun j k a h1 h2 => by
    have h1 : a ∈ (if j = 0 then F i else []) := h1
    have h2 : a ∈ (if k = 0 then F i else []) := h2
    split at h1
    · split at h2
      · omega
      · cases h2
    · cases h1
  obj := fun o e => nomatch e
  exs := fun o e => nomatch e
theorem re_callM {mg : Str → Option Value} {n : Nat} {g : DS → Option DR} {i : Nat} {t : TA} {fa : DS → Option (List RV × DS)} (hi : i < K.n) (ha : RA K t fa) : RE K (tCallS (spO ⟨K.fr, K.tb, none, n, none⟩ mg g) (WE (Z0 mg).W) (tCons (tVar i) t)) (fCallM n g i fa) := by
  intro G H F σ ds rv ds' Q S e q
  unfold fCallM at e
  split at e
  · rename_i o0 ho0
    simp only [Option.bind_eq_some_iff] at e
    obtain ⟨⟨ra, d1⟩, e1, ⟨l, d2⟩, e2, e3⟩ := e
    split at e3
    · rename_i o ho
      split at e3
      · rename_i hn
        simp only [Option.bind_eq_some_iff] at e3
        obtain ⟨dr, e4, e5⟩ := e3
        cases dr with
        | ex x d => cases e5
        | ret o' dd' =>
        cases e5
        obtain ⟨v0, k1, k2⟩ := S.rep i _ ho0
        have k3 := look_at k1 (by rw [S.sl]; exact hi)
        refine ⟨v0, k3, ?_⟩
        refine ha G H F σ ds ra d1 _ S e1 fun vs G1 H1 F1 fp1 S1 t1 r1 f1 => ?_
        obtain ⟨G2, F2, S2, t2, s2, dd, _⟩ := frzs_ok (fq := []) S1 t1 r1 (by rw [List.append_nil]; exact f1) e2
        obtain ⟨v1, m1, m2⟩ := S2.rep i _ ho
        obtain rfl := look_eq m1 k3
        have hl : vs.length + 1 = n := by rw [dpsLen dd]; exact hn
        subst hl
        have Sc := SI.moved S2 m2 dd
        refine ⟨by simp, G2, _, _, _, Sc, e4, ?_⟩
        intro v G' H' F' fp S' t' r' f'
        have inn : ∀ b, Wf (fun j => if j = 0 then F2 i else []) b → b ∈ F2 i := fun b ⟨j, hj⟩ => by
          have hj : b ∈ (if j = 0 then F2 i else []) := hj
          split at hj
          · exact hj
          · cases hj
        have S3 := S2.shut i hi
        have out : ∀ b, Wf (offF F2 i []) b → b ∉ F2 i := fun b ⟨j, hj⟩ hb => by
          unfold offF at hj
          split at hj
          · cases hj
          · rename_i hji; exact hji (S2.dis j i b hj hb)
        have S4 := S3.frame t' S'.sub S'.gnt S'.tab fun a h1 h2 => out a h1 (inn a h2)
        have tt : Step (Wf F) G H G' H' (Wf (offF F2 i [])) := t2.trans ⟨t'.sg, fun b x e n nb => t'.keep b x e (fun z => n ⟨i, inn b z⟩) nb, t'.dom, fun b x e => (t'.new b x e).imp id fun z => z.imp (fun z => ⟨i, inn b z⟩) id, fun b z => .inl (wf_shut z)⟩
        refine q v G' H' _ fp S4 tt r' ⟨f'.nod, fun a h => ⟨(f'.off a h).1, (f'.off a h).2.1, fun z => ?_⟩, fun a h => ?_⟩
        · rcases f'.new a h with z' | z'
          · exact out a z (inn a z')
          · obtain ⟨j, hj⟩ := wf_shut z
            obtain ⟨_, x, y, _⟩ := S2.off j a hj
            rw [z'] at y; cases y
        · rcases f'.new a h with z' | z'
          · exact t2.own a ⟨i, inn a z'⟩
          · exact .inr (t2.back z')
      · cases e3
    · cases e3
  · cases e
section
variable {X : Cx} {es : List Expr} {tl : TA} {fl : DS → Option (List RV × DS)} {pos p py : Pos} {k : Nat} {x y : Str} {n : Nat} {g : DS → Option DR}
theorem j_callM {mg : Str → Option Value} (i : Nat) (d : Dk X.prog X.w K.fr K.tb mg X.base k x n g) (hr : Room k X.A) (h : JA K X es tl fl) (hN : X.N[i]? = some y := by rfl) (hi : i < K.n := by exact of_decide_eq_true rfl) (hv : Vis X.env.scope y := by first | exact Or.inl rfl | exact Or.inr (Or.inl rfl) | exact Or.inr (Or.inr rfl)) (hd : (y == ("__debug__" : Str)) = false := by decide)
    (hcd : (y == ("__classdict__" : Str)) = false := by decide) (hg : Gl X x := by rfl) (hdb : (x == ("__debug__" : Str)) = false := by decide) (he : starEach (.Name y py :: es) X.env = (false, eval (.Name y py) X.env) :: starEach es X.env := by rfl) (hpl : (backTo pos (starEach es X.env)).any (·.1) = false := by rfl) (hk : X.K = K.fr := by rfl) (hmg : X.mg = mg := by rfl) :
    JE K X (.Call (.Name x p) (.Name y py :: es) [] pos) (tCallS (spO ⟨K.fr, K.tb, none, n, none⟩ mg g) (WE (Z0 mg).W) (tCons (tVar i) tl)) (fCallM n g i fl) := by
  subst hmg
  obtain ⟨f, fd, ps, F, hm, hkp, hb⟩ := d
  rw [← hk] at F hkp hb
  refine ⟨?_, re_callM hi h.r⟩
  rw [← hk]
  exact pe_callS F hr hg hm hkp hb (fun σ => passAt takes0 σ) (pa_cons (pe_var hN hv hd hcd) h.p he) hdb he hpl
end
end Fx
set_option Elab.async false
set_option linter.all false
set_option maxRecDepth 100000
set_option maxHeartbeats 4000000
/-! Gx: the end of a law's row, with a table of code objects. -/
namespace Fx
open PySem PySem.Spec L2
/-- T with the empty table at P0 -/
def withT (P0 : Addr) (T : Hp) : Hp := fun b => if b = P0 then some (.tbl #[]) else T b
theorem withT_at {P0 : Addr} {T : Hp} : withT P0 T P0 = some (.tbl #[]) := if_pos rfl
theorem withT_off {P0 b : Addr} {T : Hp} (h : b ≠ P0) : withT P0 T b = T b := if_neg h
def OnlyT (P0 : Addr) (H : Hp) : Prop := ∀ b, H b = none ∨ b = P0 ∨ ∃ o xs, H b = some (.frz o (.lst xs))
theorem law_envT {P : Program} {w : World} {K : PySem.W.Frag} {mg mb : Str → Option Value} {a P0 c0 : Addr} {z : Shared} {us : List Value} {ns : List Int} (kin : K.In z.heap) (gl : z.heap.Ns mainGlobals mg) (bl : z.heap.Ns builtinsNs mb)
    (bb : ∀ x : Str, x ≠ "__name__" → mb x = bootBuiltins x) (lim : z.heap.NoLimit) (gens : z.gens = #[]) (ho : z.heap.get? a = some { cls := .type "list", data := .seq us.toArray }) (hi : PyProof.Rows.IntsAre us ns) (small : ns.length ≤ sizeLine) (seer : z.heap.NoSeer)
    (hTab : z.heap.get? P0 = some { cls := .none, data := .fields #[] }) (nT : K.lookup P0 = none) (hC : PySem.W.CodeHd z.heap c0 P0)
    (bmain : ∃ bm ob, mg "__builtins__" = some (.ref bm) ∧ bm ≠ builtinsNs ∧ z.heap.get? bm = some ob ∧ ob.cls = .type "module" ∧ ob.dict = some builtinsNs ∧ ob.data = .plain) :
    ∃ (H : Hp) (base : Heap), OnlyT P0 H ∧ H P0 = some (.tbl #[]) ∧ L2.SqL K H a (ns.map V.int) ∧ K.In base ∧ base.Ns mainGlobals mg ∧ base.NoSeer ∧ LamX.TabB base mg c0 P0 ∧ Env0 P w K mg base callerA [] z H := by
  have vals := vals_ints hi
  have aP : a ≠ P0 := fun e => by
    rw [e, hTab] at ho
    cases ho
  have step : ∀ T : Hp, Only T → L2.SqL K T a (ns.map V.int) → HOk P w T z.heap → (∀ c u, T c = some u → c = a ∧ K.lookup a = none) → ∃ (H : Hp) (base : Heap), OnlyT P0 H ∧ H P0 = some (.tbl #[]) ∧ L2.SqL K H a (ns.map V.int) ∧ K.In base ∧ base.Ns mainGlobals mg ∧ base.NoSeer ∧ LamX.TabB base mg c0 P0 ∧ Env0 P w K mg base callerA [] z H := by
    intro T oT sT okT onlyA
    have TP : T P0 = none := by
      rcases some_or (T P0) with ⟨u, e⟩ | e
      · exact absurd (onlyA _ _ e).1.symm aP
      · exact e
    have cases3 : ∀ c u, withT P0 T c = some u → c = P0 ∨ (c = a ∧ K.lookup a = none) := fun c u e => by
      by_cases h : c = P0
      · exact .inl h
      · rw [withT_off h] at e; exact .inr (onlyA c u e)
    have out : ∀ {c : Addr} {o : Obj}, z.heap.get? c = some o → o ≠ { cls := .none, data := .fields #[] } → o ≠ { cls := .type "list", data := .seq us.toArray } → withT P0 T c = none := fun {c o} e h1 h2 => by
      rcases some_or (withT P0 T c) with ⟨u, e'⟩ | e'
      · rcases cases3 c u e' with rfl | ⟨rfl, _⟩
        · rw [hTab] at e; exact absurd (Option.some.inj e).symm h1
        · rw [ho] at e; exact absurd (Option.some.inj e).symm h2
      · exact e'
    have names : ∀ {c : Addr} {m : Str → Option Value}, z.heap.Ns c m → (hidT z.heap (withT P0 T)).Ns c m := by
      rintro c m ⟨o, es, ep, e1, e2, e3⟩
      exact ⟨o, es, ep, hidT_get e1 (out e1 (fun q => by rw [q] at e2; cases e2) fun q => by rw [q] at e2; cases e2), e2, e3⟩
    have inn : K.In (hidT z.heap (withT P0 T)) := fun c o e => hidT_get (kin c o e) (by
      rcases some_or (withT P0 T c) with ⟨u, e'⟩ | e'
      · rcases cases3 c u e' with rfl | ⟨rfl, n⟩
        · rw [nT] at e; cases e
        · rw [n] at e; cases e
      · exact e')
    obtain ⟨mc, l1, l2⟩ := lim
    have bmo : ∀ {bm : Addr} {ob : Obj}, z.heap.get? bm = some ob → ob.cls = .type "module" → (hidT z.heap (withT P0 T)).get? bm = some ob := fun {bm ob} e1 e2 => hidT_get e1 (out e1 (fun q => by rw [q] at e2; exact absurd e2 (by simp)) fun q => by rw [q] at e2; exact absurd e2 (by simp))
    have see : (hidT z.heap (withT P0 T)).NoSeer := by
      obtain ⟨⟨m1, a1, a2⟩, ⟨m2, b1, b2⟩, ⟨m3, c1, c2⟩, ⟨m4, bm, ob, d1, d2, d3, d4, d5⟩⟩ := seer
      exact ⟨⟨m1, names a1, a2⟩, ⟨m2, names b1, b2⟩, ⟨m3, names c1, c2⟩, ⟨m4, bm, ob, names d1, d2, bmo d3 d4, d4, d5⟩⟩
    have tb : LamX.TabB (hidT z.heap (withT P0 T)) mg c0 P0 := by
      refine ⟨?_, ?_, fun q => ?_⟩
      · obtain ⟨o, vs, file, tf, flags, tg, inF, text, tt, e1, e2, r⟩ := hC
        exact ⟨o, vs, file, tf, flags, tg, inF, text, tt, hidT_get e1 (out e1 (fun q => by rw [q] at e2; exact absurd e2 (by simp)) fun q => by rw [q] at e2; exact absurd e2 (by simp)), e2, r⟩
      · obtain ⟨bm, ob, b1, b2, b3, b4, b5, b6⟩ := bmain
        refine ⟨bm, ob, b1, b2, fun q => ?_, fun q => ?_, bmo b3 b4, b4, b5, b6⟩
        · obtain ⟨o, es, ep, e, hd, _⟩ := gl
          rw [q, e] at b3
          cases b3
          rw [hd] at b6
          cases b6
        · rw [q, hTab] at b3
          cases b3
          exact absurd b4 (by simp)
      · obtain ⟨o, es, ep, e, hd, _⟩ := gl
        rw [q, hTab] at e
        cases e
        cases hd
    have hok : HOk P w (withT P0 T) z.heap := fun c u e => by
      by_cases h : c = P0
      · subst h
        rw [withT_at] at e
        cases e
        exact hTab
      · rw [withT_off h] at e
        exact (okT c u e).stay (fun _ _ _ q => q) (fun d q => by
          by_cases hd : d = P0
          · subst hd; rw [TP] at q; cases q
          · rw [withT_off hd]; exact q) fun d xs q => by
          by_cases hd : d = P0
          · subst hd; rw [TP] at q; cases q
          · rw [withT_off hd]; exact q
    have sq : L2.SqL K (withT P0 T) a (ns.map V.int) := by
      rcases sT with (h | ⟨o, h⟩) | h
      · exact .inl (.inl (by rw [withT_off aP]; exact h))
      · exact .inl (.inr ⟨o, by rw [withT_off aP]; exact h⟩)
      · exact .inr h
    refine ⟨withT P0 T, hidT z.heap (withT P0 T), fun b => ?_, withT_at, sq, inn, names gl, see, tb, rfl, ⟨inn, names gl, ⟨mb, names bl, bb⟩, mc, names l1, l2⟩, fun c o e => of_hidT e, Nat.le_of_eq (hidT_size _ _), trivial, fun c hc => (nomatch (show c ∈ ([] : List Addr) from hc)), hok, .of_eq gens⟩
    by_cases h : b = P0
    · exact .inr (.inl h)
    · rw [withT_off h]
      rcases oT b with n | n
      · exact .inl n
      · exact .inr (.inr n)
  rcases some_or (K.lookup a) with ⟨o, e⟩ | e
  · have e1 := kin a o e
    rw [ho] at e1
    cases e1
    exact step (fun _ => none) (fun _ => .inl rfl) (.inr ⟨_, us.toArray, _, e, rfl, rfl, rfl, by rw [List.size_toArray, hi.length]; exact small, by simpa using vals⟩) (fun _ _ q => nomatch q) fun _ _ q => nomatch q
  · refine step (scriptH a us ns) only_script (.inl (.inr ⟨_, scriptH_at⟩)) (fun c u q => ?_) fun c u q => ?_
    · by_cases h : c = a
      · subst h
        rw [scriptH_at] at q
        cases q
        exact ⟨ho, by rw [List.length_map]; exact small, us, _, vals, ho⟩
      · rw [scriptH_off h] at q; cases q
    · by_cases h : c = a
      · exact ⟨h, e⟩
      · rw [scriptH_off h] at q; cases q
end Fx
set_option Elab.async false
set_option linter.all false
set_option maxRecDepth 100000
set_option maxHeartbeats 4000000
/-! Gx: the end of a law's row, with a table of code objects: the run, the walk. -/
namespace Fx
open PySem PySem.Spec L2
/-- the law's own def: its body at the law's call -/
theorem law_runGT {P : Program} {w : World} {K : PySem.W.Frag} {mg : Str → Option Value} {base : Heap} {k : Nat} {x : Str} {st : Stmt} {f a : Addr} {fd : FuncData} {N : List Str} {v : Str} {fb : DS → Option Out} {ns : List Int} {z : Shared} {H : Hp} {P0 : Addr} {qn : Str} (F : L2.Fun K x x st f fd) (S : FnScope N [v] (defScope st))
    (bind : ∀ (s : Shared) (u : Value), BindsTo s fd ⟨[u], []⟩ [(v, u)]) (hr : Room (k + 1) callerA) (oH : OnlyT P0 H) (hP0 : H P0 = some (.tbl #[])) (hTab : z.heap.get? P0 = some { cls := .none, data := .fields #[] }) (hct : isCodeTable z.heap P0) (sH : L2.SqL K H a (ns.map V.int)) (env : Env0 P w K mg base callerA [] z H)
    (body : ∀ (cdv : Value) (A : Around) (outer : List Env) (s : Shared) (H : Hp) (E : XK), Room k (A.deeper (PyProof.Rows.envOfC x (defScope st) s.heap.objs.size f cdv)) → (A.deeper (PyProof.Rows.envOfC x (defScope st) s.heap.objs.size f cdv)).guards = some [] →
      ∃ t T, JB ⟨K, [(P0, qn)], none, N.length, none⟩ (cxOf CX0 P w K mg base N x (defScope st) f cdv A outer s H E).nox (Zf mg) T (defBody st) t fb) (yes : ∃ d, funO [] 1 N.length fb [some (.sh (.list (ns.map PyData.int)))] = some (.ret (.sh (.bool true)) d)) :
    codeAny (model P w) callerA (.call (.ref f) ⟨[.ref a], []⟩) (fun r s' => r = .ok (.ret (.bool true)) ∧ PySem.OldK z.heap s'.heap ∧ s'.os = z.os ∧ PyProof.Rows.AllBare s'.gens) z := by
  obtain ⟨oc, od, kV, doc, pm, an, cdv, ct, osl, rfl, lk, hcd⟩ := F.ex
  have kin : K.In z.heap := env.mod.kin.keeps fun b o e => (env.bs b o e).1
  have lim : z.heap.NoLimit := env.mod.nolimit.keeps fun b o e => (env.bs b o e).1
  have kinds : ∀ y ∈ [v].zip [Value.ref a], (defScope st).names.lookup y.1 = some .local ∨ ((defScope st).names.lookup y.1 = some .cell ∧ ((cellsFrom (z.heap.objs.size + 1) (defScope st).names []).lookup y.1).isSome = true) := by
    intro y hy
    obtain rfl : y = (v, Value.ref a) := by simpa using hy
    rcases S.par v (by simp) with q | q
    · exact .inl q
    · exact .inr ⟨q, PySem.W.cellsFrom_some _ _ _ (.inl q)⟩
  refine codeAny_call_function hr.depth (kin _ _ lk) rfl S.co S.gen rfl (PySem.W.codeRec_of kin hcd) (bind z (.ref a) _ _ _ _ ?_)
  refine wpAny_newFunctionEnv_cells (binds := [(v, Value.ref a)]) S.kind kinds fun envv he s1 xx => ?_
  subst he
  refine ⟨lim.keeps xx.toInCall.keep, codeAny_func ?_⟩
  obtain ⟨t, T', J⟩ := body cdv callerA [] z H (fun _ _ _ => False) (hr.deeper _) rfl
  have I := inv_start (CX := CX0) (E := fun _ _ _ => False) (vs := [V.ref a]) (us := [Value.ref a]) S hr.hd env rfl (.cons rfl .nil) xx
  have dlist : L2.DpAll K H [V.ref a] [PyData.list (ns.map PyData.int)] := .cons (.lst sH (by
    clear sH yes
    induction ns with
    | nil => exact .nil
    | cons n ns ih => exact .cons (.int n) ih)) .nil
  have hN : [V.ref a].length ≤ N.length := by
    have z := congrArg List.length S.pre
    rw [List.length_take] at z
    simp at z ⊢
    omega
  have rd : t { nx := fun _ _ => False, rt := fun v _ => v = .bl true } (L2.start N [V.ref a]) H := by
    obtain ⟨dd, yes⟩ := yes
    have gs : ∀ b x, Gb H [] b = some x → NT x := fun b x e => (gb_some e).2.1
    have gd : L2.DpAll K (Gb H []) [V.ref a] [PyData.list (ns.map PyData.int)] := by
      refine .cons (.lst (xs := ns.map V.int) ?_ ?_) .nil
      · rcases sH with (h | ⟨o, h⟩) | h
        · exact .inl (.inl (gb_of h nt_lst (by simp)))
        · exact .inl (.inr ⟨o, gb_of h ⟨(fun _ h => nomatch h), (fun _ h => nomatch h)⟩ (by simp)⟩)
        · exact .inr h
      · clear dlist sH yes
        induction ns with
        | nil => exact .nil
        | cons n ns ih => exact .cons (.int n) ih
    have S0 : SI ⟨K, [(P0, qn)], none, 1, none⟩ (Gb H []) H ([V.ref a].map some) _ _ := SI.shared (vs := [V.ref a]) (fun b x e => (gb_some e).1) gs ⟨(fun p hp => by
      obtain rfl := List.mem_singleton.mp hp
      exact LamX.TabS.nil hP0), (fun b ps e => by
      rcases oH b with z | rfl | ⟨o, xs, z⟩
      · rw [e] at z; cases z
      · simp
      · rw [e] at z; cases z)⟩ gd
    have S1 : SI ⟨K, [(P0, qn)], none, N.length, none⟩ (Gb H []) H (L2.start N [V.ref a]) _ _ := S0.pad (K := ⟨K, [(P0, qn)], none, 1, none⟩) hN
    unfold funO at yes
    split at yes
    · rename_i o d ho
      cases yes
      exact J.r (Gb H []) H _ _ _ _ _ S1 ho fun v σ' G' H' F' fp sg t1 f1 r1 p1 => by
        have r1 : Dp ⟨K, [(P0, qn)], none, N.length, none⟩ G' v (.bool true) := r1.1
        cases r1
        rfl
    · cases yes
    · cases yes
    · cases yes
  refine wpAny_mono (J.p.run [] s1 (L2.start N [V.ref a]) H _ (I.wish _) rd) (fun fl s' hs => ?_) fun e s' hs => hs.elim
  cases fl with
  | next => obtain ⟨_, _, _, q⟩ := hs; exact q.elim
  | brk => obtain ⟨_, _, _, q⟩ := hs; exact q.elim
  | cont => obtain ⟨_, _, _, q⟩ := hs; exact q.elim
  | ret u =>
    obtain ⟨v', σ', H', J', rv, q⟩ := hs
    have q : v' = .bl true := q
    subst q
    obtain rfl : u = Value.bool true := rv
    have key : ∀ c o, c ≠ P0 → z.heap.get? c = some o → s'.heap.get? c = some o := fun c o hc e => by
      rcases some_or (H c) with ⟨y, h⟩ | h
      · rcases oH c with n | rfl | ⟨ob, xs, n⟩
        · rw [h] at n; cases n
        · exact absurd rfl hc
        · have later := J'.base.frzs c ob _ n
          obtain ⟨e1, _⟩ := env.hok c _ n
          obtain ⟨e2, _⟩ := J'.hok c _ later
          rw [e] at e1
          cases e1
          exact e2
      · exact J'.base.keep c o e h (by intro z; exact (nomatch (show c ∈ ([] : List Addr) from z))) (by intro z; exact (nomatch (show c ∈ ([] : List Addr) from z)))
    obtain ⟨more, hm⟩ := J'.base.tbls P0 #[] hP0
    have hg := J'.hok P0 _ hm
    refine ⟨rfl, ⟨fun c o e => ?_, fun c o e => ?_⟩, J'.os, J'.bare⟩
    · by_cases hc : c = P0
      · subst hc
        rw [hTab] at e
        cases e
        exact .inr (.inl ⟨hct, rfl, #[], more, rfl, by rw [Array.empty_append] at hg ⊢; exact hg⟩)
      · exact .inl (key c o hc e)
    · by_cases hc : c = P0
      · subst hc; exact ⟨_, hg⟩
      · exact ⟨o, key c o hc e⟩
/-- the goal that k_head leaves, for such a law -/
theorem walk_GT {l : PySem.W.OpenLaw} {n k : Nat} {q : Program} {loose : List Str} {XP : (Str → Option Value) → Heap → Prop} {YP : World → Heap → Prop} {d : DefRec} {K : Params → PySem.W.Frag} {st : Stmt} {N : List Str} {v xl qn : Str} {fb : DS → Option Out}
    (hn : l.most = some n) (hn2 : n ≤ sizeLine) (hdf : d.params.defaults = []) (hr : Room (k + 1) callerA) (hY : ∀ (w : World) (h : Heap), YP w h → (K w.params).In h) (hi : PyProof.Rows.importsNone q = true) (ht : l.prog.given.tree = none) (hrec : ∃ e ∈ PyProof.Rows.recsOf q, e.name = xl)
    (F : ∀ (w : World) (mg : Str → Option Value) (fa : Addr) (h : Heap), (K w.params).In h → h.Ns mainGlobals mg → mg d.name = some (.ref fa) →
      ∃ (x : Str) (fd : FuncData) (ct Pt : Addr), (∃ (fl : Addr) (ol : Obj) (fdl : FuncData), mg xl = some (.ref fl) ∧ (K w.params).lookup fl = some ol ∧ ol.data = .func fdl ∧ fdl.code = .ref ct) ∧ PySem.W.codeHdIn (K w.params) ct Pt = true ∧ (K w.params).lookup Pt = none ∧ L2.Fun (K w.params) x x st fa fd ∧ (∀ (s : Shared) (u : Value), BindsTo s fd ⟨[u], []⟩ [(v, u)]) ∧
        ∀ base : Heap, (K w.params).In base → base.Ns mainGlobals mg → Bl l.prog base mg ct Pt → ∀ (cdv : Value) (A : Around) (outer : List Env) (s : Shared) (H : Hp) (E : XK), Room k (A.deeper (PyProof.Rows.envOfC x (defScope st) s.heap.objs.size fa cdv)) →
          (A.deeper (PyProof.Rows.envOfC x (defScope st) s.heap.objs.size fa cdv)).guards = some [] → ∃ t T, JB ⟨K w.params, [(Pt, qn)], none, N.length, none⟩ (cxOf CX0 l.prog w (K w.params) mg base N x (defScope st) fa cdv A outer s H E).nox (Zf mg) T (defBody st) t fb)
    (S : FnScope N [v] (defScope st)) (yes : ∀ ns : List Int, ns.length ≤ n → (∀ k ∈ ns, Builtin.Int.intBits k ≤ 1048576) → ∃ d, funO [] 1 N.length fb [some (.sh (.list (ns.map PyData.int)))] = some (.ret (.sh (.bool true)) d)) :
    PySem.W.WalkO q loose XP YP l.row.toRowW d [] (fun f vs => PySem.call f vs) := by
  refine Att.attach_callB hn hdf fun w s₀ z mg mb fa o pm cd doc a us ns G Y ho hd hcd hmg hobj hints hlen hbits hg => ?_
  have KX := hY w _ Y
  obtain ⟨x, fd, ct, Pt, ⟨fl, ol, fdl, g1, g2, g3, g4⟩, cK, nT, FF, bd, body⟩ := F w mg fa _ KX G.T.g hmg
  obtain ⟨d', hd', rfl⟩ := hrec
  obtain ⟨a', o', fd', c', P', t1, t2, t3, t4, t5, t6⟩ := G.T.tab d' hd'
  rw [g1] at t1
  cases t1
  have o2 := KX _ _ g2
  rw [t2] at o2
  cases o2
  rw [g3] at t3
  cases t3
  rw [g4] at t4
  cases t4
  have hC := PySem.W.codeHd_of_K KX cK
  have eP : Pt = P' := by
    obtain ⟨o, vs, file, tf, flags, tg, inF, text, tt, e1, e2, e3, e4, _⟩ := id hC
    obtain ⟨⟨o'', vs', a1, a2, a3, a4⟩, _⟩ := id t6
    rw [e1] at a1
    cases a1
    rw [e3] at a3
    cases a3
    rw [e4] at a4
    cases a4
    rfl
  subst eP
  obtain ⟨H, base, oH, hP0, sH, b1, b2, b3, b4, env⟩ := law_envT (P := l.prog) (w := w) KX G.T.g G.T.b G.T.builtins G.T.nolimit hg hobj hints (Nat.le_trans hlen hn2) (G.T.seer hi) t6.2 nT hC G.T.bmain
  exact law_runGT FF S bd hr oH hP0 t6.2 t6.isCodeTable sH env (body base b1 b2 ⟨⟨b3, ht⟩, b4⟩) (yes ns hlen hbits)
end Fx
set_option Elab.async false
set_option linter.all false
set_option maxRecDepth 100000
/-! Gx: a comprehension over an owned list that stays owned. -/
namespace Fx
open PySem PySem.Spec L2
variable {K : Kc}
theorem lc_loopB {P : Hp → Hp → Addr → List D → List Addr → Prop} {a : Addr} {ys : List V} {g : TG} {tt : TT} {te : TE} {vs : List Nat} {τ : D → DS → Option (Option D × DS)} {W0 : Addr → Prop} {G0 H0 Gb : Hp} {σ : St} {A : Addr} {l : List D} {Q : VK}
    (hb : ∀ {G H es fp}, P G H A es fp → H a = some (.lst ys)) (hy : DpAll K Gb ys l) (hl : l.length ≤ 1000000)
    (turn : ∀ d w (p : Option D × DS) es x H (Nx : Hp → Prop), τ d w = some p → es.length ≤ 1000000 → (∃ G F fp, SI K G H (wipe σ vs) w F ∧ Step W0 G0 H0 G H (Wf F) ∧ Same Gb G ∧ P G H A es fp ∧ Fp G H (Wf F) W0 H0 (A :: fp) ∧ Dp K G x d) →
      (∀ H', LcI K P W0 G0 H0 Gb (wipe σ vs) A p.2 (es ++ p.1.toList) H' → Nx H') → g x (wipe σ vs) H fun σ2 H2 => wipe σ2 vs = wipe σ vs ∧ tt σ2 H2 fun b H3 =>
        if b = true then te σ2 H3 fun y H4 => ∃ acc, H4 A = some (.lst acc) ∧ acc.length < sizeLine ∧ Nx (upd H4 A (.lst (acc ++ [y]))) else Nx H3)
    {w : DS} {es : List D} {w' : DS} (he : lcF τ l w [] = some (es, w')) {H1 : Hp} (h0 : LcI K P W0 G0 H0 Gb (wipe σ vs) A w [] H1) (hd : ∀ H, LcI K P W0 G0 H0 Gb (wipe σ vs) A w' es H → Q (.ref A) H) :
    ∃ W : Nat → Nat → Hp → Prop, (∃ m, W 0 m H1) ∧ ∀ i m H, W i m H →
      ((Itl K a).stop i H ∧ Q (.ref A) H) ∨ ((Itl K a).go i H ∧ ∃ Nx : Hp → Prop, (∀ H', Nx H' → ∃ m', m' < m ∧ W (i + 1) m' H') ∧ ∀ x H', (Itl K a).yld i H x H' → g x (wipe σ vs) H' fun σ2 H2 => wipe σ2 vs = wipe σ vs ∧ tt σ2 H2 fun b H3 =>
        if b = true then te σ2 H3 fun y H4 => ∃ acc, H4 A = some (.lst acc) ∧ acc.length < sizeLine ∧ Nx (upd H4 A (.lst (acc ++ [y]))) else Nx H3) := by
  refine ⟨fun i m H => m = l.length - i ∧ i ≤ l.length ∧ ∃ wi ei, ei.length ≤ i ∧ lcF τ (l.drop i) wi ei = some (es, w') ∧ LcI K P W0 G0 H0 Gb (wipe σ vs) A wi ei H,
    ⟨l.length, by simp, Nat.zero_le _, w, [], Nat.le_refl _, by simpa using he, h0⟩, ?_⟩
  rintro i m H ⟨rfl, hi, wi, ei, hei, hrun, G, F, fp, S, t, sb, hp, hf⟩
  by_cases hlt : i < l.length
  · rw [List.drop_eq_getElem_cons hlt] at hrun
    simp only [lcF, Option.bind_eq_some_iff] at hrun
    obtain ⟨p, h1, h2⟩ := hrun
    have ha := hb hp
    have hS : SqL K H a ys := SqL.of ha
    have hlx : i < ys.length := by rw [dpsLen hy]; exact hlt
    refine .inr ⟨⟨ys, ys[i], hS, by simp [hlx]⟩, fun H' => LcI K P W0 G0 H0 Gb (wipe σ vs) A p.2 (ei ++ p.1.toList) H', fun H' q => ⟨l.length - (i + 1), by omega, rfl, hlt, p.2, _, ?_, h2, q⟩, fun x H' y => ?_⟩
    · rw [List.length_append]
      have : p.1.toList.length ≤ 1 := by cases p.1 <;> simp
      omega
    · obtain ⟨rfl, y⟩ := y
      have hx := y ys hS
      obtain ⟨d, d1, d2⟩ := dpsGetV hy hx
      have dl : l[i] = d := by
        rw [List.getElem?_eq_getElem hlt] at d1
        exact Option.some.inj d1
      exact turn l[i] wi p ei x _ _ h1 (by omega) ⟨G, F, fp, S, t, sb, hp, hf, by rw [dl]; exact dpMono sb _ _ d2⟩ fun _ q => q
  · have ei' : i = l.length := by omega
    subst ei'
    rw [List.drop_length] at hrun
    cases hrun
    exact .inl ⟨⟨ys, SqL.of (hb hp), by rw [dpsLen hy]; exact Nat.le_refl _⟩, hd H ⟨G, F, fp, S, t, sb, hp, hf⟩⟩

def AccB (K : Fr) (a : Addr) (ys : List V) (G H : Hp) (A : Addr) (es : List D) (fp : List Addr) : Prop := ∃ xs, H A = some (.lst xs) ∧ DpAll K G xs es ∧ fp = [a] ∧ H a = some (.lst ys)
def fLcB (i : Nat) (g : D → DS → Option DS) (ft : DS → Option (Bool × DS)) (fe : DS → Option (RV × DS)) (vs : List Nat) (ds : DS) : Option (RV × DS) := match ds[i]? with
  | some (some (.flat l)) => if (vs.all fun j => shB (ds.set i none)[j]?) && decide (l.length ≤ 1000000) then (lcF (turnC g ft fe vs) l (wipeD (ds.set i none) vs) []).map fun q => (.ov (.flat q.1), (mend (ds.set i none) q.2 vs).set i (some (.flat l))) else none
  | _ => none
theorem re_lcB {i : Nat} (hi : i < K.n) (hf0 : K.free i) {T vs : List Nat} {g : TG} {tt : TT} {te : TE} {fg : D → DS → Option DS} {ft : DS → Option (Bool × DS)} {fe : DS → Option (RV × DS)} (hT : ∀ i ∈ T, i ∈ vs) (hn : ∀ i ∈ vs, i < K.n) (hfr : ∀ i ∈ vs, K.free i) (hg : RG K T g fg) (ht : RT K tt ft) (he : RE K te fe) :
    RE K (tLc (iList K (tVar i)) g tt te vs) (fLcB i fg ft fe vs) := by
  intro G0 H0 F0 σ ds r ds' Q S0 e q
  unfold fLcB at e
  split at e
  · rename_i l hl0
    obtain ⟨a, ys, k1, k2, k3, k4⟩ := slot_flat S0 hi hl0
    split at e
    · rename_i hc
      simp only [Bool.and_eq_true, List.all_eq_true, decide_eq_true_eq] at hc
      obtain ⟨hv, hl⟩ := hc
      simp only [Option.map_eq_some_iff] at e
      obtain ⟨⟨es, w'⟩, e3, e4⟩ := e
      cases e4
      have S1 := S0.shut i hi
      have t1 : Step (Wf F0) G0 H0 G0 H0 (Wf (offF F0 i [])) := (Step.refl _ _ _).reown fun b hb => .inl ((wf_off hb).elim id fun z => nomatch z)
      refine ⟨.ref a, k1, a, rfl, ⟨ys, SqL.of k2⟩, fun A hA => ?_⟩
      obtain ⟨S2, t2, r2, f2⟩ := new_list (ys := []) (z := []) (S1.wiped vs hfr) t1 hA .nil
      have nAa : a ≠ A := ne_of_none k2 hA
      have fa : Fp G0 (upd H0 A (.lst [])) (Wf (offF F0 i [])) (Wf F0) H0 [a] := by
        refine ⟨by simp, fun b hb => ?_, fun b hb => ?_⟩
        · obtain rfl : b = a := by simpa using hb
          refine ⟨(S0.off i b (by simp [k4])).1, ⟨_, (upd_ne nAa).trans k2, nt_lst⟩, fun ⟨j, hj⟩ => ?_⟩
          unfold offF at hj
          split at hj
          · cases hj
          · rename_i hji
            exact hji (S0.dis j i b hj (by simp [k4]))
        · obtain rfl : b = a := by simpa using hb
          exact .inl ⟨i, by simp [k4]⟩
      have f3 : Fp G0 (upd H0 A (.lst [])) (Wf (offF F0 i [])) (Wf F0) H0 ([A] ++ [a]) := f2.app fa fun y h1 h2 => by
        obtain rfl : y = A := by simpa using h1
        have : y = a := by simpa using h2
        exact nAa this.symm
      refine lc_loopB (P := AccB K a ys) (σ := σ) (W0 := Wf F0) (G0 := G0) (H0 := H0) (Gb := G0) (fun h => h.choose_spec.2.2.2) k3 hl ?_ e3 ⟨G0, _, [a], S2, t2, Same.refl G0, ⟨[], upd_same, .nil, rfl, (upd_ne nAa).trans k2⟩, f3⟩ ?_
      · rintro d w p es x H Nx hτ hes ⟨G, F, fp, S, t, sb, ⟨xs, hx1, hx2, rfl, hx5⟩, hf, dd⟩ nx
        simp only [turnC, Option.bind_eq_some_iff] at hτ
        obtain ⟨d1, q1, ⟨b, d2⟩, q2, q3⟩ := hτ
        refine hg G H F _ w x d d1 _ S dd q1 fun σ2 F2 S2 w2 o2 => ⟨wipe_off hT o2, ?_⟩
        have tt2 : Step (Wf F0) G0 H0 G H (Wf F2) := t.reown fun b hb => t.own b (w2 b hb)
        have hf2 : Fp G H (Wf F2) (Wf F0) H0 [A, a] := ⟨hf.nod, fun a ha => ⟨(hf.off a ha).1, (hf.off a ha).2.1, fun z => (hf.off a ha).2.2 (w2 a z)⟩, hf.new⟩
        refine ht G H F2 σ2 d1 b d2 _ S2 q2 fun G3 H3 F3 S3 t3 => ?_
        have hf3 := hf2.step t3
        have hx3 : H3 A = some (.lst xs) := hf2.keeps t3 A (by simp) _ hx1
        have hy3 : H3 a = some (.lst ys) := hf2.keeps t3 a (by simp) _ hx5
        have ww : wipe σ2 vs = wipe σ vs := wipe_off hT o2
        cases b with
        | true =>
          simp only [if_true, Option.bind_eq_some_iff, Option.map_eq_some_iff] at q3 ⊢
          obtain ⟨⟨rv, d3⟩, q4, ⟨z, d4⟩, q5, q6⟩ := q3
          cases q6
          refine he G3 H3 F3 σ2 d2 rv d3 _ S3 q4 fun v G4 H4 F4 fp4 S4 t4 r4 f4 => ?_
          have hf4 := hf3.step t4
          have hx4 : H4 A = some (.lst xs) := hf3.keeps t4 A (by simp) _ hx3
          have hy4 : H4 a = some (.lst ys) := hf3.keeps t4 a (by simp) _ hy3
          have tall := (tt2.trans t3).trans t4
          have f5 : Fp G4 H4 (Wf F4) (Wf F0) H0 (fp4 ++ [A, a]) := (f4.since (tt2.trans t3)).app hf4 fun y h1 h2 => by
            rcases f4.new y h1 with z | z
            · exact (hf3.off y h2).2.2 z
            · obtain ⟨_, ⟨x, hx⟩, _⟩ := hf3.off y h2
              rw [hx.1] at z; cases z
          obtain ⟨G5, F5, S5, t5, s5, dd5, f6⟩ := frz_ok S4 tall r4 f5 q5
          have fA := f6.off A (by simp)
          have naA : a ≠ A := fun z => by
            have := f6.nod
            rw [z] at this
            simp at this
          refine ⟨xs, hx4, by rw [dpsLen hx2]; exact szOf hes, nx _ ⟨G5, F5, [a], ?_, t5.poke (f6.new A (by simp)), ?_, ⟨xs ++ [v], upd_same, ?_, rfl, (upd_ne naA).trans hy4⟩, ⟨f6.nod, fun b hb => ?_, f6.new⟩⟩⟩
          · have := (S5.poke (o := .lst (xs ++ [v])) hx4 nt_lst fA.1 fA.2.2 nt_lst).wiped vs hfr
            rw [ww] at this
            exact this
          · exact ((sb.trans t3.sg).trans t4.sg).trans s5
          · exact dpsApp (dpsMono ((t3.sg.trans t4.sg).trans s5) _ _ hx2) (.cons dd5 .nil)
          · by_cases h : b = A
            · subst h
              exact ⟨fA.1, ⟨_, upd_same, nt_lst⟩, fA.2.2⟩
            · obtain ⟨h1, h2, h3⟩ := f6.off b hb
              exact ⟨h1, by rw [upd_ne h]; exact h2, h3⟩
        | false =>
          simp only [Bool.false_eq_true, if_false] at q3 ⊢
          cases q3
          refine nx _ ⟨G3, F3, [a], ?_, tt2.trans t3, sb.trans t3.sg, ⟨xs, hx3, ?_, rfl, hy3⟩, hf3⟩
          · have := S3.wiped vs hfr
            rw [ww] at this
            exact this
          · simpa using dpsMono t3.sg _ _ hx2
      · rintro H ⟨G, F, fp, S, t, sb, ⟨xs, hx1, hx2, rfl, hx5⟩, hf⟩
        obtain ⟨F', S', w'⟩ := SI.mended S1 sb S hv hn hfr
        have t' : Step (Wf F0) G0 H0 G H (Wf F') := t.reown fun b hb => t.own b (w' b hb)
        have hfa : Fp G H (Wf F') (Wf F0) H0 [a] := ⟨by simp, fun b hb => ⟨(hf.off b (by simp at hb; simp [hb])).1, (hf.off b (by simp at hb; simp [hb])).2.1, fun z => (hf.off b (by simp at hb; simp [hb])).2.2 (w' b z)⟩, fun b hb => hf.new b (by simp at hb; simp [hb])⟩
        refine q (.ref A) G H _ [A] (S'.open' i hi hf0 k1 ⟨a, ys, rfl, hx5, dpsMono sb _ _ k3, rfl⟩ hfa) (t'.put hfa.new) ⟨A, xs, rfl, hx1, hx2, rfl⟩ ⟨by simp, fun b hb => ?_, fun b hb => hf.new b (by simp at hb; simp [hb])⟩
        obtain rfl : b = A := by simpa using hb
        refine ⟨(hf.off b (by simp)).1, (hf.off b (by simp)).2.1, fun z => ?_⟩
        rcases wf_off z with z | z
        · exact (hf.off b (by simp)).2.2 (w' b z)
        · have := hf.nod
          have zz : b = a := by simpa using z
          rw [zz] at this
          simp at this
    · cases e
  · cases e
end Fx
set_option Elab.async false
set_option linter.all false
set_option maxRecDepth 100000
/-! Gx: comprehension over an owned list that stays owned, joined with its text. -/
namespace Fx
open PySem PySem.Spec L2
variable {K : Fr} {Z : Zc}
section
variable {X : Cx} {tg elt : Expr} {te : TE} {fe : DS → Option (RV × DS)} {t : TT} {ft : DS → Option (Bool × DS)} {g : TG} {fg : D → DS → Option DS} {T : List Nat} {ifs : List Expr} {scope : Scope} {own : List (Str × Nat)} {pos p : Pos}
theorem j_lcB (j : Nat) {x : Str} (hc : X.calm = true) (hN : X.N.Nodup) (ok : BlkOk X.N X.env.scope scope own) (hg : ∀ (s : Shared) (H : Hp) (C : Addr) (cl : List (Str × Addr)) (fp : List Addr), JG K (X.blk s H scope (compEnvC scope cl C X.env) fp) T tg g fg)
    (ht : ∀ (s : Shared) (H : Hp) (C : Addr) (cl : List (Str × Addr)) (fp : List Addr), JTs K (X.blk s H scope (compEnvC scope cl C X.env) fp) ifs t ft) (he : ∀ (s : Shared) (H : Hp) (C : Addr) (cl : List (Str × Addr)) (fp : List Addr), JE K (X.blk s H scope (compEnvC scope cl C X.env) fp) elt te fe)
    (hT : ∀ i ∈ T, i ∈ own.map (·.2)) (s0 : Shared) (H0 : Hp) (hj : X.N[j]? = some x := by rfl) (hv : Vis X.env.scope x := by first | exact Or.inl rfl | exact Or.inr (Or.inl rfl) | exact Or.inr (Or.inr rfl)) (hd : (x == ("__debug__" : Str)) = false := by decide)
    (hcd : (x == ("__classdict__" : Str)) = false := by decide) (hn : ((own.map (·.2)).all fun i => decide (i < K.n)) = true := by rfl) (hf : ((own.map (·.2)).all fun i => K.freeB i) = true := by rfl) (hs : ∀ y, foldedSetIterable (.Name x p) X.env y = pure y := by intro _; rfl) (hk : X.K = K.fr := by rfl) (kin : decide (j < K.n) = true := by rfl) (kif : K.freeB j = true := by rfl) :
    JE K X (.ListComp elt [⟨tg, .Name x p, ifs, 0⟩] scope pos) (tLc (iList K (tVar j)) g t te (own.map (·.2))) (fLcB j fg ft fe (own.map (·.2))) := by
  obtain ⟨kf, kt, ko, kn, kx⟩ := K
  subst hk
  exact ⟨pe_lc hc hN (pi_list (pe_var hj hv hd hcd)) ok (fun s H C cl fp => (hg s H C cl fp).p) (fun s H C cl fp => (ht s H C cl fp).p) (fun s H C cl fp => (he s H C cl fp).p) hs,
    re_lcB (of_decide_eq_true kin) (Kc.freeB_ok kif) hT (allN hn) (allF hf) (hg s0 H0 0 [] []).r (ht s0 H0 0 [] []).r (he s0 H0 0 [] []).r⟩
theorem s_setLcB (i j : Nat) {x y : Str} {py spos : Pos} (hc : X.calm = true) (hN : X.N.Nodup) (hsw : swapsWith (.ListComp elt [⟨tg, .Name x p, ifs, 0⟩] scope pos) (some (.Name y py)) spos.line X.env = pure true) (ok : BlkOk X.N X.env.scope scope own) (hg : ∀ (s : Shared) (H : Hp) (C : Addr) (cl : List (Str × Addr)) (fp : List Addr), JG K (X.blk s H scope (compEnvC scope cl C X.env) fp) T tg g fg)
    (ht : ∀ (s : Shared) (H : Hp) (C : Addr) (cl : List (Str × Addr)) (fp : List Addr), JTs K (X.blk s H scope (compEnvC scope cl C X.env) fp) ifs t ft) (he : ∀ (s : Shared) (H : Hp) (C : Addr) (cl : List (Str × Addr)) (fp : List Addr), JE K (X.blk s H scope (compEnvC scope cl C X.env) fp) elt te fe)
    (hT : ∀ i ∈ T, i ∈ own.map (·.2)) (s0 : Shared) (H0 : Hp) (hj : X.N[j]? = some x := by rfl) (hv : Vis X.env.scope x := by first | exact Or.inl rfl | exact Or.inr (Or.inl rfl) | exact Or.inr (Or.inr rfl)) (hd : (x == ("__debug__" : Str)) = false := by decide)
    (hcd : (x == ("__classdict__" : Str)) = false := by decide) (hn : ((own.map (·.2)).all fun i => decide (i < K.n)) = true := by rfl) (hf : ((own.map (·.2)).all fun i => K.freeB i) = true := by rfl) (hin : decide (i < K.n) = true := by rfl) (hif : K.freeB i = true := by rfl) (hy : X.N[i]? = some y := by rfl) (hyl : X.env.scope.names.lookup y = some .local := by rfl) (hs : ∀ y, foldedSetIterable (.Name x p) X.env y = pure y := by intro _; rfl) (hk : X.K = K.fr := by rfl) (kin : decide (j < K.n) = true := by rfl) (kif : K.freeB j = true := by rfl) :
    JS K X Z [i] (.Assign [.Name y py] (.ListComp elt [⟨tg, .Name x p, ifs, 0⟩] scope pos) spos) (tAsg (tLc (iList K (tVar j)) g t te (own.map (·.2))) (gName i)) (fSet i (fLcB j fg ft fe (own.map (·.2)))) := by
  obtain ⟨kf, kt, ko, kn, kx⟩ := K
  subst hk
  exact ⟨ps_setLc hc hN hy hyl hsw (pi_list (pe_var hj hv hd hcd)) ok (fun s H C cl fp => (hg s H C cl fp).p) (fun s H C cl fp => (ht s H C cl fp).p) (fun s H C cl fp => (he s H C cl fp).p) hs,
    rs_set (of_decide_eq_true hin) (Kc.freeB_ok hif) (re_lcB (of_decide_eq_true kin) (Kc.freeB_ok kif) hT (allN hn) (allF hf) (hg s0 H0 0 [] []).r (ht s0 H0 0 [] []).r (he s0 H0 0 [] []).r)⟩
end
end Fx
set_option Elab.async false
set_option linter.all false
set_option maxRecDepth 100000
set_option maxHeartbeats 4000000
/-! Gx: min, max of two numbers; a op b op c; sorted(xs) of data that are alike; defs that call repr. -/
namespace Fx
open PySem PySem.Spec L2
/-! ### min, max -/
def g2I (f : Int → Int → Int) (l : List D) : Option D := match l with
  | [.int i, .int j] => some (.int (f i j))
  | _ => none
section
variable {K : Kc} {X : Cx} {es : List Expr} {e a b c : Expr} {tl : TA} {fl : DS → Option (List RV × DS)} {ta tb tc : TE} {fa fb fc : DS → Option (RV × DS)} {p pos : Pos}
theorem vca_2I (f : Int → Int → Int) : VCa K (fun xs H Q => ∃ i j, xs = [.int i, .int j] ∧ Q (.int (f i j)) H) (g2I f) := by
  intro H xs l z Q h hz q
  unfold g2I at hz
  split at hz
  · cases hz
    cases h with
    | cons h1 h2 =>
      cases h2 with
      | cons h3 h4 =>
        cases h4
        cases h1
        cases h3
        exact ⟨_, _, rfl, q _ (.int _)⟩
  · cases hz
theorem j_min2 (hc : X.calm = true) (hm : X.mg "min" = none) (h : JA K X (e :: es) tl fl) (hg : Gl X "min" := by rfl) (hdb : (("min" : Str) == ("__debug__" : Str)) = false := by decide) (he : starEach (e :: es) X.env = (false, eval e X.env) :: starEach es X.env := by rfl) (hpl : (backTo pos (starEach es X.env)).any (·.1) = false := by rfl) :
    JE K X (.Call (.Name "min" p) (e :: es) [] pos) (tCB (fun xs H Q => ∃ i j, xs = [.int i, .int j] ∧ Q (.int (if j < i then j else i)) H) tl) (fCa (g2I fun i j => if j < i then j else i) fl) := ⟨pe_callB (call_min2 hc) hg hm (by decide +kernel) h.p (by decide) hdb he hpl, re_cb (vca_2I _) h.r⟩
theorem j_max2 (hc : X.calm = true) (hm : X.mg "max" = none) (h : JA K X (e :: es) tl fl) (hg : Gl X "max" := by rfl) (hdb : (("max" : Str) == ("__debug__" : Str)) = false := by decide) (he : starEach (e :: es) X.env = (false, eval e X.env) :: starEach es X.env := by rfl) (hpl : (backTo pos (starEach es X.env)).any (·.1) = false := by rfl) :
    JE K X (.Call (.Name "max" p) (e :: es) [] pos) (tCB (fun xs H Q => ∃ i j, xs = [.int i, .int j] ∧ Q (.int (if j > i then j else i)) H) tl) (fCa (g2I fun i j => if j > i then j else i) fl) := ⟨pe_callB (call_max2 hc) hg hm (by decide +kernel) h.p (by decide) hdb he hpl, re_cb (vca_2I _) h.r⟩
/-! ### a op b op c, of numbers -/
def fCh (f f' : Int → Int → Bool) (fa fb fc : DS → Option (RV × DS)) (ds : DS) : Option (RV × DS) :=
  (fa ds).bind fun p => (fb p.2).bind fun q => match see p.1 q.2, see q.1 q.2 with
    | some (.int i), some (.int j) => if f i j = true then (fc q.2).bind fun r => match see r.1 r.2 with
        | some (.int k) => some (.ov (.sh (.bool (f' j k))), r.2)
        | _ => none
      else some (.ov (.sh (.bool false)), q.2)
    | _, _ => none
theorem re_chain {f f' : Int → Int → Bool} (ha : RE K ta fa) (hb : RE K tb fb) (hc : RE K tc fc) : RE K (tChain (rI0 fun i j => .bl (f i j)) (rI0 fun i j => .bl (f' i j)) ta tb tc) (fCh f f' fa fb fc) := by
  intro G H F σ ds rv ds' Q S e q
  simp only [fCh, Option.bind_eq_some_iff] at e
  obtain ⟨⟨ra, d1⟩, e1, ⟨rb, d2⟩, e2, e3⟩ := e
  split at e3
  · rename_i i j hi hj
    refine ha G H F σ ds ra d1 _ S e1 fun v1 G1 H1 F1 fp1 S1 t1 r1 f1 => ?_
    refine hb G1 H1 F1 σ d1 rb d2 _ S1 e2 fun v2 G2 H2 F2 fp2 S2 t2 r2 f2 => ?_
    have z1 := see_ok S2 (r1.step f1 t2) hi
    have z2 := see_ok S2 r2 hj
    cases z1
    cases z2
    refine ⟨i, j, rfl, rfl, f i j, rfl, ?_⟩
    split at e3
    · rename_i hf
      rw [if_pos hf]
      simp only [Option.bind_eq_some_iff] at e3
      obtain ⟨⟨rc, d3⟩, e4, e5⟩ := e3
      split at e5
      · rename_i k hk
        cases e5
        refine hc G2 H2 F2 σ d2 rc d3 _ S2 e4 fun v3 G3 H3 F3 fp3 S3 t3 r3 f3 => ?_
        have z3 := see_ok S3 r3 hk
        cases z3
        exact ⟨j, k, rfl, rfl, q _ G3 H3 F3 [] S3 ((t1.trans t2).trans t3) ⟨.bl _, rfl⟩ .nil⟩
      · cases e5
    · rename_i hf
      cases e3
      rw [if_neg hf]
      exact q _ G2 H2 F2 [] S2 (t1.trans t2) ⟨.bl _, rfl⟩ .nil
  · cases e3
/-- the comparisons of numbers -/
inductive CmpN (X : Cx) : CmpOp → (Int → Int → Bool) → Prop
  | lt : CmpN X .Lt fun i j => decide (i < j)
  | le : CmpN X .LtE fun i j => decide (i ≤ j)
  | gt : CmpN X .Gt fun i j => decide (j < i)
  | ge : CmpN X .GtE fun i j => decide (j ≤ i)
theorem CmpN.ok {op : CmpOp} {f : Int → Int → Bool} : CmpN X op f → OpR X (compareOp op) (rI0 fun i j => .bl (f i j))
  | .lt => op_lt
  | .le => op_le
  | .gt => op_gt
  | .ge => op_ge
theorem j_chain {op op' : CmpOp} {f f' : Int → Int → Bool} (o : CmpN X op f) (o' : CmpN X op' f') (ha : JE K X a ta fa) (hb : JE K X b tb fb) (hc : JE K X c tc fc) (hm : lastMarks [op, op'] [b, c] = false := by with_unfolding_all rfl) :
    JE K X (.Compare a [op, op'] [b, c] pos) (tChain (rI0 fun i j => .bl (f i j)) (rI0 fun i j => .bl (f' i j)) ta tb tc) (fCh f f' fa fb fc) := ⟨pe_chain o.ok o'.ok ha.p hb.p hc.p hm, re_chain ha.r hb.r hc.r⟩
theorem k_chain {op op' : CmpOp} {f f' : Int → Int → Bool} (o : CmpN X op f) (o' : CmpN X op' f') (ha : JE K X a ta fa) (hb : JE K X b tb fb) (hc : JE K X c tc fc) (hm : lastMarks [op, op'] [b, c] = false := by with_unfolding_all rfl) :
    JT K X (.Compare a [op, op'] [b, c] pos) (tTest (tChain (rI0 fun i j => .bl (f i j)) (rI0 fun i j => .bl (f' i j)) ta tb tc)) (fBool (fCh f f' fa fb fc)) := ⟨pt_chain o.ok o'.ok ha.p hb.p hc.p hm, rt_bool (re_chain ha.r hb.r hc.r)⟩
end
/-! ### sorted(xs), the items alike -/
def leD (a b : D) : Bool := !PySem.W.dataLt b a
def sortD (l : List D) : List D := l.mergeSort leD
def SortOk (l : List D) : Prop := PySem.W.AllAlike l ∧ PySem.W.Sortable l ∧ (∀ d ∈ l, d.depth ≤ 40) ∧ l.length ≤ 1000000
noncomputable def gSorted (l : List D) : Option (List D) := match l with
  | [.list l] => if yes (SortOk l) = true then some (sortD l) else none
  | _ => none
def rSorted (fr : PySem.W.Frag) : List V → Hp → VK → Prop := fun xs H Q => ∃ (G : Hp) (p : Addr) (ys : List V) (l : List D), xs = [.ref p] ∧ Same G H ∧ L2.SqL fr G p ys ∧ L2.DpAll fr G ys l ∧ SortOk l ∧
  ∀ a zs, H a = none → L2.DpAll fr G zs (sortD l) → Q (.ref a) (upd H a (.lst zs))
section
variable {K : Kc}
theorem nca_sorted : NCa K (rSorted K.fr) gSorted := by
  intro G H xs l z Q sub h hz q
  unfold gSorted at hz
  split at hz
  · rename_i m
    split at hz
    · rename_i ok
      cases hz
      cases h with
      | cons h1 h2 =>
        cases h2
        cases h1 with
        | lst hs hd => exact ⟨G, _, _, m, rfl, sub, hs, hd, of_yes ok, fun a zs ha hz => q a zs ha hz⟩
    · cases hz
  · cases hz
theorem each_dp {fr : PySem.W.Frag} {G : Hp} : ∀ {ys : List V} {l : List D} {us : List Value}, L2.DpAll fr G ys l → Vals ys us → PySem.W.EachIs (fun u (b : V × D) => RelV b.1 u ∧ L2.Dp fr G b.1 b.2) us (ys.zip l)
  | _, _, _, .nil, .nil => .nil
  | _, _, _, .cons h t, .cons r s => .cons ⟨r, h⟩ (each_dp t s)
theorem each_out {fr : PySem.W.Frag} {G : Hp} : ∀ {us : List Value} {bs : List (V × D)}, PySem.W.EachIs (fun u (b : V × D) => RelV b.1 u ∧ L2.Dp fr G b.1 b.2) us bs → Vals (bs.map Prod.fst) us ∧ L2.DpAll fr G (bs.map Prod.fst) (bs.map Prod.snd)
  | _, _, .nil => ⟨.nil, .nil⟩
  | _, _, .cons h t => ⟨.cons h.1 (each_out t).1, .cons h.2 (each_out t).2⟩
theorem each_snd {P : Value → D → Prop} : ∀ {us : List Value} {bs : List (V × D)}, PySem.W.EachIs (fun u (b : V × D) => P u b.2) us bs → PySem.W.EachIs P us (bs.map Prod.snd)
  | _, _, .nil => .nil
  | _, _, .cons h t => .cons h (each_snd t)
theorem call_sortX {X : Cx} (hu : X.A.units + 64 < cLine) : CallR X (.builtin "sorted") (rSorted X.K) := by
  intro pins s σ H xs us Q I r h
  obtain ⟨G, p, ys, l, rfl, sub, hs, hd, ⟨ok1, ok2, ok3, ok4⟩, q⟩ := h
  cases r with
  | cons ru rn =>
    cases rn
    obtain rfl := ru
    obtain ⟨its, rv, hl, hz⟩ := I.list (sub.seq hs)
    have hlen : its.length ≤ sizeLine := by rw [← rv.length]; exact hz
    have ly : ys.length = l.length := dpsLen (K := ⟨X.K, [], none, 0, none⟩) hd
    have keep : ∀ b o, s.heap.get? b = some o → (PySem.W.sortingHeap (PySem.W.copyHeap s.heap its) (s.heap.objs.size + 1) its).get? b = some o := fun b o e => PySem.W.sorting_copy_old e
    have I' : Inv X pins σ H { s with heap := PySem.W.sortingHeap (PySem.W.copyHeap s.heap its) (s.heap.objs.size + 1) its, toks := s.toks } := I.kept keep
    have dH : ∀ b ∈ ys.zip l, L2.Dp X.K H b.1 b.2 := fun b hb => by
      have := dps_trip (K := ⟨X.K, [], none, 0, none⟩) hd b hb
      exact dpMono (K := ⟨X.K, [], none, 0, none⟩) sub _ _ this
    have e0 := each_dp hd rv
    have e1 : PySem.W.EachIs (fun u (b : V × D) => ∃ as, Reads (PySem.W.sortingHeap (PySem.W.copyHeap s.heap its) (s.heap.objs.size + 1) its) u b.2 as) its (ys.zip l) :=
      PySem.W.EachIs.of_zip e0.length fun b hb => by
        have h1 := e0.zip b hb
        exact Dp.reads I' b.2.2 b.2.1 b.1 (dH b.2 (List.of_mem_zip hb).2) h1.1
    have snd : (ys.zip l).map Prod.snd = l := List.map_snd_zip (by omega)
    have e2 := each_snd (P := fun u d => ∃ as, Reads (PySem.W.sortingHeap (PySem.W.copyHeap s.heap its) (s.heap.objs.size + 1) its) u d as) e1
    rw [snd] at e2
    have S := PySem.W.SortsAt.data (prog := X.prog) (w := X.w) (A := X.A.in1.in1) (s := { s with heap := PySem.W.sortingHeap (PySem.W.copyHeap s.heap its) (s.heap.objs.size + 1) its }) e2 ok1 ok2 fun d hd => by
      have := ok3 d hd
      show X.A.units + 1 + 1 + d.depth < cLine
      omega
    refine PySem.W.sorted_vals hl.isList S hlen ?_
    have e3 : PySem.W.EachIs (fun u (b : V × D) => (PySem.W.dataKind (PySem.W.sortingHeap (PySem.W.copyHeap s.heap its) (s.heap.objs.size + 1) its) l).keyOf u = some (PySem.W.keyToks b.2)) its (ys.zip l) :=
      PySem.W.EachIs.of_zip e0.length fun b hb => by
        obtain ⟨as, h1⟩ := e1.zip b hb
        exact PySem.W.dataKind_some ok1 (List.of_mem_zip (List.of_mem_zip hb).2).2 h1
    have e4 := PySem.W.sortVals_each (κ := PySem.W.dataKind (PySem.W.sortingHeap (PySem.W.copyHeap s.heap its) (s.heap.objs.size + 1) its) l) (rev := false) (ks := its) (fun b : V × D => PySem.W.keyToks b.2) e0 e3
    obtain ⟨o1, o2⟩ := each_out e4
    have srt : ((ys.zip l).mergeSort (PySem.W.sortLe (PySem.W.dataKind (PySem.W.sortingHeap (PySem.W.copyHeap s.heap its) (s.heap.objs.size + 1) its) l).toKeyOrd false fun b : V × D => PySem.W.keyToks b.2)).map Prod.snd = sortD l := by
      have z := PySem.W.sort_maps (r := PySem.W.sortLe (PySem.W.dataKind (PySem.W.sortingHeap (PySem.W.copyHeap s.heap its) (s.heap.objs.size + 1) its) l).toKeyOrd false fun b : V × D => PySem.W.keyToks b.2) (s := leD) Prod.snd (l := ys.zip l) (fun a _ b _ => rfl)
      rw [snd] at z
      exact z
    rw [srt] at o2
    generalize (List.map Prod.fst _ : List V) = zs at o1 o2
    obtain ⟨n, hn⟩ := PyProof.Rows.sortedAll_at s.heap its (PySem.W.sortVals (PySem.W.dataKind (PySem.W.sortingHeap (PySem.W.copyHeap s.heap its) (s.heap.objs.size + 1) its) l) false its its).toArray
    have nH : H (s.heap.objs.size + 1) = none := I.hok.fresh (Nat.le_succ _)
    refine ⟨.ref (s.heap.objs.size + 1), _, I.laid (a := s.heap.objs.size + 1) (o := .lst zs) (t' := s.toks) (fun b u e => PyProof.Rows.sortedAll_old e) (Nat.le_succ _) ⟨?_, _, n, o1, hn⟩, rfl, q _ _ nH o2⟩
    rw [o1.length, PySem.W.sortVals_length false rfl]
    exact hlen
section
variable {X : Cx} {es : List Expr} {e : Expr} {tl : TA} {fl : DS → Option (List RV × DS)} {p pos : Pos}
theorem j_sorted (hu : X.A.units + 64 < cLine) (hm : X.mg "sorted" = none) (h : JA K X (e :: es) tl fl) (hg : Gl X "sorted" := by rfl) (hdb : (("sorted" : Str) == ("__debug__" : Str)) = false := by decide) (he : starEach (e :: es) X.env = (false, eval e X.env) :: starEach es X.env := by rfl) (hpl : (backTo pos (starEach es X.env)).any (·.1) = false := by rfl) (hk : X.K = K.fr := by rfl) :
    JE K X (.Call (.Name "sorted" p) (e :: es) [] pos) (tCB (rSorted K.fr) tl) (fNew gSorted fl) := by
  obtain ⟨kf, kt, ko, kn, kx⟩ := K
  subst hk
  exact ⟨pe_callB (call_sortX hu) hg hm (by decide +kernel) h.p (by decide) hdb he hpl, re_new nca_sorted h.r⟩
end
end
end Fx
set_option Elab.async false
set_option linter.all false
set_option maxRecDepth 100000
set_option maxHeartbeats 4000000
/-! Gx: defs that may call repr: they are called where no repr is under way. -/
namespace Fx
open PySem PySem.Spec L2
/-- a def's promise, where no repr is under way -/
structure FnG (P : Program) (w : World) (fr : PySem.W.Frag) (mg : Str → Option Value) (base : Heap) (T : CXT) (k : Nat) (f : Addr) (fd : FuncData) (ps : List Str) (sp : Sp) : Prop where
  count : ∀ xs Hx W Ex, sp xs Hx W Ex → xs.length = ps.length
  runs : ∀ (A : Around) (outer : List Env) (z : Shared) (Hx : Hp) (ag : Args) (vals : List Value) (xs : List V) (W : VK) (Ex : XK), A.guards = some [] → Room k A → Env0 P w fr mg base A outer z Hx →
    BindsTo z fd ag (ps.zip vals) → Vals xs vals → sp xs Hx W Ex → codeAny (model P w) A (.call (.ref f) ag) (CR T outer P w Hx z W Ex) z
theorem FnG.le {P : Program} {w : World} {fr : PySem.W.Frag} {mg : Str → Option Value} {base : Heap} {T : CXT} {j k : Nat} {f : Addr} {fd : FuncData} {ps : List Str} {sp : Sp} (G : FnG P w fr mg base T j f fd ps sp) (h : j ≤ k) : FnG P w fr mg base T k f fd ps sp :=
  ⟨G.count, fun A outer z Hx ag vals xs W Ex hg rm => G.runs A outer z Hx ag vals xs W Ex hg (rm.mono h)⟩
/-- of a def by its body -/
theorem fnG_of {P : Program} {w : World} {fr : PySem.W.Frag} {mg : Str → Option Value} {base : Heap} {x qual : Str} {st : Stmt} {f : Addr} {fd : FuncData} {N ps : List Str} {k : Nat} {sp : Sp} (F : L2.Fun fr x qual st f fd) (S : FnScope N ps (defScope st)) (count : ∀ xs Hx W Ex, sp xs Hx W Ex → xs.length = ps.length)
    (body : ∀ (cdv : Value) (A : Around) (outer : List Env) (z : Shared) (Hx : Hp) (xs : List V) (W : VK) (Ex : XK), Room k (A.deeper (PyProof.Rows.envOfC qual (defScope st) z.heap.objs.size f cdv)) → (A.deeper (PyProof.Rows.envOfC qual (defScope st) z.heap.objs.size f cdv)).guards = some [] → sp xs Hx W Ex →
      ∃ t, PSs (cxOf (L2.CX P w) P w fr mg base N qual (defScope st) f cdv A outer z Hx Ex) (defBody st) t ∧ t { nx := fun _ H' => W .non H', rt := W } (L2.start N xs) Hx) : FnG P w fr mg base (L2.CX P w) (k + 1) f fd ps sp := by
  obtain ⟨oc, od, kV, doc, pm, an, cdv, ct, osl, rfl, lk, hcd⟩ := F.ex
  refine ⟨count, fun A outer z Hx ag vals xs W Ex hg rm env bd rv hs => ?_⟩
  have kin : fr.In z.heap := env.mod.kin.keeps fun b o e => (env.bs b o e).1
  have lim : z.heap.NoLimit := env.mod.nolimit.keeps fun b o e => (env.bs b o e).1
  have kinds : ∀ y ∈ ps.zip vals, (defScope st).names.lookup y.1 = some .local ∨ ((defScope st).names.lookup y.1 = some .cell ∧ ((cellsFrom (z.heap.objs.size + 1) (defScope st).names []).lookup y.1).isSome = true) := by
    intro y hy
    have hm : y.1 ∈ ps := (List.of_mem_zip (show (y.1, y.2) ∈ ps.zip vals from hy)).1
    rcases S.par y.1 hm with q | q
    · exact .inl q
    · exact .inr ⟨q, PySem.W.cellsFrom_some _ _ _ (.inl q)⟩
  refine codeAny_call_function rm.depth (kin _ _ lk) rfl S.co S.gen rfl (PySem.W.codeRec_of kin hcd) (bd _ _ _ _ ?_)
  refine wpAny_newFunctionEnv_cells S.kind kinds fun envv he s1 xx => ?_
  subst he
  refine ⟨lim.keeps xx.toInCall.keep, codeAny_func ?_⟩
  obtain ⟨t, pt, run⟩ := body cdv A outer z Hx xs W Ex (rm.deeper _) hg hs
  have I := inv_start (CX := L2.CX P w) (E := Ex) S rm.hd env (count _ _ _ _ hs) rv xx
  have ends : ∀ {σ' : St} {H' : Hp} {v : V} {u : Value} {s' : Shared}, Inv (cxOf (L2.CX P w) P w fr mg base N qual (defScope st) f cdv A outer z Hx Ex) [] σ' H' s' → RelV v u → W v H' → CE outer P w Hx z W u s' :=
    fun J r q => ⟨_, _, J.os, J.bare, J.base, J.hok, r, q⟩
  refine wpAny_mono (pt.run [] s1 (L2.start N xs) Hx _ I run) (fun fl s' ok => ?_) fun e s' bad => bad
  cases fl with
  | next => obtain ⟨_, _, J, q⟩ := ok; exact ends (v := V.non) (u := Value.none) J rfl q
  | brk => obtain ⟨_, _, _, q⟩ := ok; exact q.elim
  | cont => obtain ⟨_, _, _, q⟩ := ok; exact q.elim
  | ret u => obtain ⟨_, _, _, J, r, q⟩ := ok; exact ends J r q
section
variable {X : Cx} {T : CXT} {k : Nat} {f : Addr} {fd : FuncData} {ps : List Str} {sp : Sp} {E : St → XK} {x : Str} {p pos : Pos} {e : Expr} {es : List Expr} {t : TA}
theorem run_fnG {pins : List (Addr × Obj)} {σ : St} {H : Hp} {s : Shared} {Q : VK} {us : List Value} {vs : List V} (G : FnG X.prog X.w X.K X.mg X.base T k f fd ps sp) (hA : X.A.guards = some []) (rm : Room k X.A) (hb : Binds X.K fd ps []) (hx : PassesAt T X σ (E σ))
    (I : Inv X pins σ H s) (rv : Vals vs us) (h : sp vs H Q (E σ)) : wpAny (model X.prog X.w) X.A (call (.ref f) us) (EP X pins σ Q) X.xe s := by
  have hl : us.length = ps.length := rv.length.symm.trans (G.count _ _ _ _ h)
  have bd := hb s us I.kIn (by rw [List.append_nil, hl])
  simp only [List.append_nil] at bd
  refine wpAny_call (codeAny_mono (G.runs X.A X.stack s H ⟨us, []⟩ us vs Q (E σ) hA rm I.env0 bd rv h) fun res s' hq => ?_)
  match res, hq with
  | .error er, hq => exact hx pins H s er s' I hq
  | .ok (.ret u), hq => exact I.after hq
  | .ok .next, hq => exact False.elim hq
  | .ok .brk, hq => exact False.elim hq
  | .ok .cont, hq => exact False.elim hq
theorem pe_callG (G : FnG X.prog X.w X.K X.mg X.base T k f fd ps sp) (hA : X.A.guards = some []) (rm : Room k X.A) (hg : Gl X x) (hm : X.mg x = some (.ref f)) (hk : PySem.W.keepIn X.K (.ref f) = true) (hb : Binds X.K fd ps []) (hx : ∀ σ, PassesAt T X σ (E σ))
    (ha : PA X (e :: es) t) (hdb : (x == ("__debug__" : Str)) = false) (he : starEach (e :: es) X.env = (false, eval e X.env) :: starEach es X.env) (hpl : (backTo pos (starEach es X.env)).any (·.1) = false) :
    PE X (.Call (.Name x p) (e :: es) [] pos) (tCallS sp E t) := ⟨fun pins s σ H Q I h =>
  wpAny_Call_Name_kw (ld_glob I hg hm (PySem.W.callWith_K (h₀ := X.base) I.ok.mod.kin hk (thn (ha.run pos pins s σ H _ I h) fun us s1 w1 => by
    obtain ⟨vs, H1, I1, r1, q⟩ := w1
    exact ⟨I1.kIn, run_fnG G hA rm hb (hx σ) I1 r1 q⟩) he hpl) hdb)⟩
end
/-- what the text's name x stands for: a def that computes g, where no repr is under way -/
def DkG (P : Program) (w : World) (fr : PySem.W.Frag) (tb : List (Addr × Str)) (mg : Str → Option Value) (base : Heap) (k : Nat) (x : Str) (n : Nat) (g : DS → Option DR) : Prop :=
  ∃ (f : Addr) (fd : FuncData) (ps : List Str), FnG P w fr mg base (L2.CX P w) k f fd ps (spO ⟨fr, tb, none, n, none⟩ mg g) ∧ mg x = some (.ref f) ∧ PySem.W.keepIn fr (.ref f) = true ∧ Binds fr fd ps []
theorem def_okG {P : Program} {w : World} {fr : PySem.W.Frag} {tb : List (Addr × Str)} {mg : Str → Option Value} {base : Heap} {x qual : Str} {st : Stmt} {f : Addr} {fd : FuncData} {N ps : List Str} {k : Nat} {io T : List Nat} {fb : DS → Option Out} (F : L2.Fun fr x qual st f fd) (hm : mg x = some (.ref f)) (hb : Binds fr fd ps []) (S : FnScope N ps (defScope st)) (hN : ps.length ≤ N.length)
    (body : ∀ (cdv : Value) (A : Around) (outer : List Env) (s : Shared) (H : Hp) (E : XK), Room k (A.deeper (PyProof.Rows.envOfC qual (defScope st) s.heap.objs.size f cdv)) → (A.deeper (PyProof.Rows.envOfC qual (defScope st) s.heap.objs.size f cdv)).guards = some [] → ∃ t, JB ⟨fr, tb, none, N.length, none⟩ (cxOf (L2.CX P w) P w fr mg base N qual (defScope st) f cdv A outer s H E) ⟨fun c d _ H => E c d H, mg⟩ T (defBody st) t fb) (hT : ∀ i ∈ io, i ∉ T := by decide) :
    DkG P w fr tb mg base (k + 1) x ps.length (funO io ps.length N.length fb) := by
  refine ⟨f, fd, ps, fnG_of F S (fun vs H Q E h => h.1) fun cdv A outer s H vs Q E rm hg h => ?_, hm, F.kp, hb⟩
  obtain ⟨t, J⟩ := body cdv A outer s H E rm hg
  exact ⟨t, J.p, body_ok (K := ⟨fr, tb, none, ps.length, none⟩) rfl hN hT (fun o e => nomatch e) J.r h⟩
section
variable {K : Kc} {X : Cx} {Z : Zc} {e : Expr} {es : List Expr} {tl : TA} {fl : DS → Option (List RV × DS)} {pos p : Pos} {k : Nat} {x : Str} {n : Nat} {g : DS → Option DR}
theorem j_callG {mg : Str → Option Value} (d : DkG X.prog X.w K.fr K.tb mg X.base k x n g) (hA : X.A.guards = some []) (hr : Room k X.A) (h : JA K X (e :: es) tl fl) (hg : Gl X x := by rfl) (hdb : (x == ("__debug__" : Str)) = false := by decide) (he : starEach (e :: es) X.env = (false, eval e X.env) :: starEach es X.env := by rfl) (hpl : (backTo pos (starEach es X.env)).any (·.1) = false := by rfl) (hk : X.K = K.fr := by rfl) (hmg : X.mg = mg := by rfl) :
    JE K X (.Call (.Name x p) (e :: es) [] pos) (tCallS (spO ⟨K.fr, K.tb, none, n, none⟩ mg g) (WE (Z0 mg).W) tl) (fCall n g fl) := by
  subst hmg
  obtain ⟨f, fd, ps, F, hm, hkp, hb⟩ := d
  rw [← hk] at F hkp hb
  refine ⟨?_, re_call h.r⟩
  rw [← hk]
  exact pe_callG F hA hr hg hm hkp hb (fun σ => passAt takes0 σ) h.p hdb he hpl
end
end Fx
namespace Fx
open PySem PySem.Spec L2
theorem DkG.le {P : Program} {w : World} {fr : PySem.W.Frag} {tb : List (Addr × Str)} {mg : Str → Option Value} {base : Heap} {k k' : Nat} {x : Str} {n : Nat} {g : DS → Option DR} (h : DkG P w fr tb mg base k x n g) (hk : k ≤ k') : DkG P w fr tb mg base k' x n g :=
  let ⟨f, fd, ps, h1, h2⟩ := h; ⟨f, fd, ps, h1.le hk, h2⟩
/-- a number of the module -/
theorem j_glob {K : Kc} {X : Cx} {x : Str} {n : Int} {p : Pos} (hm : ∃ t, X.mg x = some (.int n t)) (hg : Gl X x := by rfl) (hd : (x == ("__debug__" : Str)) = false := by decide) : JE K X (.Name x p) (tC (.int n)) (fC (.int n)) :=
  let ⟨t, h⟩ := hm; ⟨pe_glob (v := .int n) hg h ⟨t, rfl⟩ hd, re_c (.int n)⟩
end Fx
set_option Elab.async false
set_option linter.all false
set_option maxRecDepth 100000
/-! Gx: owned trees: what is wholly owned is moved, changed inside, lent. -/
namespace Fx
open PySem PySem.Spec L2
variable {K : Kc}
/-- how wholly owned data stands in a slot -/
def nrm (d : D) : OV := if isSc d = true then .sh d else match d with
  | .list l => if l.all isSc = true then .flat l else .tree (.list l)
  | d => .tree d
theorem nrm_list {l : List D} : nrm (.list l) = if l.all isSc = true then .flat l else .tree (.list l) := rfl
theorem nrm_own (d : D) : (nrm d).own? = some d := by
  cases d with
  | list l =>
    rw [nrm_list]
    split
    · rename_i h
      show (if l.all isSc then some (PyData.list l) else none) = _
      rw [if_pos h]
    · rfl
  | _ => rfl
theorem own_view {o : OV} {d : D} (h : o.own? = some d) : o.view = d := by
  cases o with
  | sh e =>
    have h : (if isSc e then some e else none) = some d := h
    split at h
    · cases h; rfl
    · cases h
  | flat l =>
    have h : (if l.all isSc then some (PyData.list l) else none) = some d := h
    split at h
    · cases h; rfl
    · cases h
  | tree e => cases h; rfl
theorem nrm_view (d : D) : (nrm d).view = d := own_view (nrm_own d)
theorem tr_sc {H : Hp} {v : V} {d : D} {fp : List Addr} (t : Tr H v d fp) (h : isSc d = true) : fp = [] ∧ Sc v d := by
  cases t with
  | sc s => exact ⟨rfl, s⟩
  | lst _ _ => cases h
  | tup _ _ => cases h
theorem trs_sc {H G : Hp} : ∀ {vs : List V} {ds : List D} {fp : List Addr}, TrAll H vs ds fp → ds.all isSc = true → fp = [] ∧ DpAll K G vs ds
  | _, _, _, .nil, _ => ⟨rfl, .nil⟩
  | _, _, _, .cons a t, h => by
    rw [List.all_cons, Bool.and_eq_true] at h
    obtain ⟨h1, h2⟩ := tr_sc a h.1
    obtain ⟨h3, h4⟩ := trs_sc t h.2
    subst h1 h3
    exact ⟨rfl, .cons h2.dp h4⟩
theorem Rep.nrm {G H : Hp} {v : V} {d : D} {fp : List Addr} (t : Tr H v d fp) : Rep K G H v (nrm d) fp := by
  have sc : isSc d = true → Rep K G H v (.sh d) fp := fun h => by
    obtain ⟨h1, h2⟩ := tr_sc t h
    exact ⟨h2.dp, h1⟩
  cases d with
  | list l =>
    rw [nrm_list]
    split
    · rename_i h
      cases t with
      | sc s => cases s
      | lst h1 h2 =>
        obtain ⟨h3, h4⟩ := trs_sc (K := K) (G := G) h2 h
        subst h3
        exact ⟨_, _, rfl, h1, h4, rfl⟩
    · exact t
  | tuple l => exact t
  | dict l => exact t
  | none => exact sc rfl
  | bool b => exact sc rfl
  | int b => exact sc rfl
  | str b => exact sc rfl
/-- a slot's things, taken out of it -/
theorem fp_slot {G H G0 H0 : Hp} {σ : St} {ds : DS} {F : Nat → List Addr} {W0 : Addr → Prop} (S : SI K G H σ ds F) (t : Step W0 G0 H0 G H (Wf F)) (i : Nat) : Fp G H (Wf (offF F i [])) W0 H0 (F i) :=
  ⟨S.nod i, fun b hb => ⟨(S.off i b hb).1, (S.off i b hb).2, fun ⟨j, hj⟩ => by
    unfold offF at hj
    split at hj
    · cases hj
    · rename_i hji; exact hji (S.dis j i b hj hb)⟩, fun b hb => t.own b ⟨i, hb⟩⟩
theorem Fp.less {G H H0 : Hp} {W W' W0 : Addr → Prop} {fp : List Addr} (f : Fp G H W W0 H0 fp) (h : ∀ b, W' b → W b) : Fp G H W' W0 H0 fp := ⟨f.nod, fun b hb => ⟨(f.off b hb).1, (f.off b hb).2.1, fun z => (f.off b hb).2.2 (h b z)⟩, f.new⟩
theorem wf_sh {F : Nat → List Addr} {i : Nat} {b : Addr} (h : Wf (offF F i []) b) : Wf F b := (wf_off h).elim id fun z => nomatch z
theorem Fp.poke {G H H0 : Hp} {W W0 : Addr → Prop} {fp : List Addr} (f : Fp G H W W0 H0 fp) {A : Addr} {o : HO} (ho : NT o) : Fp G (upd H A o) W W0 H0 fp := ⟨f.nod, fun b hb => ⟨(f.off b hb).1, by
    by_cases h : b = A
    · subst h; exact ⟨o, upd_same, ho⟩
    · rw [upd_ne h]; exact (f.off b hb).2.1, (f.off b hb).2.2⟩, f.new⟩
/-- what a value owns alone; a slot's thing is moved out of it -/
def ownR : RV → DS → Option (D × DS)
  | .ov o, ds => o.own?.map fun d => (d, ds)
  | .loc i, ds => match ds[i]? with
    | some (some o) => o.own?.map fun d => (d, ds.set i none)
    | _ => none
theorem ownR_ok {G H G0 H0 : Hp} {σ : St} {ds ds' : DS} {F : Nat → List Addr} {W0 : Addr → Prop} {v : V} {r : RV} {fp fq : List Addr} {d : D} (S : SI K G H σ ds F) (t : Step W0 G0 H0 G H (Wf F)) (h : VRep K G H σ v r fp) (f : Fp G H (Wf F) W0 H0 (fp ++ fq)) (e : ownR r ds = some (d, ds')) :
    ∃ F' fp', SI K G H σ ds' F' ∧ Step W0 G0 H0 G H (Wf F') ∧ Tr H v d fp' ∧ Fp G H (Wf F') W0 H0 (fp' ++ fq) ∧ ∀ b, Wf F' b → Wf F b := by
  cases r with
  | ov o =>
    simp only [ownR, Option.map_eq_some_iff] at e
    obtain ⟨d', e1, e2⟩ := e
    cases e2
    exact ⟨F, fp, S, t, Rep.own h e1, f, fun _ h => h⟩
  | loc i =>
    simp only [ownR] at e
    split at e
    · rename_i o ho
      simp only [Option.map_eq_some_iff] at e
      obtain ⟨d', e1, e2⟩ := e
      cases e2
      obtain ⟨u, h1, h2⟩ := S.rep i o ho
      have h' : σ[i]? = some (some v) := h.1
      obtain rfl := look_eq h1 h'
      have hi : i < K.n := by
        have := (List.getElem?_eq_some_iff.mp h').1
        rw [S.sl] at this; exact this
      have e0 : fp = [] := h.2
      subst e0
      have fi := fp_slot S t i
      refine ⟨_, F i, S.shut i hi, t.reown fun b hb => t.own b (wf_sh hb), Rep.own h2 e1, fi.app (f.less fun b hb => wf_sh hb) fun b hb hq => ?_, fun b hb => wf_sh hb⟩
      exact (f.off b (by simpa using hq)).2.2 ⟨i, hb⟩
    · cases e
theorem slot_own {G H : Hp} {σ : St} {ds : DS} {F : Nat → List Addr} (S : SI K G H σ ds F) {i : Nat} {o : OV} {l : List D} (hn : i < K.n) (hi : ds[i]? = some (some o)) (ho : o.own? = some (.list l)) : ∃ a xs fq, σ[i]? = some (some (.ref a)) ∧ H a = some (.lst xs) ∧ TrAll H xs l fq ∧ F i = a :: fq := by
  obtain ⟨v, h1, h2⟩ := S.rep i _ hi
  have t := Rep.own h2 ho
  have h1 := look_at h1 (by rw [S.sl]; exact hn)
  generalize hF : F i = fi at t
  cases t with
  | sc s => cases s
  | lst h3 h4 => exact ⟨_, _, _, h1, h3, h4, rfl⟩
/-- x.append(e): x of slot i is wholly owned, and so is e -/
def fAppT (i : Nat) (f : DS → Option (RV × DS)) (ds : DS) : Option Out := match ds[i]? with
  | some (some o) => match o.own? with
    | some (.list _) => (f ds).bind fun p => (ownR p.1 p.2).bind fun q => match q.2[i]? with
      | some (some o2) => match o2.own? with
        | some (.list l) => if l.length ≤ 1000000 then some (.nx (q.2.set i (some (nrm (.list (l ++ [q.1])))))) else none
        | _ => none
      | _ => none
    | _ => none
  | _ => none
/-- a slot's list changes -/
theorem SI.changeT {G H G0 H0 : Hp} {σ : St} {ds : DS} {F : Nat → List Addr} {W0 : Addr → Prop} (S : SI K G H σ ds F) (t : Step W0 G0 H0 G H (Wf F)) {i : Nat} {a : Addr} {xs ys : List V} {m : List D} {fq fp gq : List Addr} (hn : i < K.n) (hf : K.free i) (hσ : σ[i]? = some (some (.ref a))) (hx : H a = some (.lst xs)) (hF : F i = a :: fq) (f : Fp G H (Wf F) W0 H0 fp)
    (hm : ∀ H', (∀ b, b ≠ a → ∀ x, H b = some x → H' b = some x) → TrAll H' ys m gq) (hg : ∀ b ∈ gq, b ∈ fq ∨ b ∈ fp) (hnd : gq.Nodup) :
    SI K G (upd H a (.lst ys)) σ (ds.set i (some (nrm (.list m)))) (offF F i (a :: gq)) ∧ Step W0 G0 H0 G (upd H a (.lst ys)) (Wf (offF F i (a :: gq))) := by
  have fi := fp_slot S t i
  rw [hF] at fi
  have S1 := S.shut i hn
  have ga : G a = none := (fi.off a (by simp)).1
  have S2 := S1.poke (o := .lst ys) hx nt_lst ga (fi.off a (by simp)).2.2 nt_lst
  have na : a ∉ gq := fun z => by
    rcases hg a z with z | z
    · exact (List.nodup_cons.mp fi.nod).1 z
    · exact (f.off a z).2.2 ⟨i, by simp [hF]⟩
  have f2 : Fp G (upd H a (.lst ys)) (Wf (offF F i [])) W0 H0 (a :: gq) := by
    refine Fp.poke ⟨List.nodup_cons.mpr ⟨na, hnd⟩, fun b hb => ?_, fun b hb => ?_⟩ nt_lst
    · rcases List.mem_cons.mp hb with rfl | hb
      · exact fi.off b (by simp)
      · rcases hg b hb with z | z
        · exact fi.off b (by simp [z])
        · exact ⟨(f.off b z).1, (f.off b z).2.1, fun w => (f.off b z).2.2 (wf_sh w)⟩
    · rcases List.mem_cons.mp hb with rfl | hb
      · exact fi.new b (by simp)
      · rcases hg b hb with z | z
        · exact fi.new b (by simp [z])
        · exact f.new b z
  have tr : Tr (upd H a (.lst ys)) (.ref a) (.list m) (a :: gq) := .lst upd_same (hm _ fun b h x e => by rw [upd_ne h]; exact e)
  have S3 := S2.open' i hn hf hσ (Rep.nrm (K := K) (G := G) tr) f2
  have e1 : offF (offF F i []) i (a :: gq) = offF F i (a :: gq) := by
    funext j; unfold offF; split <;> rfl
  rw [List.set_set, e1] at S3
  refine ⟨S3, ?_⟩
  have t1 := (t.reown (W' := Wf (offF F i [])) fun b hb => t.own b (wf_sh hb)).poke (A := a) (o := .lst ys) (t.own a ⟨i, by simp [hF]⟩)
  have t2 := t1.put (i := i) f2.new
  rw [e1] at t2
  exact t2
variable {Z : Zc}
theorem rs_appT {i : Nat} (hn : i < K.n) (hf : K.free i) {t : TE} {f : DS → Option (RV × DS)} (h : RE K t f) : RS K Z [] (tDrop (tBM K "list" rAppend (tVar i) (tCons t tNil))) (fAppT i f) := by
  intro G H F σ ds o E S e q
  simp only [fAppT] at e
  split at e
  · rename_i o0 ho0
    split at e
    · rename_i l0 hl0
      simp only [Option.bind_eq_some_iff] at e
      obtain ⟨⟨r, d1⟩, e1, ⟨d, d2⟩, e2, e3⟩ := e
      split at e3
      · rename_i o2 ho2
        split at e3
        · rename_i l hl
          split at e3
          · rename_i hlen
            cases e3
            obtain ⟨a0, xs0, fq0, k1, k2, k3, k4⟩ := slot_own S hn ho0 hl0
            refine ⟨.ref a0, k1, .inl ⟨rfl, xs0, SqL.of k2⟩, ?_⟩
            refine h G H F σ ds r d1 _ S e1 fun v G1 H1 F1 fp1 S1 t1 r1 f1 => ?_
            obtain ⟨F2, fp', S2, t2, tv, f2, _⟩ := ownR_ok (fq := []) S1 t1 r1 (by rw [List.append_nil]; exact f1) e2
            obtain ⟨a, xs, fq, m1, m2, m3, m4⟩ := slot_own S2 hn ho2 hl
            rw [k1] at m1
            cases m1
            rw [List.append_nil] at f2
            refine ⟨a0, xs, v, rfl, rfl, m2, by rw [trsLen m3]; exact szOf hlen, ?_⟩
            have fi := fp_slot S2 t2 i
            rw [m4] at fi
            have nfp : ∀ b ∈ fp', b ≠ a0 := fun b hb z => (f2.off b hb).2.2 ⟨i, by rw [m4, z]; simp⟩
            have nfq : ∀ b ∈ fq, b ≠ a0 := fun b hb z => (List.nodup_cons.mp fi.nod).1 (z ▸ hb)
            obtain ⟨S3, t3⟩ := S2.changeT (ys := xs ++ [v]) (m := l ++ [d]) (gq := fq ++ (fp' ++ [])) t2 hn hf k1 m2 m4 f2 (fun H' k => trsApp (trsMono _ _ _ m3 fun b hb x e => k b (nfq b hb) x e) (.cons (trMono _ _ _ tv fun b hb x e => k b (nfp b hb) x e) .nil)) (fun b hb => by
                rw [List.append_nil] at hb
                exact List.mem_append.mp hb) (by
                rw [List.append_nil]
                refine List.nodup_append.mpr ⟨(List.nodup_cons.mp fi.nod).2, f2.nod, fun x h1 y h2 e => ?_⟩
                subst e
                exact (f2.off x h2).2.2 ⟨i, by rw [m4]; simp [h1]⟩)
            exact q σ G1 _ _ S3 t3 (Off.refl _ _)
          · cases e3
        · cases e3
      · cases e3
    · cases e
  · cases e
end Fx
set_option Elab.async false
set_option linter.all false
set_option maxRecDepth 100000
/-! Gx: a call with its first argument moved and the others lent; a comprehension that uses up an owned list. -/
namespace Fx
open PySem PySem.Spec L2
variable {K : Kc}
/-- x(v, ..), v the owned thing of slot i, given away; the others are lent -/
def fCallN (n : Nat) (g : DS → Option DR) (i : Nat) (fa : DS → Option (List RV × DS)) (ds : DS) : Option (RV × DS) := match ds[i]? with
  | some (some _) => (fa ds).bind fun p => match p.2[i]? with
    | some (some o) => (sees p.1 (p.2.set i none)).bind fun l => if l.length + 1 = n then (g (some o :: shs l)).bind fun r => match r with
      | .ret o' _ => if o'.own?.isSome then some (.ov o', p.2.set i none) else none
      | .ex _ _ => none else none
    | _ => none
  | _ => none
theorem SI.mk1 {fr : PySem.W.Frag} {tb : List (Addr × Str)} {ob : Option Ob} {n : Nat} {ex : Option (Nat × Addr)} {G H : Hp} {o : OV} {v : V} {fm : List Addr} {vs : List V} {l : List D} (sub : Same G H) (gnt : ∀ b x, G b = some x → NT x) (tab : TabX tb H) (r : Rep ⟨fr, tb, ob, n, ex⟩ G H v o fm) (nd : fm.Nodup) (off : ∀ a ∈ fm, G a = none ∧ ∃ x, H a = some x ∧ NT x) (h : L2.DpAll fr G vs l) :
    SI ⟨fr, tb, none, vs.length + 1, none⟩ G H ((v :: vs).map some) (some o :: shs l) (fun j => if j = 0 then fm else []) where
  sub := sub
  gnt := gnt
  tab := tab
  sl := by simp
  len := by
    have := dpsLen (K := ⟨fr, tb, none, 0, none⟩) h
    show (some o :: shs l).length = vs.length + 1 + 0
    simp; omega
  rep := fun j u e => by
    cases j with
    | zero =>
      have e : some (some o) = some (some u) := e
      cases e
      refine ⟨v, .inl rfl, ?_⟩
      show Rep _ G H v o fm
      cases o <;> exact r
    | succ j =>
      have e : (shs l)[j]? = some (some u) := e
      rw [List.getElem?_map] at e
      obtain ⟨d, h1, h2⟩ := Option.map_eq_some_iff.mp e
      cases h2
      obtain ⟨w, h3, h4⟩ := dpsGet (K := ⟨fr, tb, none, 0, none⟩) h h1
      exact ⟨w, .inl (by show (vs.map some)[j]? = _; rw [List.getElem?_map, h3]; rfl), h4, rfl⟩
  nod := fun j => by
    show (if j = 0 then fm else []).Nodup
    split
    · exact nd
    · exact .nil
  off := fun j a ha => by
    have ha : a ∈ (if j = 0 then fm else []) := ha
    split at ha
    · exact off a ha
    · cases ha
  dis := fun j k a h1 h2 => by
    have h1 : a ∈ (if j = 0 then fm else []) := h1
    have h2 : a ∈ (if k = 0 then fm else []) := h2
    split at h1
    · split at h2
      · omega
      · cases h2
    · cases h1
  obj := fun o e => nomatch e
  exs := fun o e => nomatch e
theorem re_callN {mg : Str → Option Value} {n : Nat} {g : DS → Option DR} {i : Nat} {t : TA} {fa : DS → Option (List RV × DS)} (hi : i < K.n) (ha : RA K t fa) : RE K (tCallS (spO ⟨K.fr, K.tb, none, n, none⟩ mg g) (WE (Z0 mg).W) (tCons (tVar i) t)) (fCallN n g i fa) := by
  intro G H F σ ds rv ds' Q S e q
  unfold fCallN at e
  split at e
  · rename_i o0 ho0
    simp only [Option.bind_eq_some_iff] at e
    obtain ⟨⟨ra, d1⟩, e1, e2⟩ := e
    split at e2
    · rename_i o ho
      simp only [Option.bind_eq_some_iff] at e2
      obtain ⟨l, e3, e4⟩ := e2
      split at e4
      · rename_i hn
        simp only [Option.bind_eq_some_iff] at e4
        obtain ⟨dr, e5, e6⟩ := e4
        cases dr with
        | ex x d => cases e6
        | ret o' dd' =>
        simp only at e6
        split at e6
        · rename_i hc
          cases e6
          obtain ⟨dc, hc⟩ := Option.isSome_iff_exists.mp hc
          obtain ⟨v0, k1, k2⟩ := S.rep i _ ho0
          have k3 := look_at k1 (by rw [S.sl]; exact hi)
          refine ⟨v0, k3, ?_⟩
          refine ha G H F σ ds ra d1 _ S e1 fun vs G1 H1 F1 fp1 S1 t1 r1 f1 => ?_
          obtain ⟨v1, m1, m2⟩ := S1.rep i _ ho
          obtain rfl := look_eq m1 k3
          have S2 := S1.shut i hi
          have fi := fp_slot S1 t1 i
          have gm : ∀ b ∈ F1 i, G1 b = none := fun b hb => (S1.off i b hb).1
          have dp := sees_gb (fm := F1 i) S2 gm r1 (f1.less fun b hb => wf_sh hb) (fun b hb z => (f1.off b hb).2.2 ⟨i, z⟩) (fun j _ b hb z => (fi.off b z).2.2 ⟨j, hb⟩) e3
          have hl : vs.length + 1 = n := by rw [dpsLen dp]; exact hn
          subst hl
          have sg : Same G1 (Gb H1 (F1 i)) := fun b x e => gb_of (S1.sub b x e) (S1.gnt b x e) fun z => by rw [gm b z] at e; cases e
          have Sc := SI.mk1 (fun b x h => (gb_some h).1) (fun b x h => (gb_some h).2.1) S1.tab (m2.mono sg fun _ _ _ e => e) (S1.nod i) (fun b hb => ⟨by
            rcases some_or (Gb H1 (F1 i) b) with ⟨x, h⟩ | h
            · exact absurd hb (gb_some h).2.2
            · exact h, (S1.off i b hb).2⟩) dp
          refine ⟨by simp, Gb H1 (F1 i), _, _, _, Sc, e5, ?_⟩
          intro v G' H' F' fp S' t' r' f'
          have inn : ∀ b, Wf (fun j => if j = 0 then F1 i else []) b → b ∈ F1 i := fun b ⟨j, hj⟩ => by
            have hj : b ∈ (if j = 0 then F1 i else []) := hj
            split at hj
            · exact hj
            · cases hj
          have out : ∀ b, Wf (offF F1 i []) b → b ∉ F1 i := fun b hb z => (fi.off b z).2.2 hb
          have tf : Step (Wf (fun j => if j = 0 then F1 i else [])) G1 H1 G1 H' (Wf F') := ⟨Same.refl _, t'.keep, t'.dom, fun b x e => .inl ⟨x, e⟩, t'.own⟩
          have sub' : Same G1 H' := fun b x h => t'.keep b x (S1.sub b x h) (fun z => by rw [gm b (inn b z)] at h; cases h) (S1.gnt b x h).1
          have S4 := S2.frame tf sub' S1.gnt S'.tab fun a h1 h2 => out a h1 (inn a h2)
          have tt : Step (Wf F) G H G1 H' (Wf (offF F1 i [])) := t1.trans ⟨Same.refl _, fun b x e n nb => t'.keep b x e (fun z => n ⟨i, inn b z⟩) nb, t'.dom, fun b x e => .inl ⟨x, e⟩, fun b z => .inl (wf_sh z)⟩
          refine q v G1 H' _ fp S4 tt (Rep.closed (K := K) r' hc) ⟨f'.nod, fun a h => ⟨?_, (f'.off a h).2.1, fun z => ?_⟩, fun a h => ?_⟩
          · rcases f'.new a h with z' | z'
            · exact gm a (inn a z')
            · exact S1.sub.free z'
          · rcases f'.new a h with z' | z'
            · exact out a z (inn a z')
            · obtain ⟨j, hj⟩ := wf_sh z
              obtain ⟨_, x, y, _⟩ := S1.off j a hj
              rw [z'] at y; cases y
          · rcases f'.new a h with z' | z'
            · exact t1.own a ⟨i, inn a z'⟩
            · exact .inr (t1.back z')
        · cases e6
      · cases e4
    · cases e2
  · cases e
section
variable {X : Cx} {es : List Expr} {tl : TA} {fl : DS → Option (List RV × DS)} {pos p py : Pos} {k : Nat} {x y : Str} {n : Nat} {g : DS → Option DR}
theorem j_callN {mg : Str → Option Value} (i : Nat) (d : Dk X.prog X.w K.fr K.tb mg X.base k x n g) (hr : Room k X.A) (h : JA K X es tl fl) (hN : X.N[i]? = some y := by rfl) (hi : i < K.n := by exact of_decide_eq_true rfl) (hv : Vis X.env.scope y := by first | exact Or.inl rfl | exact Or.inr (Or.inl rfl) | exact Or.inr (Or.inr rfl)) (hd : (y == ("__debug__" : Str)) = false := by decide)
    (hcd : (y == ("__classdict__" : Str)) = false := by decide) (hg : Gl X x := by rfl) (hdb : (x == ("__debug__" : Str)) = false := by decide) (he : starEach (.Name y py :: es) X.env = (false, eval (.Name y py) X.env) :: starEach es X.env := by rfl) (hpl : (backTo pos (starEach es X.env)).any (·.1) = false := by rfl) (hk : X.K = K.fr := by rfl) (hmg : X.mg = mg := by rfl) :
    JE K X (.Call (.Name x p) (.Name y py :: es) [] pos) (tCallS (spO ⟨K.fr, K.tb, none, n, none⟩ mg g) (WE (Z0 mg).W) (tCons (tVar i) tl)) (fCallN n g i fl) := by
  subst hmg
  obtain ⟨f, fd, ps, F, hm, hkp, hb⟩ := d
  rw [← hk] at F hkp hb
  refine ⟨?_, re_callN hi h.r⟩
  rw [← hk]
  exact pe_callS F hr hg hm hkp hb (fun σ => passAt takes0 σ) (pa_cons (pe_var hN hv hd hcd) h.p he) hdb he hpl
end
/-! ### a comprehension that uses up an owned list -/
theorem Fp.perm {G H H0 : Hp} {W W0 : Addr → Prop} {fp fq : List Addr} (f : Fp G H W W0 H0 fp) (h : fp.Perm fq) : Fp G H W W0 H0 fq := ⟨h.nodup_iff.mp f.nod, fun a ha => f.off a (h.mem_iff.mpr ha), fun a ha => f.new a (h.mem_iff.mpr ha)⟩
theorem Fp.part {G H H0 : Hp} {W W0 : Addr → Prop} {fp fq : List Addr} (f : Fp G H W W0 H0 fp) (hn : fq.Nodup) (h : ∀ a ∈ fq, a ∈ fp) : Fp G H W W0 H0 fq := ⟨hn, fun a ha => f.off a (h a ha), fun a ha => f.new a (h a ha)⟩
def turnO (k : Nat) (ft : DS → Option (Bool × DS)) (fe : DS → Option (RV × DS)) (vs : List Nat) (d : D) (w : DS) : Option (Option D × DS) :=
  (ft (w.set k (some (nrm d)))).bind fun p => if p.1 = true then (fe p.2).bind fun q => (ownR q.1 q.2).map fun z => (some z.1, wipeD z.2 vs) else some (none, wipeD p.2 vs)
def fLcC (i k : Nat) (ft : DS → Option (Bool × DS)) (fe : DS → Option (RV × DS)) (vs : List Nat) (ds : DS) : Option (RV × DS) := match ds[i]? with
  | some (some o) => match o.own? with
    | some (.list l) => if (vs.all fun j => shB (ds.set i none)[j]?) && decide (l.length ≤ 1000000) then (lcF (turnO k ft fe vs) l (wipeD (ds.set i none) vs) []).map fun q => (.ov (nrm (.list q.1)), mend (ds.set i none) q.2 vs) else none
    | _ => none
  | _ => none
/-- between two turns -/
def LcO (K : Kc) (W0 : Addr → Prop) (G0 H0 : Hp) (σw : St) (A a : Addr) (ys : List V) (lr : List D) (yr : List V) (w : DS) (es : List D) (H : Hp) : Prop :=
  ∃ G F xs fe fr, SI K G H σw w F ∧ Step W0 G0 H0 G H (Wf F) ∧ Same G0 G ∧ H A = some (.lst xs) ∧ TrAll H xs es fe ∧ H a = some (.lst ys) ∧ TrAll H yr lr fr ∧ Fp G H (Wf F) W0 H0 (A :: a :: (fe ++ fr))
theorem re_lcC {i k : Nat} (hi : i < K.n) {vs : List Nat} {tt : TT} {te : TE} {ft : DS → Option (Bool × DS)} {fe : DS → Option (RV × DS)} (hk : k ∈ vs) (hn : ∀ i ∈ vs, i < K.n) (hfr : ∀ i ∈ vs, K.free i) (ht : RT K tt ft) (he : RE K te fe) :
    RE K (tLc (iList K (tVar i)) (gName k) tt te vs) (fLcC i k ft fe vs) := by
  intro G0 H0 F0 σ ds r ds' Q S0 e q
  unfold fLcC at e
  split at e
  · rename_i o0 ho0
    split at e
    · rename_i l hl0
      split at e
      · rename_i hc
        simp only [Bool.and_eq_true, List.all_eq_true, decide_eq_true_eq] at hc
        obtain ⟨hv, hl⟩ := hc
        simp only [Option.map_eq_some_iff] at e
        obtain ⟨⟨es, w'⟩, e3, e4⟩ := e
        cases e4
        obtain ⟨a, ys, fq0, k1, k2, k3, k4⟩ := slot_own S0 hi ho0 hl0
        have lys := trsLen k3
        have S1 := S0.shut i hi
        have t1 : Step (Wf F0) G0 H0 G0 H0 (Wf (offF F0 i [])) := (Step.refl _ _ _).reown fun b hb => .inl (wf_sh hb)
        refine ⟨.ref a, k1, a, rfl, ⟨ys, SqL.of k2⟩, fun A hA => ?_⟩
        obtain ⟨S2, t2, r2, f2⟩ := new_list (ys := []) (z := []) (S1.wiped vs hfr) t1 hA .nil
        have fi : Fp G0 H0 (Wf (offF F0 i [])) (Wf F0) H0 (a :: fq0) := k4 ▸ fp_slot S0 (Step.refl _ _ _) i
        have nA : ∀ b ∈ a :: fq0, b ≠ A := fun b hb z => by
          obtain ⟨_, ⟨x, h, _⟩, _⟩ := fi.off b hb
          rw [z, hA] at h; cases h
        have fi1 := fi.poke (A := A) (o := .lst []) nt_lst
        have f3 : Fp G0 (upd H0 A (.lst [])) (Wf (offF F0 i [])) (Wf F0) H0 ([A] ++ (a :: fq0)) := f2.app fi1 fun y h1 h2 => by
          obtain rfl : y = A := by simpa using h1
          exact nA y h2 rfl
        refine ⟨fun j m H => m = l.length - j ∧ j ≤ l.length ∧ ∃ wi ei, ei.length ≤ j ∧ lcF (turnO k ft fe vs) (l.drop j) wi ei = some (es, w') ∧ LcO K (Wf F0) G0 H0 (wipe σ vs) A a ys (l.drop j) (ys.drop j) wi ei H,
          ⟨l.length, by simp, Nat.zero_le _, _, [], Nat.le_refl _, by simpa using e3, G0, _, [], [], fq0, S2, t2, Same.refl _, upd_same, .nil, (upd_ne (nA a (by simp))).trans k2, by simpa using trsMono _ _ _ k3 fun b hb x e => (upd_ne (nA b (by simp [hb]))).trans e, by simpa using f3⟩, ?_⟩
        rintro j m H ⟨rfl, hj, wi, ei, hei, hrun, G, F, xs, fe', fr, S, t, sg, hA', hxs, ha', hyr, hf⟩
        by_cases hlt : j < l.length
        · have hly : j < ys.length := by omega
          rw [List.drop_eq_getElem_cons hlt] at hrun hyr
          rw [List.drop_eq_getElem_cons hly] at hyr
          simp only [lcF, Option.bind_eq_some_iff] at hrun
          obtain ⟨p, h1, h2⟩ := hrun
          cases hyr with
          | cons tr1 trr =>
          rename_i f1 fr
          refine .inr ⟨⟨ys, ys[j], SqL.of ha', by simp [hly]⟩, fun H' => LcO K (Wf F0) G0 H0 (wipe σ vs) A a ys (l.drop (j + 1)) (ys.drop (j + 1)) p.2 (ei ++ p.1.toList) H', fun H' h => ⟨l.length - (j + 1), by omega, rfl, hlt, p.2, _, ?_, h2, h⟩, fun x H' y => ?_⟩
          · rw [List.length_append]
            have : p.1.toList.length ≤ 1 := by cases p.1 <;> simp
            omega
          obtain ⟨rfl, y⟩ := y
          have hx := y ys (SqL.of ha')
          rw [List.getElem?_eq_getElem hly] at hx
          cases hx
          have nd := hf.nod
          have fx : Fp G H' (Wf F) (Wf F0) H0 f1 := hf.part (by
            have h1 := (List.nodup_cons.mp (List.nodup_cons.mp nd).2).2
            exact (List.nodup_append.mp (List.nodup_append.mp h1).2.1).1) fun b hb => by simp [hb]
          have S3 := S.put k (hn k hk) (hfr k hk) (Rep.nrm (K := K) (G := G) tr1) fx
          have ww : wipe ((wipe σ vs).set k (some ys[j])) vs = wipe σ vs := wipe_off (T := [k]) (fun i hi => by
            obtain rfl : i = k := by simpa using hi
            exact hk) (Off.set k _ _)
          refine ⟨ww, ?_⟩
          have pm : (A :: a :: (fe' ++ (f1 ++ fr))).Perm (f1 ++ (A :: a :: (fe' ++ fr))) := by
            have h1 : (fe' ++ (f1 ++ fr)).Perm (f1 ++ (fe' ++ fr)) := List.perm_append_comm_assoc _ _ _
            have h2 : (A :: a :: (fe' ++ (f1 ++ fr))).Perm (A :: a :: (f1 ++ (fe' ++ fr))) := (h1.cons a).cons A
            refine h2.trans ?_
            have h3 : ((A :: a :: []) ++ (f1 ++ (fe' ++ fr))).Perm (f1 ++ ((A :: a :: []) ++ (fe' ++ fr))) := List.perm_append_comm_assoc _ _ _
            exact h3
          have hfp := hf.perm pm
          have dj : ∀ b ∈ A :: a :: (fe' ++ fr), b ∉ f1 := fun b hb z => (List.nodup_append.mp hfp.nod).2.2 b z b hb rfl
          have hf3 : Fp G H' (Wf (offF F k f1)) (Wf F0) H0 (A :: a :: (fe' ++ fr)) := ⟨hfp.right.nod, fun b hb => ⟨(hfp.right.off b hb).1, (hfp.right.off b hb).2.1, fun z => (wf_off z).elim (hfp.right.off b hb).2.2 (dj b hb)⟩, hfp.right.new⟩
          have tp : Step (Wf F0) G0 H0 G H' (Wf (offF F k f1)) := t.put fx.new
          simp only [turnO, Option.bind_eq_some_iff] at h1
          obtain ⟨⟨b, d2⟩, q2, q3⟩ := h1
          refine ht G H' _ _ _ b d2 _ S3 q2 fun G3 H3 F3 S3 t3 => ?_
          have hf4 := hf3.step t3
          have hA3 : H3 A = some (.lst xs) := hf3.keeps t3 A (by simp) _ hA'
          have ha3 : H3 a = some (.lst ys) := hf3.keeps t3 a (by simp) _ ha'
          have hx3 := trsMono _ _ _ hxs fun b hb x e => hf3.keeps t3 b (by simp [hb]) x e
          have hr3 := trsMono _ _ _ trr fun b hb x e => hf3.keeps t3 b (by simp [hb]) x e
          cases b with
          | false =>
            simp only [Bool.false_eq_true, if_false] at q3 ⊢
            cases q3
            have S4 := S3.wiped vs hfr
            rw [ww] at S4
            exact ⟨G3, F3, xs, fe', fr, S4, tp.trans t3, sg.trans t3.sg, hA3, by simpa using hx3, ha3, hr3, hf4⟩
          | true =>
            simp only [if_true, Option.bind_eq_some_iff, Option.map_eq_some_iff] at q3 ⊢
            obtain ⟨⟨rv, d3⟩, q4, ⟨z, d4⟩, q5, q6⟩ := q3
            cases q6
            refine he G3 H3 F3 _ d2 rv d3 _ S3 q4 fun v G4 H4 F4 fp4 S4 t4 r4 f4 => ?_
            have hf5 := hf4.step t4
            have hA4 : H4 A = some (.lst xs) := hf4.keeps t4 A (by simp) _ hA3
            have ha4 : H4 a = some (.lst ys) := hf4.keeps t4 a (by simp) _ ha3
            have hx4 := trsMono _ _ _ hx3 fun b hb x e => hf4.keeps t4 b (by simp [hb]) x e
            have hr4 := trsMono _ _ _ hr3 fun b hb x e => hf4.keeps t4 b (by simp [hb]) x e
            have tall := (tp.trans t3).trans t4
            have f5 : Fp G4 H4 (Wf F4) (Wf F0) H0 (fp4 ++ (A :: a :: (fe' ++ fr))) := (f4.since (tp.trans t3)).app hf5 fun y h1 h2 => by
              rcases f4.new y h1 with z | z
              · exact (hf4.off y h2).2.2 z
              · obtain ⟨_, ⟨x, hx, _⟩, _⟩ := hf4.off y h2
                rw [hx] at z; cases z
            obtain ⟨F5, fp5, S5, t5, tv, f6, _⟩ := ownR_ok S4 tall r4 f5 q5
            have lx := trsLen hx4
            refine ⟨xs, hA4, by rw [lx]; exact szOf (by omega), ?_⟩
            have S6 := S5.wiped vs hfr
            rw [ww] at S6
            have fA := f6.off A (by simp)
            have S7 := S6.poke (o := .lst (xs ++ [v])) hA4 nt_lst fA.1 fA.2.2 nt_lst
            have n6 := f6.nod
            have nA6 : ∀ b, (b ∈ fp5 ∨ b = a ∨ b ∈ fe' ∨ b ∈ fr) → b ≠ A := fun b hb z => by
              subst z
              have h1 := List.nodup_append.mp n6
              rcases hb with hb | hb
              · exact h1.2.2 b hb b (by simp) rfl
              · have h2 := (List.nodup_cons.mp h1.2.1).1
                apply h2
                rcases hb with hb | hb | hb <;> simp [hb]
            have pm2 : (fp5 ++ (A :: a :: (fe' ++ fr))).Perm (A :: a :: ((fe' ++ (fp5 ++ [])) ++ fr)) := by
              rw [List.append_nil]
              have h1 : (fp5 ++ ((A :: a :: []) ++ (fe' ++ fr))).Perm ((A :: a :: []) ++ (fp5 ++ (fe' ++ fr))) := List.perm_append_comm_assoc _ _ _
              have h2 : (fp5 ++ (fe' ++ fr)).Perm ((fe' ++ fp5) ++ fr) := by
                rw [List.append_assoc]
                exact List.perm_append_comm_assoc _ _ _
              exact h1.trans ((h2.cons a).cons A)
            refine ⟨G4, F5, xs ++ [v], fe' ++ (fp5 ++ []), fr, S7, t5.poke (t5.own A |> fun _ => (f6.new A (by simp))), sg.trans (t3.sg.trans t4.sg), upd_same, ?_, (upd_ne (nA6 a (by simp))).trans ha4, ?_, (f6.perm pm2).poke nt_lst⟩
            · exact trsApp (trsMono _ _ _ hx4 fun b hb x e => (upd_ne (nA6 b (by simp [hb]))).trans e) (.cons (trMono _ _ _ tv fun b hb x e => (upd_ne (nA6 b (by simp [hb]))).trans e) .nil)
            · exact trsMono _ _ _ hr4 fun b hb x e => (upd_ne (nA6 b (by simp [hb]))).trans e
        · have ej : j = l.length := by omega
          subst ej
          rw [List.drop_length] at hrun
          cases hrun
          obtain ⟨F', S7, w7⟩ := SI.mended S1 sg S (fun j hj => hv j hj) hn hfr
          have fA : Fp G H (Wf F') (Wf F0) H0 (A :: fe') := (hf.part (by
            have n1 := List.nodup_cons.mp hf.nod
            have n2 := List.nodup_cons.mp n1.2
            refine List.nodup_cons.mpr ⟨fun z => n1.1 (by simp [z]), (List.nodup_append.mp n2.2).1⟩) fun b hb => by
              rcases List.mem_cons.mp hb with rfl | hb
              · simp
              · simp [hb]).less w7
          exact .inl ⟨⟨ys, SqL.of ha', by omega⟩, q _ G H F' (A :: fe') S7 (t.reown fun b hb => t.own b (w7 b hb)) (Rep.nrm (K := K) (G := G) (.lst hA' hxs)) fA⟩
      · cases e
    · cases e
  · cases e
end Fx
set_option Elab.async false
set_option linter.all false
set_option maxRecDepth 100000
/-! Gx: an owned tree is lent to a statement: it is shared data while the statement runs. -/
namespace Fx
open PySem PySem.Spec L2
variable {K : Kc} {Z : Zc}
def frzL (ds : DS) : List Nat → DS
  | [] => ds
  | j :: r => match (frzL ds r)[j]? with
    | some (some o) => (frzL ds r).set j (some (.sh o.view))
    | _ => frzL ds r
theorem SI.frzL {G H : Hp} {σ : St} {ds : DS} {F : Nat → List Addr} (S : SI K G H σ ds F) : ∀ (l : List Nat), ∃ G' F', SI K G' H σ (Fx.frzL ds l) F' ∧ Step (Wf F) G H G' H (Wf F') ∧ ∀ b, Wf F' b → Wf F b
  | [] => ⟨G, F, S, Step.refl _ _ _, fun _ h => h⟩
  | j :: r => by
    obtain ⟨G1, F1, S1, t1, w1⟩ := S.frzL r
    unfold Fx.frzL
    split
    · rename_i o ho
      have n : ∀ b ∈ F1 j, G1 b = none := fun b hb => (S1.off j b hb).1
      exact ⟨_, _, S1.drop j o ho, (t1.lay n fun b hb => t1.own b ⟨j, hb⟩).reown fun b hb => t1.own b (wf_sh hb), fun b hb => w1 b (wf_sh hb)⟩
    · exact ⟨G1, F1, S1, t1, w1⟩
theorem SI.shutL {G H : Hp} {σ : St} {ds : DS} {F : Nat → List Addr} (S : SI K G H σ ds F) : ∀ (l : List Nat), (∀ i ∈ l, i < K.n) → ∃ F', SI K G H σ (wipeD ds l) F' ∧ ∀ j, (∀ b ∈ F' j, b ∈ F j)
  | [], _ => ⟨F, S, fun _ _ h => h⟩
  | j :: r, h => by
    obtain ⟨F1, S1, w1⟩ := S.shutL r fun i hi => h i (by simp [hi])
    refine ⟨_, S1.shut j (h j (by simp)), fun k b hb => ?_⟩
    unfold offF at hb
    split at hb
    · cases hb
    · exact w1 k b hb
/-- slot j of d1, after the statement, needs nothing of what was lent -/
def cl (T : List Nat) (d0 d1 : DS) (j : Nat) : Prop := match d1[j]? with
  | some (some o) => o.own?.isSome = true ∨ (j ∉ T ∧ d0[j]? = some (some o) ∧ ∃ d, o = .sh d)
  | _ => True
noncomputable def borEnd (i : Nat) (d : D) (T fo : List Nat) (d0 : DS) : Out → Option Out
  | .nx d' => if yes (∀ j, j ≠ i → cl T d0 (wipeD d' fo) j) = true then some (.nx ((wipeD d' fo).set i (some (nrm d)))) else none
  | .bk d' => if yes (∀ j, j ≠ i → cl T d0 (wipeD d' fo) j) = true then some (.bk ((wipeD d' fo).set i (some (nrm d)))) else none
  | .ct d' => if yes (∀ j, j ≠ i → cl T d0 (wipeD d' fo) j) = true then some (.ct ((wipeD d' fo).set i (some (nrm d)))) else none
  | .ret o d' => if o.own?.isSome = true then some (.ret o ((wipeD d' (List.range d'.length)).set i (some (nrm d)))) else none
  | .ex x d' => if yes (∀ j, j ≠ i → cl T d0 (wipeD d' fo) j) = true then some (.ex x ((wipeD d' fo).set i (some (nrm d)))) else none
/-- the tree of slot i is lent to f; before, the slots fz become shared, the slots fg are forgotten; behind it the slots fo are forgotten -/
noncomputable def fBorS (i : Nat) (fz fg fo T : List Nat) (f : DS → Option Out) (ds : DS) : Option Out := match (wipeD (frzL ds fz) fg)[i]? with
  | some (some o) => match o.own? with
    | some d => (f ((wipeD (frzL ds fz) fg).set i (some (.sh d)))).bind fun r => borEnd i d T fo (wipeD (frzL ds fz) fg) r
    | none => none
  | _ => none
theorem rs_bor {i : Nat} {fz fg fo T : List Nat} (hi : i < K.n) (hf : K.free i) (hT : i ∉ T) (hob : K.ob = none) (h1 : ∀ j ∈ fg, j < K.n) (h2 : ∀ j ∈ fo, j < K.n ∧ j ≠ i) {t : TS} {f : DS → Option Out} (h : RS K Z T t f) : RS K Z T t (fBorS i fz fg fo T f) := by
  intro G H F σ ds o E S e q
  unfold fBorS at e
  split at e
  · rename_i o0 ho0
    split at e
    · rename_i d hd
      simp only [Option.bind_eq_some_iff] at e
      obtain ⟨r, e1, e2⟩ := e
      obtain ⟨G1, F1, S1, t1, w1⟩ := S.frzL fz
      obtain ⟨FN, SN, wN⟩ := S1.shutL fg h1
      generalize hdN : wipeD (frzL ds fz) fg = dN at *
      have wN' : ∀ b, Wf FN b → Wf F1 b := fun b ⟨j, hb⟩ => ⟨j, wN j b hb⟩
      have tN : Step (Wf F) G H G1 H (Wf FN) := t1.reown fun b hb => t1.own b (wN' b hb)
      have ov := own_view hd
      have S3 := SN.drop i o0 ho0
      rw [ov] at S3
      obtain ⟨v0, k1, k2⟩ := SN.rep i _ ho0
      have k1 := look_at k1 (by rw [SN.sl]; exact hi)
      have tr := Rep.own k2 hd
      -- what holds behind the statement
      have mend : ∀ (σ' : St) (G' H' : Hp) (F' : Nat → List Addr) (d' : DS), SI K G' H' σ' d' F' → Step (Wf (offF FN i [])) (Fx.lay G1 H (FN i)) H G' H' (Wf F') → Off T σ σ' → ∀ fo : List Nat, (∀ j ∈ fo, j < K.n) → (∀ j, j ≠ i → cl T dN (wipeD d' fo) j) →
          ∃ F'', SI K G1 H' σ' ((wipeD d' fo).set i (some (nrm d))) F'' ∧ Step (Wf F) G H G1 H' (Wf F'') ∧ ∀ b, Wf F'' b → Wf F' b ∨ b ∈ FN i := by
        intro σ' G' H' F' d' S' t' off fo hfo hc
        obtain ⟨Fw, Sw, ww⟩ := S'.shutL fo hfo
        have sG : Same G1 G' := (same_lay fun b hb => (SN.off i b hb).1).trans t'.sg
        have inG : ∀ b ∈ FN i, ∃ x, G' b = some x ∧ H b = some x ∧ H' b = some x := fun b hb => by
          obtain ⟨_, x, hx, _⟩ := SN.off i b hb
          have : (Fx.lay G1 H (FN i)) b = some x := by rw [lay_in hb]; exact hx
          have := t'.sg b x this
          exact ⟨x, this, hx, S'.sub b x this⟩
        have dj : ∀ j b, b ∈ Fw j → b ∉ FN i := fun j b hb z => by
          obtain ⟨x, g1, _⟩ := inG b z
          rw [(Sw.off j b hb).1] at g1; cases g1
        have lD : d'.length = K.n + K.nf := S'.len
        have il : i < (wipeD d' fo).length := by rw [wipeD_length, lD]; omega
        refine ⟨offF Fw i (FN i), ⟨fun b x e => S'.sub b x (sG b x e), SN.gnt, S'.tab, S'.sl, by rw [List.length_set, wipeD_length]; exact lD, fun j u e => ?_, fun j => ?_, fun j b hb => ?_, fun j k b h3 h4 => ?_, fun u e => ?_, fun p e => ?_⟩, ?_, fun b hb => ?_⟩
        · by_cases hj : j = i
          · subst hj
            rw [List.getElem?_set_self il] at e
            cases e
            refine ⟨v0, .inl ((off.2 j hT).trans k1), ?_⟩
            unfold offF; rw [if_pos rfl]
            exact Rep.nrm (trMono _ _ _ tr fun b hb x e => by
              obtain ⟨y, _, g2, g3⟩ := inG b hb
              rw [e] at g2; cases g2; exact g3)
          · rw [List.getElem?_set_ne (Ne.symm hj)] at e
            have cj := hc j hj
            unfold cl at cj
            rw [e] at cj
            obtain ⟨w, l1, l2⟩ := Sw.rep j u e
            unfold offF; rw [if_neg hj]
            rcases cj with cj | ⟨c1, c2, dd, c3⟩
            · obtain ⟨dd, c⟩ := Option.isSome_iff_exists.mp cj
              exact ⟨w, l1, Rep.closed l2 c⟩
            · subst c3
              obtain ⟨w', l3, l4⟩ := SN.rep j _ c2
              have z1 : Fw j = [] := l2.2
              refine ⟨w', ?_, l4.1, z1⟩
              rcases l3 with l3 | ⟨_, o', _, _, _, _, _, q1, _⟩
              · exact .inl ((off.2 j c1).trans l3)
              · rw [hob] at q1; cases q1
        · unfold offF; split
          · exact SN.nod i
          · exact Sw.nod j
        · unfold offF at hb
          split at hb
          · obtain ⟨g0, x, gx, nt⟩ := SN.off i b hb
            obtain ⟨y, g1, g2, g3⟩ := inG b hb
            rw [gx] at g2; cases g2
            exact ⟨g0, x, g3, nt⟩
          · obtain ⟨g0, x, gx, nt⟩ := Sw.off j b hb
            refine ⟨?_, x, gx, nt⟩
            rcases some_or (G1 b) with ⟨y, e⟩ | e
            · rw [sG b y e] at g0; cases g0
            · exact e
        · unfold offF at h3 h4
          split at h3
          · split at h4
            · omega
            · exact absurd h3 (dj k b h4)
          · split at h4
            · exact absurd h4 (dj j b h3)
            · exact Sw.dis j k b h3 h4
        · rw [hob] at e; cases e
        · obtain ⟨g1, g2⟩ := Sw.exs p e
          have hs : i ≠ p.1 := fun z => by
            have := Kc.free_ex hf e
            exact this z.symm
          exact ⟨by rw [List.getElem?_set_ne hs]; exact g1, g2⟩
        · refine tN.trans ⟨Same.refl _, fun b x e n nb => t'.keep b x e (fun z => n (wf_sh z)) nb, t'.dom, fun b x e => .inl ⟨x, e⟩, fun b hb => ?_⟩
          rcases wf_off hb with ⟨j, hb⟩ | hb
          · exact (t'.own b ⟨j, ww j b hb⟩).imp wf_sh id
          · exact .inl ⟨i, hb⟩
        · rcases wf_off hb with ⟨j, hb⟩ | hb
          · exact .inl ⟨j, ww j b hb⟩
          · exact .inr hb
      refine h _ H _ σ _ r E S3 e1 ?_
      cases r with
      | nx d' =>
        simp only [borEnd] at e2
        split at e2
        · rename_i hy
          cases e2
          intro σ' G' H' F' S' t' off
          obtain ⟨F'', S4, t4, _⟩ := mend σ' G' H' F' d' S' t' off fo (fun j hj => (h2 j hj).1) (of_yes hy)
          exact q σ' G1 H' F'' S4 t4 off
        · cases e2
      | bk d' =>
        simp only [borEnd] at e2
        split at e2
        · rename_i hy
          cases e2
          intro σ' G' H' F' S' t' off
          obtain ⟨F'', S4, t4, _⟩ := mend σ' G' H' F' d' S' t' off fo (fun j hj => (h2 j hj).1) (of_yes hy)
          exact q σ' G1 H' F'' S4 t4 off
        · cases e2
      | ct d' =>
        simp only [borEnd] at e2
        split at e2
        · rename_i hy
          cases e2
          intro σ' G' H' F' S' t' off
          obtain ⟨F'', S4, t4, _⟩ := mend σ' G' H' F' d' S' t' off fo (fun j hj => (h2 j hj).1) (of_yes hy)
          exact q σ' G1 H' F'' S4 t4 off
        · cases e2
      | ret ro d' =>
        simp only [borEnd] at e2
        split at e2
        · rename_i hy
          cases e2
          intro v σ' G' H' F' fp S' t' off rr ff
          have nf0 : K.nf = 0 := by unfold Kc.nf; rw [hob]
          obtain ⟨F'', S4, t4, w4⟩ := mend σ' G' H' F' d' S' t' off (List.range d'.length) (fun j hj => by
            have := S'.len
            have := List.mem_range.mp hj
            omega) (fun j _ => by
            unfold cl
            split
            · rename_i o ho
              obtain ⟨h5, h6⟩ := wipeD_some ho
              exact absurd (List.mem_range.mpr (List.getElem?_eq_some_iff.mp h5).1) h6
            · trivial)
          obtain ⟨dd, c⟩ := Option.isSome_iff_exists.mp hy
          have sG : Same G1 G' := (same_lay fun b hb => (SN.off i b hb).1).trans t'.sg
          refine q v σ' G1 H' F'' fp S4 t4 off (Rep.closed rr c) ⟨ff.nod, fun b hb => ⟨?_, (ff.off b hb).2.1, fun z => ?_⟩, fun b hb => ?_⟩
          · rcases some_or (G1 b) with ⟨y, e⟩ | e
            · have := (ff.off b hb).1
              rw [sG b y e] at this; cases this
            · exact e
          · rcases w4 b z with z | z
            · exact (ff.off b hb).2.2 z
            · obtain ⟨_, x, hx, _⟩ := SN.off i b z
              have : (Fx.lay G1 H (FN i)) b = some x := by rw [lay_in z]; exact hx
              have := t'.sg b x this
              rw [(ff.off b hb).1] at this; cases this
          · rcases ff.new b hb with z | z
            · exact tN.own b (wf_sh z)
            · exact .inr z
        · cases e2
      | ex x d' =>
        simp only [borEnd] at e2
        split at e2
        · rename_i hy
          cases e2
          intro C σ' G' H' F' m S' t' off
          obtain ⟨F'', S4, t4, _⟩ := mend σ' G' H' F' d' S' t' off fo (fun j hj => (h2 j hj).1) (of_yes hy)
          exact q C σ' G1 H' F'' m S4 t4 off
        · cases e2
    · cases e
  · cases e
section
variable {X : Cx} {st : Stmt} {ts : TS} {fs : DS → Option Out} {T : List Nat}
theorem s_bor (i : Nat) (fz fg fo : List Nat) (h : JS K X Z T st ts fs) (hT : i ∉ T := by decide) (hob : K.ob = none := by rfl) (h1 : (fg.all fun j => decide (j < K.n)) = true := by rfl) (h2 : (fo.all fun j => decide (j < K.n) && decide (j ≠ i)) = true := by rfl) (kin : decide (i < K.n) = true := by rfl) (kif : K.freeB i = true := by rfl) : JS K X Z T st ts (fBorS i fz fg fo T fs) :=
  ⟨h.p, rs_bor (of_decide_eq_true kin) (Kc.freeB_ok kif) hT hob (fun j hj => by
    have := (List.all_eq_true.mp h1) j hj
    exact of_decide_eq_true this) (fun j hj => by
    have := (List.all_eq_true.mp h2) j hj
    rw [Bool.and_eq_true] at this
    exact ⟨of_decide_eq_true this.1, of_decide_eq_true this.2⟩) h.r⟩
end
end Fx
set_option Elab.async false
set_option linter.all false
set_option maxRecDepth 100000
set_option maxHeartbeats 1000000
/-! Gx: sorted(x, key=f) of an owned list x, whose items move; x[k].append(e) inside an owned list. -/
namespace Fx
open PySem PySem.Spec L2
variable {K : Kc} {Z : Zc}
theorem upd_upd {H : Hp} {p : Addr} {x y : HO} : upd (upd H p x) p y = upd H p y := by
  funext b
  by_cases h : b = p
  · subst h; rw [upd_same, upd_same]
  · rw [upd_ne h, upd_ne h, upd_ne h]
theorem trs_mem {H : Hp} : ∀ {vs : List V} {ds : List D} {fp : List Addr}, TrAll H vs ds fp → ∀ t ∈ vs.zip ds, ∃ f, Tr H t.1 t.2 f ∧ ∀ b ∈ f, b ∈ fp
  | _, _, _, .nil, t, h => by simp at h
  | _, _, _, .cons a r, t, h => by
    rw [List.zip_cons_cons] at h
    rcases List.mem_cons.mp h with rfl | h
    · exact ⟨_, a, fun b hb => List.mem_append_left _ hb⟩
    · obtain ⟨f, h1, h2⟩ := trs_mem r t h
      exact ⟨f, h1, fun b hb => List.mem_append_right _ (h2 b hb)⟩
theorem trs_trip {H : Hp} : ∀ {vs : List V} {ds : List D} {fp : List Addr}, TrAll H vs ds fp → ∃ ts : List (V × D × List Addr), vs = ts.map (fun t => t.1) ∧ ds = ts.map (fun t => t.2.1) ∧ fp = (ts.map fun t => t.2.2).flatten ∧ ∀ t ∈ ts, Tr H t.1 t.2.1 t.2.2
  | _, _, _, .nil => ⟨[], rfl, rfl, rfl, fun _ h => by simp at h⟩
  | _, _, _, .cons (v := v) (d := d) (fp := f) a r => by
    obtain ⟨ts, h1, h2, h3, h4⟩ := trs_trip r
    refine ⟨(v, d, f) :: ts, by rw [h1]; rfl, by rw [h2]; rfl, by rw [h3]; rfl, fun t ht => ?_⟩
    rcases List.mem_cons.mp ht with rfl | ht
    · exact a
    · exact h4 t ht
theorem trs_of {H : Hp} : ∀ ts : List (V × D × List Addr), (∀ t ∈ ts, Tr H t.1 t.2.1 t.2.2) → TrAll H (ts.map fun t => t.1) (ts.map fun t => t.2.1) (ts.map fun t => t.2.2).flatten
  | [], _ => .nil
  | t :: ts, h => .cons (h t (by simp)) (trs_of ts fun u hu => h u (by simp [hu]))
theorem perm_flat {α : Type} : ∀ {l m : List (List α)}, l.Perm m → l.flatten.Perm m.flatten := by
  intro l m h
  induction h with
  | nil => exact .nil
  | cons x _ ih => exact ih.append_left x
  | swap x y l =>
    show (y ++ (x ++ l.flatten)).Perm (x ++ (y ++ l.flatten))
    exact List.perm_append_comm_assoc _ _ _
  | trans _ _ a b => exact a.trans b
def fSortKT (j : Nat) (caps : List Nat) (fb : DS → Option (RV × DS)) (ds : DS) : Option (RV × DS) := match ds[j]? with
  | some (some o) => match o.own? with
    | some (.list l) => (capV (ds.set j none) caps).bind fun cv => (keysF fb cv l).bind fun ks => if l.length < 64 ∧ ks.Nodup then some (.ov (nrm (.list (sortBy ks l))), ds.set j none) else none
    | _ => none
  | _ => none
theorem re_sortKT {qn : Str} {caps : List (Str × Nat)} {tb : TE} {fb : DS → Option (RV × DS)} {j : Nat} (hj : j < K.n) (hcap : ∀ p ∈ caps, p.2 < K.n) (hb : RE ⟨K.fr, K.tb, none, caps.length + 1, none⟩ tb fb) :
    RE K (tSortK K.fr K.tb qn caps tb (tVar j)) (fSortKT j (caps.map Prod.snd) fb) := by
  intro G H F σ ds rv ds' Q S e q
  unfold fSortKT at e
  split at e
  · rename_i o ho
    split at e
    · rename_i l hl
      simp only [Option.bind_eq_some_iff] at e
      obtain ⟨cv, e4, ks, e5, e6⟩ := e
      split at e6
      · rename_i hg
        obtain ⟨h64, hnd⟩ := hg
        cases e6
        obtain ⟨a, xs, fq, k1, k2, k3, k4⟩ := slot_own S hj ho hl
        have lx := trsLen k3
        have S1 := S.shut j hj
        have fi : Fp G H (Wf (offF F j [])) (Wf F) H (a :: fq) := k4 ▸ fp_slot S (Step.refl _ _ _) j
        refine ⟨.ref a, k1, a, xs, rfl, SqL.of k2, by omega, S.tab, fun H2 c' ls hco => ?_⟩
        have tl : Step (Wf (offF F j [])) G H G H2 (Wf (offF F j [])) := ⟨Same.refl _, fun b x e _ nb => ls.keep b x e nb, ls.dom, fun b x e => .inl ⟨x, e⟩, fun b z => .inl z⟩
        have tl0 : Step (Wf (fun _ => [])) G H G H2 (Wf (fun _ => [])) := ⟨Same.refl _, fun b x e _ nb => ls.keep b x e nb, ls.dom, fun b x e => .inl ⟨x, e⟩, fun b z => .inl z⟩
        have S3 := S1.frame tl0 (fun b x e => ls.keep b x (S1.sub b x e) (S1.gnt b x e).1) S1.gnt ls.tab fun a _ z => noW z
        have run : ∀ (ys : List V) (m : List D) (ns acc : List Int) (H' : Hp), ys.length = m.length → (∀ t ∈ ys.zip m, t ∈ xs.zip l) → keysF fb cv m = some ns → acc ++ ns = ks → SI K G H' σ (ds.set j none) (offF F j []) → Step (Wf F) G H G H' (Wf (offF F j [])) → TrAll H' xs l fq → Fp G H' (Wf (offF F j [])) (Wf F) H (a :: fq) → H' c' = some (LamX.CodeO c' qn) →
            KR (fun x H Q => H c' = some (LamX.CodeO c' qn) ∧ tb (lamS x caps σ) H Q) ys acc H' fun ks H3 => ∀ ys l, ks.length = xs.length → SortedBy ks xs ys → H3 l = none → Q (.ref l) (upd H3 l (.lst ys)) := by
          intro ys
          induction ys with
          | nil =>
            intro m ns acc H' hy hmem hk hacc S' t' tr hf hc
            have : m = [] := List.length_eq_zero_iff.mp (by simpa using hy.symm)
            subst this
            cases hk
            rw [List.append_nil] at hacc
            subst hacc
            intro zs p hlen hsb hn
            obtain ⟨qs, p1, rfl, p3⟩ := hsb
            obtain ⟨ts, z1, z2, z3, z4⟩ := trs_trip tr
            have lt : ts.length = acc.length := by rw [hlen, z1]; simp
            have ez : acc.zip xs = (acc.zip ts).map fun t => (t.1, t.2.1) := by
              subst z1
              refine List.ext_getElem (by simp) fun i a1 a2 => ?_
              simp
            obtain ⟨l', w1, w2⟩ := perm_lift p1 _ ez
            have ew : ((acc.zip ts).map fun t => t.2) = ts := by
              have := List.map_snd_zip (l₁ := acc) (l₂ := ts) (by omega)
              exact this
            have pw : (l'.map fun t => t.2).Perm ts := by
              have := w1.map fun t => t.2
              rwa [ew] at this
            have ey : qs.map Prod.snd = (l'.map fun t => t.2).map fun t => t.1 := by rw [← w2, List.map_map, List.map_map]; rfl
            have ed : ((l'.map fun t => t.2).map fun t => t.2.1) = sortBy acc l := by
              have y1 : (l'.map fun t => (t.1, t.2.2.1)).Perm (acc.zip l) := by
                have ez2 : acc.zip l = (acc.zip ts).map fun t => (t.1, t.2.2.1) := by
                  subst z2
                  refine List.ext_getElem (by simp) fun i a1 a2 => ?_
                  simp
                rw [ez2]
                exact w1.map _
              have y2 : (l'.map fun t => (t.1, t.2.2.1)).Pairwise fun p q => p.1 ≤ q.1 := by
                rw [← w2, List.pairwise_map] at p3
                rw [List.pairwise_map]
                exact p3
              have y3 := sortBy_eq y1 y2 (by rw [hlen, lx]) hnd
              rw [← y3, List.map_map, List.map_map]; rfl
            have trl := trs_of (H := H') (l'.map fun t => t.2) fun t ht => z4 t (pw.mem_iff.mp ht)
            rw [← ey, ed] at trl
            generalize hfz : ((l'.map fun t => t.2).map fun t => t.2.2).flatten = fz at trl
            have pf : fz.Perm fq := by
              rw [← hfz, z3]
              exact perm_flat (pw.map _)
            obtain ⟨S4, t4, r4, f4⟩ := new_list (ys := []) (z := []) S' t' hn .nil
            have f0 := f4.off p (by simp)
            have S5 := S4.poke (o := .lst (qs.map Prod.snd)) upd_same nt_lst f0.1 f0.2.2 nt_lst
            have t5 := t4.poke (A := p) (o := .lst (qs.map Prod.snd)) (f4.new p (by simp))
            rw [upd_upd] at S5 t5
            have hfq : Fp G H' (Wf (offF F j [])) (Wf F) H fz := (hf.part (List.nodup_cons.mp hf.nod).2 fun b hb => by simp [hb]).perm pf.symm
            have np : ∀ b ∈ fz, b ≠ p := fun b hb z => by
              obtain ⟨_, ⟨x, h, _⟩, _⟩ := hfq.off b hb
              rw [z, hn] at h; cases h
            have f6 := (f4.poke (A := p) (o := .lst (qs.map Prod.snd)) nt_lst)
            rw [upd_upd] at f6
            have f7 := f6.app (hfq.poke (A := p) (o := .lst (qs.map Prod.snd)) nt_lst) fun b h1 h2 => np b h2 (by simpa using h1)
            exact q _ _ _ _ _ S5 t5 (Rep.nrm (K := K) (G := G) (.lst upd_same (trsMono _ _ _ trl fun b hb x e => (upd_ne (np b hb)).trans e))) f7
          | cons x ys ih =>
            intro m ns acc H' hy hmem hk hacc S' t' tr hf hc
            cases m with
            | nil => simp at hy
            | cons d m =>
            simp only [keysF] at hk
            split at hk
            · rename_i k dsl hfb
              simp only [Option.map_eq_some_iff] at hk
              obtain ⟨ns', h1, rfl⟩ := hk
              obtain ⟨ws, w1, w2⟩ := capV_ok S' hcap e4
              have es : lamS x caps σ = (x :: ws).map some := by
                show some x :: _ = _
                rw [w1]; rfl
              have wl : ws.length = caps.length := by
                have := congrArg List.length w1
                simpa using this.symm
              refine ⟨hc, ?_⟩
              rw [es]
              have hG : ∀ b x, G b = some x → NT x ∧ b ∉ ([] : List Addr) ∧ H' b = some x := fun b x e => ⟨S'.gnt b x e, by simp, S'.sub b x e⟩
              obtain ⟨f, u1, u2⟩ := trs_mem tr (x, d) (hmem _ (by simp))
              have dx : Dp K (Gb H' []) x d := Rep.gb (o := .tree d) (G := G) u1 hG fun b hb => ⟨by simp, (hf.off b (by simp [u2 b hb])).2.1⟩
              have Sl : SI ⟨K.fr, K.tb, none, (x :: ws).length, none⟩ (Gb H' []) H' ((x :: ws).map some) (shs (d :: cv)) (fun _ => []) := SI.shared (fun b x h => (gb_some h).1) (fun b x h => (gb_some h).2.1) S'.tab (.cons dx (dpsGb (K := K) hG _ _ w2))
              have el : (x :: ws).length = caps.length + 1 := by simp [wl]
              rw [el] at Sl
              refine hb _ H' _ _ _ _ _ _ Sl hfb fun v G'' H'' F'' fp'' Sl' t'' r'' f'' => ?_
              have rk : Dp ⟨K.fr, K.tb, none, caps.length + 1, none⟩ G'' v (.int k) := r''.1
              cases rk
              refine ⟨k, rfl, ?_⟩
              have tf : Step (Wf (fun _ => [])) G H' G H'' (Wf F'') := ⟨Same.refl _, t''.keep, t''.dom, fun b x e => .inl ⟨x, e⟩, t''.own⟩
              have tg : Step (Wf (offF F j [])) G H' G H'' (Wf (offF F j [])) := ⟨Same.refl _, fun b x e n nt => t''.keep b x e noW nt, t''.dom, fun b x e => .inl ⟨x, e⟩, fun b z => .inl z⟩
              have S'' := S'.frame tf (fun b x h => t''.keep b x (S'.sub b x h) noW (S'.gnt b x h).1) S'.gnt Sl'.tab fun a _ z => noW z
              exact ih m ns' (acc ++ [k]) H'' (by simpa using hy) (fun t ht => hmem t (by simp [ht])) h1 (by rw [← hacc]; simp) S'' (t'.trans tg) (trsMono _ _ _ tr fun b hb x e => hf.keeps tg b (by simp [hb]) x e) (hf.step tg) (t''.keep _ _ hc noW (LamX.codeO_ne))
            · cases hk
        have t1 : Step (Wf F) G H G H (Wf (offF F j [])) := (Step.refl _ _ _).reown fun b hb => .inl (wf_sh hb)
        exact run xs l ks [] H2 lx (fun _ h => h) e5 rfl S3 (t1.trans tl) (trsMono _ _ _ k3 fun b hb x e => fi.keeps tl b (by simp [hb]) x e) (fi.step tl) hco
      · cases e6
    · cases e
  · cases e
/-! ### inside an owned list -/
/-- an argument that changes nothing -/
def Sim (K : Kc) (t : TE) (f : DS → Option D) : Prop := ∀ (G H : Hp) (F : Nat → List Addr) (σ : St) (ds : DS) (d : D) (Q : VK), SI K G H σ ds F → f ds = some d → isSc d = true ∧ ((∀ v, Sc v d → Q v H) → t σ H Q)
def fSimV (i : Nat) (ds : DS) : Option D := match ds[i]? with
  | some (some (.sh d)) => if isSc d = true then some d else none
  | _ => none
theorem sim_var {i : Nat} (hi : i < K.n) : Sim K (tVar i) (fSimV i) := by
  intro G H F σ ds d Q S e
  unfold fSimV at e
  split at e
  · rename_i d' hd
    split at e
    · rename_i hs
      cases e
      obtain ⟨v, h1, h2⟩ := S.rep i _ hd
      have h1 := look_at h1 (by rw [S.sl]; exact hi)
      exact ⟨hs, fun q => ⟨v, h1, q v (scOf h2.1 hs)⟩⟩
    · cases e
  · cases e
theorem trs_at {H : Hp} : ∀ {vs : List V} {ds : List D} {fp : List Addr} {j : Nat} {d : D}, TrAll H vs ds fp → ds[j]? = some d → ∃ v f1 f2 f3, vs[j]? = some v ∧ Tr H v d f2 ∧ fp = f1 ++ (f2 ++ f3) ∧ ∀ (H' : Hp) (d' : D) (f2' : List Addr), (∀ b ∈ f1 ++ f3, ∀ x, H b = some x → H' b = some x) → Tr H' v d' f2' → TrAll H' vs (ds.set j d') (f1 ++ (f2' ++ f3))
  | _, _, _, _, _, .nil, e => by simp at e
  | _, _, _, 0, d, .cons (v := v) (fp := f) (fq := g) a r, e => by
    simp at e
    subst e
    refine ⟨v, [], f, g, by simp, a, by simp, fun H' d' f2' k t => ?_⟩
    show TrAll H' (v :: _) (d' :: _) (f2' ++ g)
    exact .cons t (trsMono _ _ _ r fun b hb x e => k b (by simp [hb]) x e)
  | _, _, _, j + 1, d, .cons (v := v0) (d := d0) (fp := f) (fq := g) a r, e => by
    obtain ⟨v, f1, f2, f3, h1, h2, h3, h4⟩ := trs_at (j := j) r (by simpa using e)
    refine ⟨v, f ++ f1, f2, f3, by simpa using h1, h2, by rw [h3]; simp, fun H' d' f2' k t => ?_⟩
    rw [List.append_assoc]
    show TrAll H' (v0 :: _) (d0 :: _) _
    exact .cons (trMono _ _ _ a fun b hb x e => k b (by simp [hb]) x e) (h4 H' d' f2' (fun b hb x e => k b (by
      rcases List.mem_append.mp hb with hb | hb <;> simp [hb]) x e) t)
/-- x[k].append(e) -/
def fAppP (i : Nat) (fk : DS → Option (RV × DS)) (f : DS → Option D) (ds : DS) : Option Out := match ds[i]? with
  | some (some _) => (fk ds).bind fun w => match see w.1 w.2, w.2[i]? with
    | some (.int k), some (some o) => match o.own? with
      | some (.list l) => (ixN l.length k).bind fun j => match l[j]? with
        | some (.list m) => (f w.2).bind fun d => if m.length ≤ 1000000 then some (.nx (w.2.set i (some (nrm (.list (l.set j (.list (m ++ [d])))))))) else none
        | _ => none
      | _ => none
    | _, _ => none
  | _ => none
theorem rs_appP {i : Nat} (hn : i < K.n) (hf : K.free i) {tk t : TE} {fk : DS → Option (RV × DS)} {f : DS → Option D} (hk : RE K tk fk) (h : Sim K t f) : RS K Z [] (tDrop (tBM K "list" rAppend (tOp (rIxX K.fr) (tVar i) tk) (tCons t tNil))) (fAppP i fk f) := by
  intro G H F σ ds o E S e q
  unfold fAppP at e
  split at e
  · rename_i o0 ho0
    simp only [Option.bind_eq_some_iff] at e
    obtain ⟨⟨rk, d1⟩, e1, e2⟩ := e
    split at e2
    · rename_i k oo hk' hoo
      split at e2
      · rename_i l hl
        simp only [Option.bind_eq_some_iff] at e2
        obtain ⟨j, e3, e4⟩ := e2
        split at e4
        · rename_i m hm
          simp only [Option.bind_eq_some_iff] at e4
          obtain ⟨d, e5, e6⟩ := e4
          split at e6
          · rename_i hlen
            cases e6
            obtain ⟨v0, k1, k2⟩ := S.rep i _ ho0
            have k1 := look_at k1 (by rw [S.sl]; exact hn)
            refine ⟨v0, k1, ?_⟩
            refine hk G H F σ ds rk d1 _ S e1 fun vk G1 H1 F1 fp1 S1 t1 r1 f1 => ?_
            have xk := see_ok S1 r1 hk'
            cases xk
            obtain ⟨a, xs, fq, m1, m2, m3, m4⟩ := slot_own S1 hn hoo hl
            rw [k1] at m1
            cases m1
            obtain ⟨v, g1, g2, g3, n1, n2, n3, n4⟩ := trs_at m3 hm
            cases n2 with
            | sc s => cases s
            | lst n5 n6 =>
            rename_i b zs fz
            have ax : atI xs k = some (.ref b) := by
              unfold atI
              rw [trsLen m3, e3]
              exact n1
            refine .inl ⟨a, xs, k, .ref b, rfl, rfl, SqL.of m2, ax, .inl ⟨rfl, zs, SqL.of n5⟩, ?_⟩
            obtain ⟨hsc, hq⟩ := h G1 H1 F1 σ d1 d (fun y H2 => tNil σ H2 fun ys H3 => rAppend (.ref b) (y :: ys) H3 fun _ H4 => E.nx σ H4) S1 e5
            refine hq fun y sy => ?_
            refine ⟨b, zs, y, rfl, rfl, n5, by rw [trsLen n6]; exact szOf hlen, ?_⟩
            have fi := fp_slot S1 t1 i
            rw [m4, n3] at fi
            have S2 := S1.shut i hn
            have fb := fi.off b (by simp)
            have S3 := S2.poke (o := .lst (zs ++ [y])) n5 nt_lst fb.1 fb.2.2 nt_lst
            have nd := fi.nod
            have nb : ∀ c, c = a ∨ c ∈ g1 ++ g3 ∨ c ∈ fz → c ≠ b := fun c hc z => by
              subst z
              have x1 := List.nodup_cons.mp nd
              have x2 := List.nodup_append.mp x1.2
              have x3 := List.nodup_append.mp x2.2.1
              have x4 := List.nodup_cons.mp x3.1
              rcases hc with rfl | hc | hc
              · exact x1.1 (by simp)
              · rcases List.mem_append.mp hc with hc | hc
                · exact x2.2.2 _ hc _ (by simp) rfl
                · exact x3.2.2 _ (by simp) _ hc rfl
              · exact x4.1 hc
            have tb : Tr (upd H1 b (.lst (zs ++ [y]))) (.ref b) (.list (m ++ [d])) (b :: (fz ++ ([] ++ []))) :=
              .lst upd_same (trsApp (trsMono _ _ _ n6 fun c hc x e => (upd_ne (nb c (.inr (.inr hc)))).trans e) (.cons (.sc sy) .nil))
            have ta := n4 (upd H1 b (.lst (zs ++ [y]))) _ _ (fun c hc x e => (upd_ne (nb c (.inr (.inl hc)))).trans e) tb
            have tr : Tr (upd H1 b (.lst (zs ++ [y]))) (.ref a) (.list (l.set j (.list (m ++ [d])))) (a :: (g1 ++ (b :: fz ++ g3))) := .lst ((upd_ne (nb a (.inl rfl))).trans m2) (by simpa using ta)
            have S4 := S3.open' i hn hf k1 (Rep.nrm (K := K) (G := G1) tr) (fi.poke nt_lst)
            have t2 := ((t1.reown (W' := Wf (offF F1 i [])) fun c hc => t1.own c (wf_sh hc)).poke (A := b) (o := .lst (zs ++ [y])) (fi.new b (by simp))).put (i := i) fi.new
            rw [List.set_set] at S4
            exact q σ G1 _ _ S4 t2 (Off.refl _ _)
          · cases e6
        · cases e4
      · cases e2
    · cases e2
  · cases e
end Fx
set_option Elab.async false
set_option linter.all false
set_option maxRecDepth 100000
set_option maxHeartbeats 1000000
/-! Gx: owned trees: the syntax. -/
namespace Fx
open PySem PySem.Spec L2 PyProof.Rows
section
variable {K : Kc} {Z : Zc} {X : Cx} {e k : Expr} {te tk : TE} {fe fk : DS → Option (RV × DS)} {pos : Pos}
theorem s_appT (i : Nat) {x : Str} {p1 apos cpos : Pos} (he : JE K X e te fe) (hN : X.N[i]? = some x := by rfl) (hv : Vis X.env.scope x := by first | exact Or.inl rfl | exact Or.inr (Or.inl rfl) | exact Or.inr (Or.inr rfl)) (hd : (x == ("__debug__" : Str)) = false := by decide) (hcd : (x == ("__classdict__" : Str)) = false := by decide)
    (hse : starEach [e] X.env = (false, eval e X.env) :: starEach [] X.env := by rfl)
    (hbase : attributeBase (.Name x p1) "append" X.env (eval (.Name x p1) X.env) = eval (.Name x p1) X.env := by rfl)
    (hfew : ((backTo cpos (starEach [e] X.env)).all (fun x => !x.1) && (backToKw cpos (keywordEach [] X.env)).all (fun x => x.1.isSome)
      && decide ([e].length + ([] : List Keyword).length + (if ([] : List Keyword).isEmpty then 0 else 1) < 30)) = true := by rfl)
    (hline : (apos.endLine == cpos.line) = true := by rfl) (hplain : (backTo cpos (starEach [] X.env)).any (·.1) = false := by rfl)
    (hs : swapsWith (.Call (.Attribute (.Name x p1) "append" apos) [e] [] cpos) none pos.line X.env = pure false := by rfl) (hk : X.K = K.fr := by rfl) (kin : decide (i < K.n) = true := by rfl) (kif : K.freeB i = true := by rfl) :
    JS K X Z [] (.Expr (.Call (.Attribute (.Name x p1) "append" apos) [e] [] cpos) pos) (tDrop (tBM K "list" rAppend (tVar i) (tCons te tNil))) (fAppT i fe) := by
  have kif := Kc.freeB_ok kif
  obtain ⟨kf, kt, ko, kn, kx⟩ := K
  subst hk
  exact ⟨ps_expr (pe_bm PySem.F.plainAttrs_list PySem.F.slot_list_append PySem.F.type_list_append mt_append (pe_var hN hv hd hcd) (pa_cons he.p pa_nil hse) hbase hfew hline hse hplain) hs, rs_appT (of_decide_eq_true kin) kif he.r⟩
/-- an argument that changes nothing -/
structure JM (K : Kc) (X : Cx) (e : Expr) (t : TE) (f : DS → Option D) : Prop where
  p : PE X e t
  r : Sim K t f
theorem m_var (i : Nat) {x : Str} {p : Pos} (hN : X.N[i]? = some x := by rfl) (hv : Vis X.env.scope x := by first | exact Or.inl rfl | exact Or.inr (Or.inl rfl) | exact Or.inr (Or.inr rfl)) (hd : (x == ("__debug__" : Str)) = false := by decide) (hcd : (x == ("__classdict__" : Str)) = false := by decide) (kin : decide (i < K.n) = true := by rfl) :
    JM K X (.Name x p) (tVar i) (fSimV i) := ⟨pe_var hN hv hd hcd, sim_var (of_decide_eq_true kin)⟩
theorem sim_c {v : V} {d : D} (h : Sc v d) : Sim K (tC v) (fun _ => some d) := by
  intro G H F σ ds d' Q S e
  cases e
  refine ⟨?_, fun q => q v h⟩
  cases h <;> rfl
theorem m_int {i j} : JM K X (.Constant (.int i) j pos) (tC (.int i)) (fun _ => some (.int i)) := ⟨pe_int, sim_c (.int i)⟩
theorem m_non {j} : JM K X (.Constant .none j pos) (tC .non) (fun _ => some .none) := ⟨pe_non, sim_c .non⟩
theorem s_appP (i : Nat) {x : Str} {p1 p2 apos cpos : Pos} {fm : DS → Option D} (hk' : JE K X k tk fk) (he : JM K X e te fm) (hN : X.N[i]? = some x := by rfl) (hv : Vis X.env.scope x := by first | exact Or.inl rfl | exact Or.inr (Or.inl rfl) | exact Or.inr (Or.inr rfl)) (hd : (x == ("__debug__" : Str)) = false := by decide) (hcd : (x == ("__classdict__" : Str)) = false := by decide)
    (hpi : PlainIx k := by exact fun _ _ => rfl)
    (hse : starEach [e] X.env = (false, eval e X.env) :: starEach [] X.env := by rfl)
    (hbase : attributeBase (.Subscript (.Name x p1) k p2) "append" X.env (eval (.Subscript (.Name x p1) k p2) X.env) = eval (.Subscript (.Name x p1) k p2) X.env := by rfl)
    (hfew : ((backTo cpos (starEach [e] X.env)).all (fun x => !x.1) && (backToKw cpos (keywordEach [] X.env)).all (fun x => x.1.isSome)
      && decide ([e].length + ([] : List Keyword).length + (if ([] : List Keyword).isEmpty then 0 else 1) < 30)) = true := by rfl)
    (hline : (apos.endLine == cpos.line) = true := by rfl) (hplain : (backTo cpos (starEach [] X.env)).any (·.1) = false := by rfl)
    (hs : swapsWith (.Call (.Attribute (.Subscript (.Name x p1) k p2) "append" apos) [e] [] cpos) none pos.line X.env = pure false := by rfl) (hk : X.K = K.fr := by rfl) (kin : decide (i < K.n) = true := by rfl) (kif : K.freeB i = true := by rfl) :
    JS K X Z [] (.Expr (.Call (.Attribute (.Subscript (.Name x p1) k p2) "append" apos) [e] [] cpos) pos) (tDrop (tBM K "list" rAppend (tOp (rIxX K.fr) (tVar i) tk) (tCons te tNil))) (fAppP i fk fm) := by
  have kif := Kc.freeB_ok kif
  obtain ⟨kf, kt, ko, kn, kx⟩ := K
  subst hk
  exact ⟨ps_expr (pe_bm PySem.F.plainAttrs_list PySem.F.slot_list_append PySem.F.type_list_append mt_append (pe_ix ix_X (pe_var hN hv hd hcd) hk'.p hpi) (pa_cons he.p pa_nil hse) hbase hfew hline hse hplain) hs, rs_appP (of_decide_eq_true kin) kif hk'.r he.r⟩
end
section
variable {K : Kc} {Z : Zc} {X : Cx} {elt : Expr} {te : TE} {fe : DS → Option (RV × DS)} {t : TT} {ft : DS → Option (Bool × DS)} {ifs : List Expr} {scope : Scope} {own : List (Str × Nat)} {pos p tp : Pos} {z : Str} {T : List Nat} {fg : D → DS → Option DS}
/-- y = [elt for z in x if ..], x used up -/
theorem s_setLcC (i j k : Nat) {x y : Str} {py spos : Pos} (hc : X.calm = true) (hN : X.N.Nodup) (hsw : swapsWith (.ListComp elt [⟨.Name z tp, .Name x p, ifs, 0⟩] scope pos) (some (.Name y py)) spos.line X.env = pure true) (ok : BlkOk X.N X.env.scope scope own) (hg : ∀ (s : Shared) (H : Hp) (C : Addr) (cl : List (Str × Addr)) (fp : List Addr), JG K (X.blk s H scope (compEnvC scope cl C X.env) fp) T (.Name z tp) (gName k) fg)
    (ht : ∀ (s : Shared) (H : Hp) (C : Addr) (cl : List (Str × Addr)) (fp : List Addr), JTs K (X.blk s H scope (compEnvC scope cl C X.env) fp) ifs t ft) (he : ∀ (s : Shared) (H : Hp) (C : Addr) (cl : List (Str × Addr)) (fp : List Addr), JE K (X.blk s H scope (compEnvC scope cl C X.env) fp) elt te fe)
    (s0 : Shared) (H0 : Hp) (hkv : decide (k ∈ own.map (·.2)) = true := by rfl) (hj : X.N[j]? = some x := by rfl) (hv : Vis X.env.scope x := by first | exact Or.inl rfl | exact Or.inr (Or.inl rfl) | exact Or.inr (Or.inr rfl)) (hd : (x == ("__debug__" : Str)) = false := by decide)
    (hcd : (x == ("__classdict__" : Str)) = false := by decide) (hn : ((own.map (·.2)).all fun i => decide (i < K.n)) = true := by rfl) (hf : ((own.map (·.2)).all fun i => K.freeB i) = true := by rfl) (hin : decide (i < K.n) = true := by rfl) (hif : K.freeB i = true := by rfl) (hy : X.N[i]? = some y := by rfl) (hyl : X.env.scope.names.lookup y = some .local := by rfl) (hs : ∀ y, foldedSetIterable (.Name x p) X.env y = pure y := by intro _; rfl) (hk : X.K = K.fr := by rfl) (kin : decide (j < K.n) = true := by rfl) :
    JS K X Z [i] (.Assign [.Name y py] (.ListComp elt [⟨.Name z tp, .Name x p, ifs, 0⟩] scope pos) spos) (tAsg (tLc (iList K (tVar j)) (gName k) t te (own.map (·.2))) (gName i)) (fSet i (fLcC j k ft fe (own.map (·.2)))) := by
  obtain ⟨kf, kt, ko, kn, kx⟩ := K
  subst hk
  exact ⟨ps_setLc hc hN hy hyl hsw (pi_list (pe_var hj hv hd hcd)) ok (fun s H C cl fp => (hg s H C cl fp).p) (fun s H C cl fp => (ht s H C cl fp).p) (fun s H C cl fp => (he s H C cl fp).p) hs,
    rs_set (of_decide_eq_true hin) (Kc.freeB_ok hif) (re_lcC (of_decide_eq_true kin) (of_decide_eq_true hkv) (allN hn) (allF hf) (ht s0 H0 0 [] []).r (he s0 H0 0 [] []).r)⟩
theorem j_lcC (j k : Nat) {x : Str} (hc : X.calm = true) (hN : X.N.Nodup) (ok : BlkOk X.N X.env.scope scope own) (hg : ∀ (s : Shared) (H : Hp) (C : Addr) (cl : List (Str × Addr)) (fp : List Addr), JG K (X.blk s H scope (compEnvC scope cl C X.env) fp) T (.Name z tp) (gName k) fg)
    (ht : ∀ (s : Shared) (H : Hp) (C : Addr) (cl : List (Str × Addr)) (fp : List Addr), JTs K (X.blk s H scope (compEnvC scope cl C X.env) fp) ifs t ft) (he : ∀ (s : Shared) (H : Hp) (C : Addr) (cl : List (Str × Addr)) (fp : List Addr), JE K (X.blk s H scope (compEnvC scope cl C X.env) fp) elt te fe)
    (s0 : Shared) (H0 : Hp) (hkv : decide (k ∈ own.map (·.2)) = true := by rfl) (hj : X.N[j]? = some x := by rfl) (hv : Vis X.env.scope x := by first | exact Or.inl rfl | exact Or.inr (Or.inl rfl) | exact Or.inr (Or.inr rfl)) (hd : (x == ("__debug__" : Str)) = false := by decide)
    (hcd : (x == ("__classdict__" : Str)) = false := by decide) (hn : ((own.map (·.2)).all fun i => decide (i < K.n)) = true := by rfl) (hf : ((own.map (·.2)).all fun i => K.freeB i) = true := by rfl) (hs : ∀ y, foldedSetIterable (.Name x p) X.env y = pure y := by intro _; rfl) (hk : X.K = K.fr := by rfl) (kin : decide (j < K.n) = true := by rfl) :
    JE K X (.ListComp elt [⟨.Name z tp, .Name x p, ifs, 0⟩] scope pos) (tLc (iList K (tVar j)) (gName k) t te (own.map (·.2))) (fLcC j k ft fe (own.map (·.2))) := by
  obtain ⟨kf, kt, ko, kn, kx⟩ := K
  subst hk
  exact ⟨pe_lc hc hN (pi_list (pe_var hj hv hd hcd)) ok (fun s H C cl fp => (hg s H C cl fp).p) (fun s H C cl fp => (ht s H C cl fp).p) (fun s H C cl fp => (he s H C cl fp).p) hs,
    re_lcC (of_decide_eq_true kin) (of_decide_eq_true hkv) (allN hn) (allF hf) (ht s0 H0 0 [] []).r (he s0 H0 0 [] []).r⟩
end
section
variable {K : Kc} {X : Cx} {a y : Str} {caps : List (Str × Nat)} {scope : Scope} {k : Nat} {c P : Addr} {params : Arguments} {body : Expr} {lpos kp p pos py : Pos} {tb : TE} {fb : DS → Option (RV × DS)}
theorem j_sortKT (j : Nat) (caps : List (Str × Nat)) (hm : X.mg "sorted" = none) (TB : LamX.TabB X.base X.mg c P) (hr : Room (k + 3) X.A) (L : LamP X a caps scope)
    (hb : ∀ (s : Shared) (H : Hp) (f c' : Addr), Room k (lamC X (lamN a caps) s H scope f c').A → JE ⟨K.fr, K.tb, none, caps.length + 1, none⟩ (lamC X (lamN a caps) s H scope f c') body tb fb)
    (hmT : (P, X.env.qual ++ "<lambda>") ∈ K.tb) (hu : ∀ p ∈ K.tb, p.1 = P → p.2 = X.env.qual ++ "<lambda>") (hN : X.N[j]? = some y := by rfl) (hj : decide (j < K.n) = true := by rfl) (hv : Vis X.env.scope y := by first | exact Or.inl rfl | exact Or.inr (Or.inl rfl) | exact Or.inr (Or.inr rfl)) (hd : (y == ("__debug__" : Str)) = false := by decide) (hcd : (y == ("__classdict__" : Str)) = false := by decide) (hcap : (caps.all fun p => decide (p.2 < K.n)) = true := by rfl) (hk : X.K = K.fr := by rfl)
    (hcode : X.env.code = .ref c := by rfl) (hdef : defaultsOf params X.env = ([], []) := by rfl)
    (hbind : ∀ (q : Str) (cl : List (Str × Addr)) (pm cv ctv u : Value), bindArgs (PySem.W.kla_fn "<lambda>" q params body scope cl pm cv ctv) ⟨[u], []⟩ = pure [(a, u)] := by intros; rfl)
    (hg : Gl X "sorted" := by rfl) (he : starEach [.Name y py] X.env = (false, eval (.Name y py) X.env) :: starEach [] X.env := by rfl) (hbk : backTo pos (starEach [.Name y py] X.env) = (false, eval (.Name y py) X.env) :: backTo pos (starEach [] X.env) := by rfl) (hpl : (backTo pos (starEach [.Name y py] X.env)).any (·.1) = false := by rfl)
    (hall : (backToKw pos (keywordEach [⟨some "key", .Lambda params body scope lpos, kp⟩] X.env)).all (·.1.isSome) = true := by rfl) (hkw : (backToKw pos (keywordEach [⟨some "key", .Lambda params body scope lpos, kp⟩] X.env)).any (·.1.isNone) = false := by rfl)
    (hks : (backToKw pos (keywordEach [⟨some "key", .Lambda params body scope lpos, kp⟩] X.env)).filterMap (·.1) = [("key" : Str)] := by rfl) :
    JE K X (.Call (.Name "sorted" p) [.Name y py] [⟨some "key", .Lambda params body scope lpos, kp⟩] pos) (tSortK K.fr K.tb (X.env.qual ++ "<lambda>") caps tb (tVar j)) (fSortKT j (caps.map Prod.snd) fb) := by
  have hr0 : Room k (lamC X (lamN a caps) X.s_0 X.H_0 scope 0 0).A := hr.in1.in1.deeper _
  refine ⟨?_, re_sortKT (of_decide_eq_true hj) (fun p hp => of_decide_eq_true (List.all_eq_true.mp hcap p hp)) (hb X.s_0 X.H_0 0 0 hr0).r⟩
  rw [← hk]
  exact pe_sortK hm TB hr L (pe_var hN hv hd hcd) (fun s H f c' r => (hb s H f c' r).p) hmT hu hcode hdef hbind hg he hbk hpl hall hkw hks
end
end Fx
set_option Elab.async false
set_option linter.all false
set_option maxRecDepth 100000
/-! Ty: typed mirrors of what Fx computes: data by their types, slots by what is known of them. -/
namespace Ty
open PySem PySem.Spec L2 Fx
theorem bindSome {α β : Type} (a : α) (f : α → Option β) : (some a).bind f = f a := rfl

class Enc (α : Type) where
  en : α → D
abbrev enc {α : Type} [Enc α] (a : α) : D := Enc.en a
instance : Enc Int := ⟨.int⟩
instance : Enc Bool := ⟨.bool⟩
instance : Enc Unit := ⟨fun _ => .none⟩
instance : Enc Str := ⟨.str⟩
instance {α : Type} [Enc α] : Enc (List α) := ⟨fun l => .list (l.map enc)⟩
instance {α : Type} [Enc α] : Enc (Option α) := ⟨fun o => match o with | none => .none | some a => enc a⟩
structure T1 (α : Type) where (a : α)
structure T2 (α β : Type) where (a : α) (b : β)
structure T3 (α β γ : Type) where (a : α) (b : β) (c : γ)
structure T4 (α β γ δ : Type) where (a : α) (b : β) (c : γ) (d : δ)
structure T5 (α β γ δ ε : Type) where (a : α) (b : β) (c : γ) (d : δ) (e : ε)
/-- a list of two unlike things -/
structure H2 (α β : Type) where (a : α) (b : β)
instance {α : Type} [Enc α] : Enc (T1 α) := ⟨fun t => .tuple [enc t.a]⟩
instance {α β : Type} [Enc α] [Enc β] : Enc (T2 α β) := ⟨fun t => .tuple [enc t.a, enc t.b]⟩
instance {α β γ : Type} [Enc α] [Enc β] [Enc γ] : Enc (T3 α β γ) := ⟨fun t => .tuple [enc t.a, enc t.b, enc t.c]⟩
instance {α β γ δ : Type} [Enc α] [Enc β] [Enc γ] [Enc δ] : Enc (T4 α β γ δ) := ⟨fun t => .tuple [enc t.a, enc t.b, enc t.c, enc t.d]⟩
instance {α β γ δ ε : Type} [Enc α] [Enc β] [Enc γ] [Enc δ] [Enc ε] : Enc (T5 α β γ δ ε) := ⟨fun t => .tuple [enc t.a, enc t.b, enc t.c, enc t.d, enc t.e]⟩
instance {α β : Type} [Enc α] [Enc β] : Enc (H2 α β) := ⟨fun t => .list [enc t.a, enc t.b]⟩

/-! ### what is known of the slots -/
abbrev SP := Option OV → Prop
/-- a value that is read as d -/
def vw (d : D) : SP := fun x => ∃ o, x = some o ∧ o.view = d
def sh (d : D) : SP := fun x => x = some (.sh d)
/-- a list of one's own -/
def fl (l : List D) : SP := fun x => x = some (.flat l)
/-- not owned -/
def nf : SP := fun x => shB (some x) = true
def an : SP := fun _ => True
def Ss : List SP → DS → Prop
  | [], [] => True
  | p :: ps, x :: xs => p x ∧ Ss ps xs
  | _, _ => False
theorem Ss.get : ∀ {ps : List SP} {ds : DS} {i : Nat} {p : SP}, Ss ps ds → ps[i]? = some p → ∃ x, ds[i]? = some x ∧ p x
  | [], [], _, _, _, e => by simp at e
  | p :: ps, x :: xs, 0, _, h, e => by simp at e; subst e; exact ⟨x, by simp, h.1⟩
  | p :: ps, x :: xs, i + 1, _, h, e => by simpa using Ss.get (i := i) h.2 (by simpa using e)
  | [], _ :: _, _, _, h, _ => h.elim
  | _ :: _, [], _, _, h, _ => h.elim
theorem Ss.set : ∀ {ps : List SP} {ds : DS} (i : Nat) {p : SP} {x : Option OV}, Ss ps ds → p x → Ss (ps.set i p) (ds.set i x)
  | [], [], _, _, _, _, _ => True.intro
  | p :: ps, y :: xs, 0, _, _, h, e => ⟨e, h.2⟩
  | p :: ps, y :: xs, i + 1, _, _, h, e => ⟨h.1, Ss.set i h.2 e⟩
  | [], _ :: _, _, _, _, h, _ => h.elim
  | _ :: _, [], _, _, _, h, _ => h.elim
theorem Ss.put : ∀ {ps : List SP} {ds : DS} {i : Nat} {p : SP} {x : Option OV}, Ss ps ds → ps[i]? = some p → p x → Ss ps (ds.set i x)
  | [], [], _, _, _, _, _, _ => True.intro
  | p :: ps, y :: xs, 0, _, _, h, e, k => by simp at e; subst e; exact ⟨k, h.2⟩
  | p :: ps, y :: xs, i + 1, _, _, h, e, k => ⟨h.1, Ss.put h.2 (by simpa using e) k⟩
  | [], _ :: _, _, _, _, h, _, _ => h.elim
  | _ :: _, [], _, _, _, h, _, _ => h.elim
theorem Ss.len : ∀ {ps : List SP} {ds : DS}, Ss ps ds → ds.length = ps.length
  | [], [], _ => rfl
  | _ :: _, _ :: _, h => by simp [Ss.len h.2]
  | [], _ :: _, h => h.elim
  | _ :: _, [], h => h.elim
def Le : List SP → List SP → Prop
  | [], [] => True
  | p :: ps, q :: qs => (∀ x, p x → q x) ∧ Le ps qs
  | _, _ => False
theorem Le.ss : ∀ {ps qs : List SP} {ds : DS}, Le ps qs → Ss ps ds → Ss qs ds
  | [], [], [], _, _ => True.intro
  | _ :: _, _ :: _, _ :: _, l, h => ⟨l.1 _ h.1, Le.ss l.2 h.2⟩
  | [], _ :: _, _, l, _ => l.elim
  | _ :: _, [], _, l, _ => l.elim
  | [], [], _ :: _, _, h => h.elim
  | _ :: _, _ :: _, [], _, h => h.elim
theorem le_id {p : SP} : ∀ x, p x → p x := fun _ h => h
theorem le_an {p : SP} : ∀ x, p x → an x := fun _ _ => True.intro
theorem le_sv {d : D} : ∀ x, sh d x → vw d x := fun _ h => ⟨_, h, rfl⟩
theorem le_fv {l : List D} : ∀ x, fl l x → vw (.list l) x := fun _ h => ⟨_, h, rfl⟩
theorem le_sn {d : D} : ∀ x, sh d x → nf x := fun _ h => by subst h; rfl
theorem le_none : ∀ x : Option OV, x = none → nf x := fun _ h => by subst h; rfl
theorem le_n : Le [] [] := True.intro
theorem le_c {p q : SP} {ps qs : List SP} (h : ∀ x, p x → q x) (k : Le ps qs) : Le (p :: ps) (q :: qs) := ⟨h, k⟩
/-- the slots vs are not owned -/
def Nfs (ps : List SP) : List Nat → Prop
  | [] => True
  | i :: vs => (∃ p, ps[i]? = some p ∧ ∀ x, p x → nf x) ∧ Nfs ps vs
theorem nf_nf : ∀ x, nf x → nf x := fun _ h => h
theorem nfs_n {ps : List SP} : Nfs ps [] := True.intro
theorem nfs_c {p : SP} {ps : List SP} {i : Nat} {vs : List Nat} (h : ∀ x, p x → nf x) (k : Nfs ps vs) (e : ps[i]? = some p := by rfl) : Nfs ps (i :: vs) := ⟨⟨p, e, h⟩, k⟩

/-! ### what expressions give -/
/-- to be read as d -/
def kS (ps : List SP) (d : D) (r : RV) : Prop := (∃ o, r = .ov o ∧ o.view = d) ∨ ∃ i, r = .loc i ∧ (ps[i]? = some (vw d) ∨ ∃ l, ps[i]? = some (fl l) ∧ d = .list l)
/-- to be shared as d -/
def kV (ps : List SP) (d : D) (r : RV) : Prop := (∃ o, r = .ov o ∧ o.view = d) ∨ ∃ i, r = .loc i ∧ ps[i]? = some (vw d)
theorem kV.s {ps : List SP} {d : D} {r : RV} (h : kV ps d r) : kS ps d r := h.imp id fun ⟨i, a, b⟩ => ⟨i, a, .inl b⟩
theorem see_of {ps : List SP} {d : D} {r : RV} {ds : DS} (h : kS ps d r) (S : Ss ps ds) : see r ds = some d := by
  rcases h with ⟨o, rfl, rfl⟩ | ⟨i, rfl, h⟩
  · rfl
  · rcases h with h | ⟨l, h, rfl⟩
    · obtain ⟨x, e, o, rfl, rfl⟩ := S.get h
      simp only [see, e]
    · obtain ⟨x, e, k⟩ := S.get h
      have k : x = some (.flat l) := k
      subst k
      simp only [see, e, OV.view]
theorem frz_of {ps : List SP} {d : D} {r : RV} {ds : DS} (h : kV ps d r) (S : Ss ps ds) : ∃ ds', frz r ds = some (d, ds') ∧ Ss ps ds' := by
  rcases h with ⟨o, rfl, rfl⟩ | ⟨i, rfl, h⟩
  · exact ⟨ds, rfl, S⟩
  · obtain ⟨x, e, o, rfl, rfl⟩ := S.get h
    exact ⟨ds.set i (some (.sh o.view)), by simp only [frz, e], S.put h ⟨_, rfl, rfl⟩⟩
theorem items_of {ps : List SP} {l : List D} {r : RV} {ds : DS} (h : kS ps (.list l) r) (S : Ss ps ds) : ∃ ds', items r ds = some (l, ds') ∧ Ss ps ds' := by
  rcases h with ⟨o, rfl, ho⟩ | ⟨i, rfl, h⟩
  · exact ⟨ds, by simp only [items, ho], S⟩
  · rcases h with h | ⟨m, h, hm⟩
    · obtain ⟨x, e, o, rfl, ho⟩ := S.get h
      cases o with
      | flat m => cases ho; exact ⟨ds, by simp only [items, e], S⟩
      | sh d => exact ⟨ds.set i (some (.sh (.list l))), by simp only [items, e, ho], S.put h ⟨_, rfl, rfl⟩⟩
      | tree d => exact ⟨ds.set i (some (.sh (.list l))), by simp only [items, e, ho], S.put h ⟨_, rfl, rfl⟩⟩
    · cases hm
      obtain ⟨x, e, k⟩ := S.get h
      have k : x = some (.flat l) := k
      subst k
      exact ⟨ds, by simp only [items, e], S⟩
theorem items_ofT {ps : List SP} {l : List D} {r : RV} {ds : DS} (h : kS ps (.tuple l) r) (S : Ss ps ds) : ∃ ds', items r ds = some (l, ds') ∧ Ss ps ds' := by
  rcases h with ⟨o, rfl, ho⟩ | ⟨i, rfl, h⟩
  · exact ⟨ds, by simp only [items, ho], S⟩
  · rcases h with h | ⟨m, h, hm⟩
    · obtain ⟨x, e, o, rfl, ho⟩ := S.get h
      cases o with
      | flat m => cases ho
      | sh d => exact ⟨ds.set i (some (.sh (.tuple l))), by simp only [items, e, ho], S.put h ⟨_, rfl, rfl⟩⟩
      | tree d => exact ⟨ds.set i (some (.sh (.tuple l))), by simp only [items, e, ho], S.put h ⟨_, rfl, rfl⟩⟩
    · cases hm
inductive Kvs (k : D → RV → Prop) : List D → List RV → Prop
  | nil : Kvs k [] []
  | cons {d : D} {r : RV} {l : List D} {rs : List RV} : k d r → Kvs k l rs → Kvs k (d :: l) (r :: rs)
theorem sees_of {ps : List SP} {ds : DS} (S : Ss ps ds) : ∀ {l : List D} {rs : List RV}, Kvs (kS ps) l rs → sees rs ds = some l
  | _, _, .nil => rfl
  | _, _, .cons h t => by simp only [sees, see_of h S, sees_of S t, bindSome, Option.map_some]
theorem Kvs.s {ps : List SP} : ∀ {l : List D} {rs : List RV}, Kvs (kV ps) l rs → Kvs (kS ps) l rs
  | _, _, .nil => .nil
  | _, _, .cons h t => .cons h.s t.s
theorem frzs_of {ps : List SP} : ∀ {l : List D} {rs : List RV} {ds : DS}, Ss ps ds → Kvs (kV ps) l rs → ∃ ds', frzs rs ds = some (l, ds') ∧ Ss ps ds'
  | _, _, ds, S, .nil => ⟨ds, rfl, S⟩
  | _, _, ds, S, .cons h t => by
    obtain ⟨d1, e1, S1⟩ := frz_of h S
    obtain ⟨d2, e2, S2⟩ := frzs_of S1 t
    exact ⟨d2, by simp only [frzs, e1, e2, bindSome, Option.map_some], S2⟩

section
variable {α β γ τ σ : Type} [Enc α] [Enc β] [Enc γ] [Enc τ] [Enc σ]
def ExV (ps : List SP) (f : DS → Option (RV × DS)) (m : Option τ) : Prop := ∀ v, m = some v → ∀ ds, Ss ps ds → ∃ r ds', f ds = some (r, ds') ∧ Ss ps ds' ∧ kV ps (enc v) r
def ExS (ps : List SP) (f : DS → Option (RV × DS)) (m : Option τ) : Prop := ∀ v, m = some v → ∀ ds, Ss ps ds → ∃ r ds', f ds = some (r, ds') ∧ Ss ps ds' ∧ kS ps (enc v) r
def ExF (ps : List SP) (f : DS → Option (RV × DS)) (m : Option (List τ)) : Prop := ∀ v, m = some v → ∀ ds, Ss ps ds → ∃ ds', f ds = some (.ov (.flat (v.map enc)), ds') ∧ Ss ps ds'
/-- a scalar -/
def ExC (ps : List SP) (f : DS → Option (RV × DS)) (m : Option τ) : Prop := ∀ v, m = some v → ∀ ds, Ss ps ds → ∃ ds', f ds = some (.ov (.sh (enc v)), ds') ∧ Ss ps ds'
def Te (ps : List SP) (f : DS → Option (Bool × DS)) (m : Option Bool) : Prop := ∀ v, m = some v → ∀ ds, Ss ps ds → ∃ ds', f ds = some (v, ds') ∧ Ss ps ds'
def ArV (ps : List SP) (f : DS → Option (List RV × DS)) (m : Option (List D)) : Prop := ∀ l, m = some l → ∀ ds, Ss ps ds → ∃ rs ds', f ds = some (rs, ds') ∧ Ss ps ds' ∧ Kvs (kV ps) l rs
def ArS (ps : List SP) (f : DS → Option (List RV × DS)) (m : Option (List D)) : Prop := ∀ l, m = some l → ∀ ds, Ss ps ds → ∃ rs ds', f ds = some (rs, ds') ∧ Ss ps ds' ∧ Kvs (kS ps) l rs
def It (ps : List SP) (f : DS → Option (List D × DS)) (m : Option (List τ)) : Prop := ∀ l, m = some l → ∀ ds, Ss ps ds → ∃ ds', f ds = some (l.map enc, ds') ∧ Ss ps ds'
variable {ps : List SP} {f fa fb fc : DS → Option (RV × DS)} {ft fu : DS → Option (Bool × DS)} {fr fs : DS → Option (List RV × DS)}
theorem ExV.s {m : Option τ} (h : ExV ps f m) : ExS ps f m := fun v e ds S => let ⟨r, d, a, b, c⟩ := h v e ds S; ⟨r, d, a, b, c.s⟩
theorem ExF.v {m : Option (List τ)} (h : ExF ps f m) : ExV ps f m := fun v e ds S => let ⟨d, a, b⟩ := h v e ds S; ⟨_, d, a, b, .inl ⟨_, rfl, rfl⟩⟩
theorem ExF.s {m : Option (List τ)} (h : ExF ps f m) : ExS ps f m := h.v.s
theorem ExC.v {m : Option τ} (h : ExC ps f m) : ExV ps f m := fun v e ds S => let ⟨d, a, b⟩ := h v e ds S; ⟨_, d, a, b, .inl ⟨_, rfl, rfl⟩⟩
theorem ExC.s {m : Option τ} (h : ExC ps f m) : ExS ps f m := h.v.s
/-! names, constants -/
theorem v_var (i : Nat) {v : τ} (h : ps[i]? = some (vw (enc v)) := by rfl) : ExV ps (fVar i) (some v) := by
  intro v' e ds S
  cases e
  obtain ⟨x, e, o, rfl, ho⟩ := S.get h
  cases o with
  | sh d => exact ⟨_, ds, by simp only [fVar, e], S, .inl ⟨_, rfl, ho⟩⟩
  | flat l => exact ⟨_, ds, by simp only [fVar, e], S, .inr ⟨i, rfl, h⟩⟩
  | tree d => exact ⟨_, ds, by simp only [fVar, e], S, .inr ⟨i, rfl, h⟩⟩
theorem v_sh (i : Nat) {v : τ} (h : ps[i]? = some (sh (enc v)) := by rfl) : ExC ps (fVar i) (some v) := by
  intro v' e ds S
  cases e
  obtain ⟨x, e, ho⟩ := S.get h
  have ho : x = some (.sh (enc v)) := ho
  subst ho
  exact ⟨ds, by simp only [fVar, e], S⟩
theorem v_fl (i : Nat) {v : List τ} (h : ps[i]? = some (fl (v.map enc)) := by rfl) : ExS ps (fVar i) (some v) := by
  intro v' e ds S
  cases e
  obtain ⟨x, e, ho⟩ := S.get h
  have ho : x = some (.flat (v.map enc)) := ho
  subst ho
  exact ⟨_, ds, by simp only [fVar, e], S, .inr ⟨i, rfl, .inr ⟨_, h, rfl⟩⟩⟩
theorem v_c {v : τ} {d : D} (h : enc v = d := by rfl) : ExC ps (fC d) (some v) := by
  intro v' e ds S
  cases e
  exact ⟨ds, by rw [h]; rfl, S⟩
/-! operators -/
theorem v_op {g : D → D → Option D} (mo : α → β → Option τ) {ma : Option α} {mb : Option β} (hg : ∀ a b v, mo a b = some v → g (enc a) (enc b) = some (enc v)) (ha : ExS ps fa ma) (hb : ExS ps fb mb) : ExC ps (fOp g fa fb) (ma.bind fun a => mb.bind fun b => mo a b) := by
  intro v e ds S
  simp only [Option.bind_eq_some_iff] at e
  obtain ⟨a, e1, b, e2, e3⟩ := e
  obtain ⟨r1, d1, k1, S1, q1⟩ := ha a e1 ds S
  obtain ⟨r2, d2, k2, S2, q2⟩ := hb b e2 d1 S1
  exact ⟨d2, by simp only [fOp, k1, k2, bindSome, see_of q1 S2, see_of q2 S2, hg a b v e3, Option.map_some], S2⟩
theorem v_un {g : D → Option D} (mo : α → Option τ) {ma : Option α} (hg : ∀ a v, mo a = some v → g (enc a) = some (enc v)) (ha : ExS ps fa ma) : ExC ps (fUn g fa) (ma.bind mo) := by
  intro v e ds S
  simp only [Option.bind_eq_some_iff] at e
  obtain ⟨a, e1, e3⟩ := e
  obtain ⟨r1, d1, k1, S1, q1⟩ := ha a e1 ds S
  exact ⟨d1, by simp only [fUn, k1, bindSome, see_of q1 S1, hg a v e3, Option.map_some], S1⟩
def subN (a b : Int) : Option Int := some (a - b)
noncomputable def fdivN (a b : Int) : Option Int := if cFd a b = true then some (a.fdiv b) else none
def fdivZ (a b : Int) : Option Int := if cNz a b = true then some (a.fdiv b) else none
def modN (a b : Int) : Option Int := if cNz a b = true then some (a.fmod b) else none
noncomputable def powN (a b : Int) : Option Int := if cPow a b = true then some (a ^ b.toNat) else none
noncomputable def mulN (a b : Int) : Option Int := if mulOk a b = true then some (a * b) else none
theorem gI_ok {c : Int → Int → Bool} {f : Int → Int → Int} {a b v : Int} (h : (if c a b = true then some (f a b) else none) = some v) : gI c (fun i j => .int (f i j)) (enc a) (enc b) = some (enc v) := by
  split at h
  · rename_i hc
    cases h
    simp only [gI, enc, Enc.en, hc, if_true]
  · cases h
theorem v_sub {ma mb : Option Int} (ha : ExS ps fa ma) (hb : ExS ps fb mb) : ExC ps (fOp (gI cT fun i j => .int (i - j)) fa fb) (ma.bind fun a => mb.bind fun b => subN a b) := v_op subN (fun a b v h => by cases h; rfl) ha hb
theorem v_fdiv {ma mb : Option Int} (ha : ExS ps fa ma) (hb : ExS ps fb mb) : ExC ps (fOp (gI cFd fun i j => .int (i.fdiv j)) fa fb) (ma.bind fun a => mb.bind fun b => fdivN a b) := v_op fdivN (fun a b v h => gI_ok h) ha hb
theorem v_fdivZ {ma mb : Option Int} (ha : ExS ps fa ma) (hb : ExS ps fb mb) : ExC ps (fOp (gI cNz fun i j => .int (i.fdiv j)) fa fb) (ma.bind fun a => mb.bind fun b => fdivZ a b) := v_op fdivZ (fun a b v h => gI_ok h) ha hb
theorem v_mod {ma mb : Option Int} (ha : ExS ps fa ma) (hb : ExS ps fb mb) : ExC ps (fOp (gI cNz fun i j => .int (i.fmod j)) fa fb) (ma.bind fun a => mb.bind fun b => modN a b) := v_op modN (fun a b v h => gI_ok h) ha hb
theorem v_pow {ma mb : Option Int} (ha : ExS ps fa ma) (hb : ExS ps fb mb) : ExC ps (fOp (gI cPow fun i j => .int (i ^ j.toNat)) fa fb) (ma.bind fun a => mb.bind fun b => powN a b) := v_op powN (fun a b v h => gI_ok h) ha hb
def bandN (a b : Int) : Option Int := some (Builtin.bitAnd a b)
def borN (a b : Int) : Option Int := some (Builtin.bitOr a b)
theorem v_band {ma mb : Option Int} (ha : ExS ps fa ma) (hb : ExS ps fb mb) : ExC ps (fOp (gI cT fun i j => .int (Builtin.bitAnd i j)) fa fb) (ma.bind fun a => mb.bind fun b => bandN a b) := v_op bandN (fun a b v h => by cases h; rfl) ha hb
theorem v_bor {ma mb : Option Int} (ha : ExS ps fa ma) (hb : ExS ps fb mb) : ExC ps (fOp (gI cT fun i j => .int (Builtin.bitOr i j)) fa fb) (ma.bind fun a => mb.bind fun b => borN a b) := v_op borN (fun a b v h => by cases h; rfl) ha hb
theorem v_cmp {p : Int → Int → Bool} {ma mb : Option Int} (ha : ExS ps fa ma) (hb : ExS ps fb mb) : ExC ps (fOp (gCmp p) fa fb) (ma.bind fun a => mb.bind fun b => some (p a b)) := v_op (fun a b => some (p a b)) (fun a b v h => by cases h; rfl) ha hb
theorem v_neg {ma : Option Int} (ha : ExS ps fa ma) : ExC ps (fUn gNeg fa) (ma.bind fun a => some (-a)) := v_un (fun a => some (-a)) (fun a v h => by cases h; rfl) ha
theorem v_bits {ma : Option Int} (ha : ExS ps fa ma) : ExC ps (fUn gBits fa) (ma.bind fun a => some ((Builtin.Int.intBits a : Nat) : Int)) := v_un (fun a => some ((Builtin.Int.intBits a : Nat) : Int)) (fun a v h => by cases h; rfl) ha
/-- == of data: by their encodings -/
def eqN (a : α) (b : β) : Option Bool := if SeqAt.shaped (enc a) && SeqAt.shaped (enc b) then some (PyData.eqv (enc a) (enc b)) else none
def neN (a : α) (b : β) : Option Bool := if SeqAt.shaped (enc a) && SeqAt.shaped (enc b) then some (!PyData.eqv (enc a) (enc b)) else none
/-- no text itself -/
class NoStr (α : Type) [Enc α] : Prop where
  no : ∀ (a : α) (x : Str), enc a ≠ .str x
instance : NoStr Int := ⟨fun _ _ h => nomatch h⟩
instance : NoStr Bool := ⟨fun _ _ h => nomatch h⟩
instance : NoStr Unit := ⟨fun _ _ h => nomatch h⟩
instance : NoStr (List α) := ⟨fun _ _ h => nomatch h⟩
instance [NoStr α] : NoStr (Option α) := ⟨fun o x h => by cases o with
  | none => cases h
  | some a => exact NoStr.no a x h⟩
instance : NoStr (T1 α) := ⟨fun _ _ h => nomatch h⟩
instance : NoStr (T2 α β) := ⟨fun _ _ h => nomatch h⟩
instance : NoStr (T3 α β γ) := ⟨fun _ _ h => nomatch h⟩
instance : NoStr (H2 α β) := ⟨fun _ _ h => nomatch h⟩
instance : NoStr (T4 α β γ τ) := ⟨fun _ _ h => nomatch h⟩
instance : NoStr (T5 α β γ τ σ) := ⟨fun _ _ h => nomatch h⟩
theorem gEqX_no {d e : D} (h : ∀ x, d ≠ .str x) : gEqX d e = gEq d e := by
  unfold gEqX
  split
  · exact absurd rfl (h _)
  · rfl
theorem gNeX_no {d e : D} (h : ∀ x, d ≠ .str x) : gNeX d e = gNe d e := by
  unfold gNeX
  split
  · exact absurd rfl (h _)
  · rfl
theorem v_eq [NoStr α] {ma : Option α} {mb : Option β} (ha : ExS ps fa ma) (hb : ExS ps fb mb) : ExC ps (fOp gEqX fa fb) (ma.bind fun a => mb.bind fun b => eqN a b) := v_op eqN (fun a b v h => by
  rw [gEqX_no (NoStr.no a)]
  unfold eqN at h
  unfold gEq
  split at h
  · rename_i hc; cases h; rw [if_pos hc]; rfl
  · cases h) ha hb
theorem v_ne [NoStr α] {ma : Option α} {mb : Option β} (ha : ExS ps fa ma) (hb : ExS ps fb mb) : ExC ps (fOp gNeX fa fb) (ma.bind fun a => mb.bind fun b => neN a b) := v_op neN (fun a b v h => by
  rw [gNeX_no (NoStr.no a)]
  unfold neN at h
  unfold gNe
  split at h
  · rename_i hc; cases h; rw [if_pos hc]; rfl
  · cases h) ha hb
theorem v_eqS {ma mb : Option Str} (ha : ExS ps fa ma) (hb : ExS ps fb mb) : ExC ps (fOp gEqX fa fb) (ma.bind fun a => mb.bind fun b => some (decide (a = b))) := v_op (fun a b => some (decide (a = b))) (fun a b v h => by cases h; rfl) ha hb
theorem v_neS {ma mb : Option Str} (ha : ExS ps fa ma) (hb : ExS ps fb mb) : ExC ps (fOp gNeX fa fb) (ma.bind fun a => mb.bind fun b => some (!decide (a = b))) := v_op (fun a b => some (!decide (a = b))) (fun a b v h => by cases h; rfl) ha hb
/-- never None -/
class NoNone (α : Type) [Enc α] : Prop where
  no : ∀ a : α, isNd (enc a) = false
instance : NoNone Int := ⟨fun _ => rfl⟩
instance : NoNone Bool := ⟨fun _ => rfl⟩
instance : NoNone Str := ⟨fun _ => rfl⟩
instance : NoNone (List α) := ⟨fun _ => rfl⟩
instance : NoNone (T1 α) := ⟨fun _ => rfl⟩
instance : NoNone (T2 α β) := ⟨fun _ => rfl⟩
instance : NoNone (T3 α β γ) := ⟨fun _ => rfl⟩
instance : NoNone (T4 α β γ τ) := ⟨fun _ => rfl⟩
instance : NoNone (T5 α β γ τ σ) := ⟨fun _ => rfl⟩
instance : NoNone (H2 α β) := ⟨fun _ => rfl⟩
theorem v_isN [NoNone α] {ma : Option (Option α)} (ha : ExS ps fa ma) : ExC ps (fOp gIsN2 fa (fC .none)) (ma.bind fun a => some a.isNone) := by
  have h := v_op (mb := some ()) (g := gIsN2) (fun (a : Option α) (_ : Unit) => some a.isNone) (fun a b v h => by
    cases h
    cases a with
    | none => rfl
    | some a =>
      show some (PyData.bool (isNd (enc a))) = _
      rw [NoNone.no a]; rfl) ha (v_c (v := ()) (d := .none)).s
  exact h
theorem v_notN [NoNone α] {ma : Option (Option α)} (ha : ExS ps fa ma) : ExC ps (fOp gNotN2 fa (fC .none)) (ma.bind fun a => some a.isSome) := by
  have h := v_op (mb := some ()) (g := gNotN2) (fun (a : Option α) (_ : Unit) => some a.isSome) (fun a b v h => by
    cases h
    cases a with
    | none => rfl
    | some a =>
      show some (PyData.bool (!isNd (enc a))) = _
      rw [NoNone.no a]; rfl) ha (v_c (v := ()) (d := .none)).s
  exact h
def inN (a : α) (l : List β) : Option Bool := if SeqAt.shaped (enc a) && SeqAt.shaped (enc l) then some (l.any fun z => PyData.eqv (enc z) (enc a)) else none
def notInN (a : α) (l : List β) : Option Bool := if SeqAt.shaped (enc a) && SeqAt.shaped (enc l) then some (!l.any fun z => PyData.eqv (enc z) (enc a)) else none
theorem v_in {ma : Option α} {mb : Option (List β)} (ha : ExS ps fa ma) (hb : ExS ps fb mb) : ExC ps (fOp gIn fa fb) (ma.bind fun a => mb.bind fun b => inN a b) := v_op inN (fun a b v h => by
  unfold inN at h
  unfold gIn
  split at h
  · rename_i hc
    cases h
    have hc' : (SeqAt.shaped (enc a) && SeqAt.shaped (PyData.list (List.map enc b))) = true := hc
    show (if (SeqAt.shaped (enc a) && SeqAt.shaped (PyData.list (List.map enc b))) = true then _ else _) = _
    rw [if_pos hc', List.any_map]; rfl
  · cases h) ha hb
theorem v_notIn {ma : Option α} {mb : Option (List β)} (ha : ExS ps fa ma) (hb : ExS ps fb mb) : ExC ps (fOp gNotIn fa fb) (ma.bind fun a => mb.bind fun b => notInN a b) := v_op notInN (fun a b v h => by
  unfold notInN at h
  unfold gNotIn
  split at h
  · rename_i hc
    cases h
    have hc' : (SeqAt.shaped (enc a) && SeqAt.shaped (PyData.list (List.map enc b))) = true := hc
    show (if (SeqAt.shaped (enc a) && SeqAt.shaped (PyData.list (List.map enc b))) = true then _ else _) = _
    rw [if_pos hc', List.any_map]; rfl
  · cases h) ha hb
/-! +, * -/
theorem v_add {ma mb : Option Int} (ha : ExS ps fa ma) (hb : ExS ps fb mb) : ExC ps (fAdd fa fb) (ma.bind fun a => mb.bind fun b => some (a + b)) := by
  intro v e ds S
  simp only [Option.bind_eq_some_iff] at e
  obtain ⟨a, e1, b, e2, e3⟩ := e
  cases e3
  obtain ⟨r1, d1, k1, S1, q1⟩ := ha a e1 ds S
  obtain ⟨r2, d2, k2, S2, q2⟩ := hb b e2 d1 S1
  have s1 := see_of q1 S2
  have s2 := see_of q2 S2
  simp only [enc, Enc.en] at s1 s2
  exact ⟨d2, by simp only [fAdd, k1, k2, bindSome, s1, s2]; rfl, S2⟩
def catN (a b : List α) : Option (List α) := if a.length + b.length ≤ 1000000 then some (a ++ b) else none
theorem v_cat {ma mb : Option (List α)} (ha : ExS ps fa ma) (hb : ExS ps fb mb) : ExF ps (fAdd fa fb) (ma.bind fun a => mb.bind fun b => catN a b) := by
  intro v e ds S
  simp only [Option.bind_eq_some_iff] at e
  obtain ⟨a, e1, b, e2, e3⟩ := e
  unfold catN at e3
  split at e3
  · rename_i hl
    cases e3
    obtain ⟨r1, d1, k1, S1, q1⟩ := ha a e1 ds S
    obtain ⟨r2, d2, k2, S2, q2⟩ := hb b e2 d1 S1
    have s1 := see_of q1 S2
    have s2 := see_of q2 S2
    simp only [enc, Enc.en] at s1 s2 q1 q2
    obtain ⟨d3, i1, S3⟩ := items_of q1 S2
    obtain ⟨d4, i2, S4⟩ := items_of q2 S3
    have nT1 : isT r1 d2 = false := by unfold isT; rw [s1]
    have nT2 : isT r2 d2 = false := by unfold isT; rw [s2]
    refine ⟨d4, ?_, S4⟩
    have hn : ¬ 1000000 < a.length + b.length := by omega
    simp only [fAdd, k1, k2, bindSome, s1, s2, fCat, i1, i2, nT1, nT2, List.length_map, decide_eq_false hn, Bool.or_self, Bool.false_eq_true, if_false, List.map_append]
  · cases e3
theorem v_mul {ma mb : Option Int} (ha : ExS ps fa ma) (hb : ExS ps fb mb) : ExC ps (fMul fa fb) (ma.bind fun a => mb.bind fun b => mulN a b) := by
  intro v e ds S
  simp only [Option.bind_eq_some_iff] at e
  obtain ⟨a, e1, b, e2, e3⟩ := e
  unfold mulN at e3
  split at e3
  · rename_i hm
    cases e3
    obtain ⟨r1, d1, k1, S1, q1⟩ := ha a e1 ds S
    obtain ⟨r2, d2, k2, S2, q2⟩ := hb b e2 d1 S1
    have s1 := see_of q1 S2
    have s2 := see_of q2 S2
    simp only [enc, Enc.en] at s1 s2
    refine ⟨d2, ?_, S2⟩
    simp only [fMul, k1, k2, bindSome, s2]
    cases r1 with
    | loc i => simp only [s1, hm, if_true]; rfl
    | ov o =>
      cases o with
      | flat l => cases s1
      | sh d => simp only [s1, hm, if_true]; rfl
      | tree d => simp only [s1, hm, if_true]; rfl
  · cases e3
noncomputable def repN (l : List α) (j : Int) : Option (List α) := if repOk (l.map enc) j = true then some (List.replicate j.toNat l).flatten else none
theorem v_rep {ma : Option (List α)} {mb : Option Int} (ha : ExF ps fa ma) (hb : ExS ps fb mb) : ExF ps (fMul fa fb) (ma.bind fun a => mb.bind fun b => repN a b) := by
  intro v e ds S
  simp only [Option.bind_eq_some_iff] at e
  obtain ⟨a, e1, b, e2, e3⟩ := e
  unfold repN at e3
  split at e3
  · rename_i hm
    cases e3
    obtain ⟨d1, k1, S1⟩ := ha a e1 ds S
    obtain ⟨r2, d2, k2, S2, q2⟩ := hb b e2 d1 S1
    have s2 := see_of q2 S2
    simp only [enc, Enc.en] at s2
    refine ⟨d2, ?_, S2⟩
    simp only [fMul, k1, k2, bindSome, s2, hm, if_true, repD]
    simp [List.map_flatten]
  · cases e3
/-! items, slices -/
theorem atI_map {g : α → D} (l : List α) (k : Int) : atI (l.map g) k = (atI l k).map g := by
  unfold atI
  rw [List.length_map]
  cases h : ixN l.length k with
  | none => simp
  | some j => simp
theorem v_ix {ma : Option (List α)} {mb : Option Int} (ha : ExS ps fa ma) (hb : ExS ps fb mb) : ExC ps (fIx fa fb) (ma.bind fun a => mb.bind fun b => atI a b) := by
  intro v e ds S
  simp only [Option.bind_eq_some_iff] at e
  obtain ⟨a, e1, b, e2, e3⟩ := e
  obtain ⟨r1, d1, k1, S1, q1⟩ := ha a e1 ds S
  obtain ⟨r2, d2, k2, S2, q2⟩ := hb b e2 d1 S1
  have s1 := see_of q1 S2
  have s2 := see_of q2 S2
  simp only [enc, Enc.en] at s1 s2 q1
  have ea := atI_map (g := Enc.en) a b
  rw [e3] at ea
  obtain ⟨d3, i1, S3⟩ := items_of q1 S2
  simp only [Option.map_some] at ea
  by_cases hs : isSc (enc v) = true
  · exact ⟨d2, by simp only [fIx, k1, k2, bindSome, s1, s2, ea]; rw [if_pos hs], S2⟩
  · exact ⟨d3, by simp only [fIx, k1, k2, bindSome, s1, s2, ea]; rw [if_neg hs, i1]; rfl, S3⟩
theorem see_c {d : D} {ds : DS} : see (.ov (.sh d)) ds = some d := rfl
/-- a part of a tuple, by a written place -/
theorem v_proj {k : Int} (pr : α → β) (hp : ∀ a : α, ∃ l, enc a = .tuple l ∧ atI l k = some (enc (pr a))) {ma : Option α} (ha : ExS ps fa ma) : ExC ps (fIx fa (fC (.int k))) (ma.bind fun a => some (pr a)) := by
  intro v e ds S
  simp only [Option.bind_eq_some_iff] at e
  obtain ⟨a, e1, e3⟩ := e
  cases e3
  obtain ⟨r1, d1, k1, S1, q1⟩ := ha a e1 ds S
  obtain ⟨l, hl, hk⟩ := hp a
  rw [hl] at q1
  have s1 := see_of q1 S1
  obtain ⟨d3, i1, S3⟩ := items_ofT q1 S1
  by_cases hs : isSc (enc (pr a)) = true
  · exact ⟨d1, by simp only [fIx, k1, fC, bindSome, see_c, s1, hk]; rw [if_pos hs], S1⟩
  · exact ⟨d3, by simp only [fIx, k1, fC, bindSome, see_c, s1, hk]; rw [if_neg hs, i1]; rfl, S3⟩
def PoS (ps : List SP) (f : DS → Option (Option Int × DS)) (m : Option (Option Int)) : Prop := ∀ v, m = some v → ∀ ds, Ss ps ds → ∃ ds', f ds = some (v, ds') ∧ Ss ps ds'
theorem po_no : PoS ps fNoPart (some none) := by
  intro v e ds S
  cases e
  exact ⟨ds, rfl, S⟩
theorem po_so {ma : Option Int} (ha : ExS ps fa ma) : PoS ps (fPart fa) (ma.bind fun a => some (some a)) := by
  intro v e ds S
  simp only [Option.bind_eq_some_iff] at e
  obtain ⟨a, e1, e3⟩ := e
  cases e3
  obtain ⟨r1, d1, k1, S1, q1⟩ := ha a e1 ds S
  have s1 := see_of q1 S1
  simp only [enc, Enc.en] at s1
  exact ⟨d1, by simp only [fPart, k1, bindSome, s1], S1⟩
def cutN (l : List α) (lo hi : Option Int) : List α := (l.drop (HT.sIx l.length 0 lo)).take (HT.sIx l.length l.length hi - HT.sIx l.length 0 lo)
theorem cut_map {g : α → D} (l : List α) (lo hi : Option Int) : cutD (l.map g) lo hi = (cutN l lo hi).map g := by
  unfold cutD cutN
  rw [List.length_map, List.map_take, List.map_drop]
theorem v_sl {fl fh : DS → Option (Option Int × DS)} {ma : Option (List α)} {ml mh : Option (Option Int)} (ha : ExS ps fa ma) (hl : PoS ps fl ml) (hh : PoS ps fh mh) : ExF ps (fSl fa fl fh) (ma.bind fun a => ml.bind fun lo => mh.bind fun hi => some (cutN a lo hi)) := by
  intro v e ds S
  simp only [Option.bind_eq_some_iff] at e
  obtain ⟨a, e1, lo, e2, hi, e3, e4⟩ := e
  cases e4
  obtain ⟨r1, d1, k1, S1, q1⟩ := ha a e1 ds S
  obtain ⟨d2, k2, S2⟩ := hl lo e2 d1 S1
  obtain ⟨d3, k3, S3⟩ := hh hi e3 d2 S2
  have s1 := see_of q1 S3
  simp only [enc, Enc.en] at s1 q1
  obtain ⟨d4, i1, S4⟩ := items_of q1 S3
  have nT : isT r1 d3 = false := by unfold isT; rw [s1]
  exact ⟨d4, by simp only [fSl, k1, k2, k3, bindSome, i1, nT, cut_map, Bool.false_eq_true, if_false], S4⟩
/-! arguments, displays -/
theorem a_n : ArV ps fNil (some []) := by
  intro l e ds S
  cases e
  exact ⟨[], ds, rfl, S, .nil⟩
theorem a_nS : ArS ps fNil (some []) := by
  intro l e ds S
  cases e
  exact ⟨[], ds, rfl, S, .nil⟩
theorem a_c {ma : Option α} {mr : Option (List D)} (ha : ExV ps fa ma) (hr : ArV ps fr mr) : ArV ps (fCons fa fr) (ma.bind fun a => mr.bind fun l => some (enc a :: l)) := by
  intro l e ds S
  simp only [Option.bind_eq_some_iff] at e
  obtain ⟨a, e1, l', e2, e3⟩ := e
  cases e3
  obtain ⟨r1, d1, k1, S1, q1⟩ := ha a e1 ds S
  obtain ⟨rs, d2, k2, S2, q2⟩ := hr l' e2 d1 S1
  exact ⟨r1 :: rs, d2, by simp only [fCons, k1, k2, bindSome, Option.map_some], S2, .cons q1 q2⟩
theorem a_cS {ma : Option α} {mr : Option (List D)} (ha : ExS ps fa ma) (hr : ArS ps fr mr) : ArS ps (fCons fa fr) (ma.bind fun a => mr.bind fun l => some (enc a :: l)) := by
  intro l e ds S
  simp only [Option.bind_eq_some_iff] at e
  obtain ⟨a, e1, l', e2, e3⟩ := e
  cases e3
  obtain ⟨r1, d1, k1, S1, q1⟩ := ha a e1 ds S
  obtain ⟨rs, d2, k2, S2, q2⟩ := hr l' e2 d1 S1
  exact ⟨r1 :: rs, d2, by simp only [fCons, k1, k2, bindSome, Option.map_some], S2, .cons q1 q2⟩
/-- items of one type -/
def As (ps : List SP) (f : DS → Option (List RV × DS)) (n : Nat) (m : Option (List α)) : Prop := ArV ps f (m.map fun l => l.map enc) ∧ ∀ l, m = some l → l.length = n
theorem as_n : As ps fNil 0 (some ([] : List α)) := ⟨a_n, fun l e => by cases e; rfl⟩
theorem as_c {n : Nat} {ma : Option α} {mr : Option (List α)} (ha : ExV ps fa ma) (hr : As ps fr n mr) : As ps (fCons fa fr) (n + 1) (ma.bind fun a => mr.bind fun l => some (a :: l)) := ⟨by
  have h := a_c ha hr.1
  intro l e ds S
  refine h l ?_ ds S
  rw [← e]
  cases ma <;> cases mr <;> rfl, fun l e => by
  simp only [Option.bind_eq_some_iff] at e
  obtain ⟨a, e1, l', e2, e3⟩ := e
  cases e3
  rw [List.length_cons, hr.2 l' e2]⟩
theorem v_lst {n : Nat} {m : Option (List α)} (h : As ps fr n m) (hn : n ≤ 1000 := by decide) : ExF ps (fLst fr) m := by
  intro v e ds S
  obtain ⟨rs, d1, k1, S1, q1⟩ := h.1 (v.map enc) (by rw [e]; rfl) ds S
  obtain ⟨d2, k2, S2⟩ := frzs_of S1 q1
  have hl := h.2 v e
  exact ⟨d2, by simp only [fLst, k1, k2, bindSome, List.length_map]; rw [if_pos (by omega)], S2⟩
theorem v_tupD {mk : τ → List D} (hk : ∀ t, enc t = .tuple (mk t)) (hn : ∀ t, (mk t).length ≤ 1000) {m : Option τ} (h : ArV ps fr (m.map mk)) : ExC ps (fTup fr) m := by
  intro v e ds S
  obtain ⟨rs, d1, k1, S1, q1⟩ := h (mk v) (by rw [e]; rfl) ds S
  obtain ⟨d2, k2, S2⟩ := frzs_of S1 q1
  exact ⟨d2, by simp only [fTup, k1, k2, bindSome]; rw [if_pos (hn v), hk v], S2⟩
theorem v_tup1 {ma : Option α} (ha : ExV ps fa ma) : ExC ps (fTup (fCons fa fNil)) (ma.bind fun a => some (T1.mk a)) :=
  v_tupD (mk := fun t : T1 α => [enc t.a]) (fun _ => rfl) (fun _ => by simp) (by
    have h := a_c ha a_n
    intro l e ds S
    exact h l (by rw [← e]; cases ma <;> rfl) ds S)
theorem v_tup2 {ma : Option α} {mb : Option β} (ha : ExV ps fa ma) (hb : ExV ps fb mb) : ExC ps (fTup (fCons fa (fCons fb fNil))) (ma.bind fun a => mb.bind fun b => some (T2.mk a b)) :=
  v_tupD (mk := fun t : T2 α β => [enc t.a, enc t.b]) (fun _ => rfl) (fun _ => by simp) (by
    have h := a_c ha (a_c hb a_n)
    intro l e ds S
    exact h l (by rw [← e]; cases ma <;> cases mb <;> rfl) ds S)
theorem v_tup3 {ma : Option α} {mb : Option β} {mc : Option γ} (ha : ExV ps fa ma) (hb : ExV ps fb mb) (hc : ExV ps fc mc) : ExC ps (fTup (fCons fa (fCons fb (fCons fc fNil)))) (ma.bind fun a => mb.bind fun b => mc.bind fun c => some (T3.mk a b c)) :=
  v_tupD (mk := fun t : T3 α β γ => [enc t.a, enc t.b, enc t.c]) (fun _ => rfl) (fun _ => by simp) (by
    have h := a_c ha (a_c hb (a_c hc a_n))
    intro l e ds S
    exact h l (by rw [← e]; cases ma <;> cases mb <;> cases mc <;> rfl) ds S)
theorem v_tup5 {fd fe : DS → Option (RV × DS)} {ma : Option α} {mb : Option β} {mc : Option γ} {md : Option τ} {me : Option σ} (ha : ExV ps fa ma) (hb : ExV ps fb mb) (hc : ExV ps fc mc) (hd : ExV ps fd md) (he : ExV ps fe me) : ExC ps (fTup (fCons fa (fCons fb (fCons fc (fCons fd (fCons fe fNil)))))) (ma.bind fun a => mb.bind fun b => mc.bind fun c => md.bind fun d => me.bind fun e => some (T5.mk a b c d e)) :=
  v_tupD (mk := fun t : T5 α β γ τ σ => [enc t.a, enc t.b, enc t.c, enc t.d, enc t.e]) (fun _ => rfl) (fun _ => by simp) (by
    have h := a_c ha (a_c hb (a_c hc (a_c hd (a_c he a_n))))
    intro l e ds S
    exact h l (by rw [← e]; cases ma <;> cases mb <;> cases mc <;> cases md <;> cases me <;> rfl) ds S)
/-- [a, b] of unlike things -/
theorem v_h2 {ma : Option α} {mb : Option β} (ha : ExV ps fa ma) (hb : ExV ps fb mb) : ExV ps (fLst (fCons fa (fCons fb fNil))) (ma.bind fun a => mb.bind fun b => some (H2.mk a b)) := by
  intro v e ds S
  simp only [Option.bind_eq_some_iff] at e
  obtain ⟨a, e1, b, e2, e3⟩ := e
  cases e3
  obtain ⟨rs, d1, k1, S1, q1⟩ := (a_c ha (a_c hb a_n)) [enc a, enc b] (by rw [e1, e2]; rfl) ds S
  obtain ⟨d2, k2, S2⟩ := frzs_of S1 q1
  exact ⟨_, d2, by simp only [fLst, k1, k2, bindSome]; rw [if_pos (by simp)], S2, .inl ⟨_, rfl, rfl⟩⟩
/-! built-ins -/
theorem v_ca {g : List D → Option D} {mo : List D → Option τ} {m : Option (List D)} (hg : ∀ l v, mo l = some v → g l = some (enc v)) (h : ArS ps fr m) : ExC ps (fCa g fr) (m.bind mo) := by
  intro v e ds S
  simp only [Option.bind_eq_some_iff] at e
  obtain ⟨l, e1, e2⟩ := e
  obtain ⟨rs, d1, k1, S1, q1⟩ := h l e1 ds S
  exact ⟨d1, by simp only [fCa, k1, bindSome, sees_of S1 q1, hg l v e2, Option.map_some], S1⟩
theorem v_ca1 {g : List D → Option D} (mo : α → Option τ) {ma : Option α} (hg : ∀ a v, mo a = some v → g [enc a] = some (enc v)) (ha : ExS ps fa ma) : ExC ps (fCa g (fCons fa fNil)) (ma.bind mo) := by
  intro v e ds S
  simp only [Option.bind_eq_some_iff] at e
  obtain ⟨a, e1, e2⟩ := e
  obtain ⟨rs, d1, k1, S1, q1⟩ := (a_cS ha a_nS) [enc a] (by rw [e1]; rfl) ds S
  exact ⟨d1, by simp only [fCa, k1, bindSome, sees_of S1 q1, hg a v e2, Option.map_some], S1⟩
theorem v_ca2 {g : List D → Option D} (mo : α → β → Option τ) {ma : Option α} {mb : Option β} (hg : ∀ a b v, mo a b = some v → g [enc a, enc b] = some (enc v)) (ha : ExS ps fa ma) (hb : ExS ps fb mb) : ExC ps (fCa g (fCons fa (fCons fb fNil))) (ma.bind fun a => mb.bind fun b => mo a b) := by
  intro v e ds S
  simp only [Option.bind_eq_some_iff] at e
  obtain ⟨a, e1, b, e2, e3⟩ := e
  obtain ⟨rs, d1, k1, S1, q1⟩ := (a_cS ha (a_cS hb a_nS)) [enc a, enc b] (by rw [e1, e2]; rfl) ds S
  exact ⟨d1, by simp only [fCa, k1, bindSome, sees_of S1 q1, hg a b v e3, Option.map_some], S1⟩
theorem v_len {ma : Option (List α)} (ha : ExS ps fa ma) : ExC ps (fCa gLen (fCons fa fNil)) (ma.bind fun a => some (a.length : Int)) := v_ca1 (fun a => some (a.length : Int)) (fun a v h => by
  cases h
  show some (PyData.int (a.map enc).length) = some (PyData.int a.length)
  rw [List.length_map]) ha
/-- len of a tuple -/
theorem v_lenT {n : Nat} (hn : ∀ a : α, ∃ l, enc a = .tuple l ∧ l.length = n) {ma : Option α} (ha : ExS ps fa ma) : ExC ps (fCa gLen (fCons fa fNil)) (ma.bind fun _ => some (n : Int)) := v_ca1 (fun _ => some (n : Int)) (fun a v h => by
  cases h
  obtain ⟨l, h1, h2⟩ := hn a
  rw [h1]
  show some (PyData.int l.length) = _
  rw [h2]; rfl) ha
theorem v_abs {ma : Option Int} (ha : ExS ps fa ma) : ExC ps (fCa (g1I fun i => .int (if i < 0 then -i else i)) (fCons fa fNil)) (ma.bind fun a => some (a.natAbs : Int)) := v_ca1 (fun a => some (a.natAbs : Int)) (fun a v h => by
  cases h
  show some (PyData.int (if a < 0 then -a else a)) = some (PyData.int (a.natAbs : Int))
  have : (if a < 0 then -a else a) = (a.natAbs : Int) := by split <;> omega
  rw [this]) ha
theorem v_int {ma : Option Int} (ha : ExS ps fa ma) : ExC ps (fCa gInt (fCons fa fNil)) ma := by
  have h := v_ca1 (ps := ps) (g := gInt) (fun a : Int => some a) (fun a v h => by cases h; rfl) ha
  intro v e
  exact h v (by rw [e]; rfl)
def b2i (b : Bool) : Int := if b = true then 1 else 0
theorem v_intB {ma : Option Bool} (ha : ExS ps fa ma) : ExC ps (fCa gInt (fCons fa fNil)) (ma.bind fun a => some (b2i a)) := v_ca1 (fun a => some (b2i a)) (fun a v h => by cases h; rfl) ha
theorem intsD_enc (l : List Int) : intsD (l.map enc) = some l := intsD_map l
theorem boolsD_enc (l : List Bool) : boolsD (l.map enc) = some l := boolsD_map l
theorem v_sum {ma : Option (List Int)} (ha : ExS ps fa ma) : ExC ps (fCa gSum (fCons fa fNil)) (ma.bind fun a => some a.sum) := v_ca1 (fun a => some a.sum) (fun a v h => by
  cases h
  show (intsD (a.map enc)).map _ = _
  rw [intsD_enc]; rfl) ha
theorem v_all {ma : Option (List Bool)} (ha : ExS ps fa ma) : ExC ps (fCa gAll (fCons fa fNil)) (ma.bind fun a => some (a.all id)) := v_ca1 (fun a => some (a.all id)) (fun a v h => by
  cases h
  show (boolsD (a.map enc)).map _ = _
  rw [boolsD_enc]; rfl) ha
theorem trusB (l : List Bool) : trusD (l.map enc) = some l := by
  induction l with
  | nil => rfl
  | cons b l ih => simp only [List.map_cons, enc, Enc.en, trusD] at ih ⊢; rw [ih]; rfl
theorem trusI (l : List Int) : trusD (l.map enc) = some (l.map fun i => i != 0) := by
  induction l with
  | nil => rfl
  | cons b l ih => simp only [List.map_cons, enc, Enc.en, trusD] at ih ⊢; rw [ih]; rfl
theorem v_any {ma : Option (List Bool)} (ha : ExS ps fa ma) : ExC ps (fCa gAny (fCons fa fNil)) (ma.bind fun a => some (a.any id)) := v_ca1 (fun a => some (a.any id)) (fun a v h => by
  cases h
  show (trusD (a.map enc)).map _ = _
  rw [trusB]; rfl) ha
theorem v_anyI {ma : Option (List Int)} (ha : ExS ps fa ma) : ExC ps (fCa gAny (fCons fa fNil)) (ma.bind fun a => some (a.any fun i => i != 0)) := v_ca1 (fun a => some (a.any fun i => i != 0)) (fun a v h => by
  cases h
  show (trusD (a.map enc)).map _ = _
  rw [trusI, Option.map_some, List.any_map]; rfl) ha
theorem v_gcd {ma mb : Option Int} (ha : ExS ps fa ma) (hb : ExS ps fb mb) : ExC ps (fCa gGcd (fCons fa (fCons fb fNil))) (ma.bind fun a => mb.bind fun b => some ((Nat.gcd a.natAbs b.natAbs : Nat) : Int)) := v_ca2 (fun a b => some ((Nat.gcd a.natAbs b.natAbs : Nat) : Int)) (fun a b v h => by cases h; rfl) ha hb
def reprN (a : α) : Option Str := match gRepr [enc a] with
  | some (.str s) => some s
  | _ => none
theorem v_repr {ma : Option α} (ha : ExS ps fa ma) : ExC ps (fCa gRepr (fCons fa fNil)) (ma.bind fun a => reprN a) := v_ca1 (fun a => reprN a) (fun a v h => by
  unfold reprN at h
  split at h
  · rename_i s hs; cases h; exact hs
  · cases h) ha
theorem v_listOf {ma : Option (List α)} (ha : ExS ps fa ma) : ExF ps (fListOf (fCons fa fNil)) ma := by
  intro v e ds S
  obtain ⟨r1, d1, k1, S1, q1⟩ := ha v e ds S
  obtain ⟨d2, k2, S2⟩ := items_of q1 S1
  exact ⟨d2, by simp only [fListOf, fCons, fNil, k1, bindSome, Option.map_some, k2], S2⟩
/-- isinstance of a built-in class: by the type -/
theorem v_isi {n t : String} {b : Bool} (ht : ∀ a : α, tyD (enc a) = some t) (hb : kitB t n = some b) {ma : Option α} (ha : ExS ps fa ma) : ExC ps (fIsi n fa) (ma.bind fun _ => some b) := by
  intro v e ds S
  simp only [Option.bind_eq_some_iff] at e
  obtain ⟨a, e1, e2⟩ := e
  cases e2
  obtain ⟨r1, d1, k1, S1, q1⟩ := ha a e1 ds S
  exact ⟨d1, by simp only [fIsi, k1, bindSome, see_of q1 S1, ht a, hb, Option.map_some]; rfl, S1⟩
/-! tests -/
theorem t_b {m : Option Bool} (h : ExC ps f m) : Te ps (fBool f) m := by
  intro v e ds S
  obtain ⟨d1, k1, S1⟩ := h v e ds S
  exact ⟨d1, by simp only [fBool, k1, bindSome]; rfl, S1⟩
theorem t_tru {b : α → Bool} (hb : ∀ a, truD (enc a) = some (b a)) {m : Option α} (h : ExS ps f m) : Te ps (fTru f) (m.bind fun a => some (b a)) := by
  intro v e ds S
  simp only [Option.bind_eq_some_iff] at e
  obtain ⟨a, e1, e2⟩ := e
  cases e2
  obtain ⟨r, d1, k1, S1, q1⟩ := h a e1 ds S
  exact ⟨d1, by simp only [fTru, k1, bindSome, see_of q1 S1, hb a, Option.map_some], S1⟩
theorem t_truB {m : Option Bool} (h : ExS ps f m) : Te ps (fTru f) m := by
  have k := t_tru (b := fun a : Bool => a) (fun a => rfl) h
  intro v e
  exact k v (by rw [e]; rfl)
theorem t_truL {m : Option (List α)} (h : ExS ps f m) : Te ps (fTru f) (m.bind fun l => some (!l.isEmpty)) := t_tru (b := fun l : List α => !l.isEmpty) (fun l => by cases l <;> rfl) h
theorem t_truI {m : Option Int} (h : ExS ps f m) : Te ps (fTru f) (m.bind fun i => some (i != 0)) := t_tru (b := fun i : Int => i != 0) (fun _ => rfl) h
theorem t_and {m n : Option Bool} (h : Te ps ft m) (k : Te ps fu n) : Te ps (fAndT ft fu) (m.bind fun a => if a = true then n else some false) := by
  intro v e ds S
  simp only [Option.bind_eq_some_iff] at e
  obtain ⟨a, e1, e2⟩ := e
  obtain ⟨d1, k1, S1⟩ := h a e1 ds S
  cases a with
  | true =>
    obtain ⟨d2, k2, S2⟩ := k v e2 d1 S1
    exact ⟨d2, by simp only [fAndT, k1, k2, bindSome, if_true], S2⟩
  | false => cases e2; exact ⟨d1, by simp only [fAndT, k1, bindSome]; rfl, S1⟩
theorem t_or {m n : Option Bool} (h : Te ps ft m) (k : Te ps fu n) : Te ps (fOrT ft fu) (m.bind fun a => if a = true then some true else n) := by
  intro v e ds S
  simp only [Option.bind_eq_some_iff] at e
  obtain ⟨a, e1, e2⟩ := e
  obtain ⟨d1, k1, S1⟩ := h a e1 ds S
  cases a with
  | false =>
    obtain ⟨d2, k2, S2⟩ := k v e2 d1 S1
    refine ⟨d2, ?_, S2⟩
    simp only [fOrT, k1, k2, bindSome, Bool.false_eq_true, if_false]
  | true => cases e2; exact ⟨d1, by simp only [fOrT, k1, bindSome]; rfl, S1⟩
theorem t_not {m : Option Bool} (h : Te ps ft m) : Te ps (fNotT ft) (m.bind fun a => some (!a)) := by
  intro v e ds S
  simp only [Option.bind_eq_some_iff] at e
  obtain ⟨a, e1, e2⟩ := e
  cases e2
  obtain ⟨d1, k1, S1⟩ := h a e1 ds S
  exact ⟨d1, by simp only [fNotT, k1, Option.map_some], S1⟩
theorem v_and {m n : Option Bool} (h : ExC ps fa m) (k : ExC ps fb n) : ExC ps (fAndV fa fb) (m.bind fun a => if a = true then n else some false) := by
  intro v e ds S
  simp only [Option.bind_eq_some_iff] at e
  obtain ⟨a, e1, e2⟩ := e
  obtain ⟨d1, k1, S1⟩ := t_b h a e1 ds S
  cases a with
  | true =>
    obtain ⟨d2, k2, S2⟩ := k v e2 d1 S1
    exact ⟨d2, by simp only [fAndV, k1, k2, bindSome, if_true], S2⟩
  | false => cases e2; exact ⟨d1, by simp only [fAndV, k1, bindSome]; rfl, S1⟩
theorem v_or {m n : Option Bool} (h : ExC ps fa m) (k : ExC ps fb n) : ExC ps (fOrV fa fb) (m.bind fun a => if a = true then some true else n) := by
  intro v e ds S
  simp only [Option.bind_eq_some_iff] at e
  obtain ⟨a, e1, e2⟩ := e
  obtain ⟨d1, k1, S1⟩ := t_b h a e1 ds S
  cases a with
  | false =>
    obtain ⟨d2, k2, S2⟩ := k v e2 d1 S1
    exact ⟨d2, by simp only [fOrV, k1, k2, bindSome, Bool.false_eq_true, if_false], S2⟩
  | true => cases e2; exact ⟨d1, by simp only [fOrV, k1, bindSome]; rfl, S1⟩
theorem v_not {m : Option Bool} (h : ExC ps fa m) : ExC ps (fNotV fa) (m.bind fun a => some (!a)) := by
  intro v e ds S
  simp only [Option.bind_eq_some_iff] at e
  obtain ⟨a, e1, e2⟩ := e
  cases e2
  obtain ⟨d1, k1, S1⟩ := t_b h a e1 ds S
  exact ⟨d1, by simp only [fNotV, k1, Option.map_some]; rfl, S1⟩
theorem v_if {mc : Option Bool} {m n : Option τ} (hc : Te ps ft mc) (h : ExV ps fa m) (k : ExV ps fb n) : ExV ps (fIf ft fa fb) (mc.bind fun c => if c = true then m else n) := by
  intro v e ds S
  simp only [Option.bind_eq_some_iff] at e
  obtain ⟨c, e1, e2⟩ := e
  obtain ⟨d1, k1, S1⟩ := hc c e1 ds S
  cases c with
  | true =>
    obtain ⟨r, d2, k2, S2, q⟩ := h v e2 d1 S1
    exact ⟨r, d2, by simp only [fIf, k1, k2, bindSome, if_true], S2, q⟩
  | false =>
    obtain ⟨r, d2, k2, S2, q⟩ := k v e2 d1 S1
    exact ⟨r, d2, by simp only [fIf, k1, k2, bindSome, Bool.false_eq_true, if_false], S2, q⟩
theorem v_ifC {mc : Option Bool} {m n : Option τ} (hc : Te ps ft mc) (h : ExC ps fa m) (k : ExC ps fb n) : ExC ps (fIf ft fa fb) (mc.bind fun c => if c = true then m else n) := by
  intro v e ds S
  simp only [Option.bind_eq_some_iff] at e
  obtain ⟨c, e1, e2⟩ := e
  obtain ⟨d1, k1, S1⟩ := hc c e1 ds S
  cases c with
  | true =>
    obtain ⟨d2, k2, S2⟩ := h v e2 d1 S1
    exact ⟨d2, by simp only [fIf, k1, k2, bindSome, if_true], S2⟩
  | false =>
    obtain ⟨d2, k2, S2⟩ := k v e2 d1 S1
    exact ⟨d2, by simp only [fIf, k1, k2, bindSome, Bool.false_eq_true, if_false], S2⟩
end
end Ty
set_option Elab.async false
set_option linter.all false
set_option maxRecDepth 100000
/-! Ty: walks, comprehensions, calls, statements, defs. -/
namespace Ty
open PySem PySem.Spec L2 Fx
section
variable {α β γ τ σ ρ ν : Type} [Enc α] [Enc β] [Enc γ] [Enc τ] [Enc σ] [Enc ρ]
variable {ps : List SP} {f fa fb fc : DS → Option (RV × DS)} {ft fu : DS → Option (Bool × DS)} {fr fs : DS → Option (List RV × DS)} {fi : DS → Option (List D × DS)}
/-! ### what is walked -/
theorem i_lst {m : Option (List τ)} (h : ExV ps f m) : It ps (fiList f) m := by
  intro v e ds S
  obtain ⟨r, d1, k1, S1, q1⟩ := h v e ds S
  obtain ⟨d2, k2, S2⟩ := frz_of q1 S1
  exact ⟨d2, by simp only [fiList, k1, k2, bindSome]; rfl, S2⟩
/-- a tuple of things of one type -/
theorem i_tp {m : Option α} (its : α → List τ) (hi : ∀ a, enc a = .tuple ((its a).map enc)) (h : ExV ps f m) : It ps (fiTup f) (m.bind fun a => some (its a)) := by
  intro v e ds S
  simp only [Option.bind_eq_some_iff] at e
  obtain ⟨a, e1, e2⟩ := e
  cases e2
  obtain ⟨r, d1, k1, S1, q1⟩ := h a e1 ds S
  rw [hi a] at q1
  obtain ⟨d2, k2, S2⟩ := frz_of q1 S1
  exact ⟨d2, by simp only [fiTup, k1, k2, bindSome], S2⟩
def rangeL (lo hi : Int) : List Int := (List.range (hi - lo).toNat).map fun (i : Nat) => lo + (i : Int)
noncomputable def range1N (j : Int) : Option (List Int) := if small62 j = true then some (rangeL 0 j) else none
noncomputable def range2N (i j : Int) : Option (List Int) := if (small62 i && small62 j) = true then some (rangeL i j) else none
def range3L (i j c : Int) : List Int := (List.range (Builtin.Range.rangeSize i j c).toNat).map fun (k : Nat) => i + (k : Int) * c
noncomputable def range3N (i j c : Int) : Option (List Int) := if rgOk i j c = true then some (range3L i j c) else none
theorem i_rg1 {m : Option Int} (h : ExS ps f m) : It ps (fiR1 (fCons f fNil)) (m.bind range1N) := by
  intro v e ds S
  simp only [Option.bind_eq_some_iff] at e
  obtain ⟨j, e1, e2⟩ := e
  unfold range1N at e2
  split at e2
  · rename_i hs
    cases e2
    obtain ⟨rs, d1, k1, S1, q1⟩ := (a_cS h a_nS) [enc j] (by rw [e1]; rfl) ds S
    have s1 := sees_of S1 q1
    simp only [enc, Enc.en] at s1
    exact ⟨d1, by simp only [fiR1, k1, bindSome, s1, hs, if_true, rangeD, rangeL, List.map_map]; rfl, S1⟩
  · cases e2
theorem i_rg2 {m n : Option Int} (h : ExS ps fa m) (k : ExS ps fb n) : It ps (fiR2 (fCons fa (fCons fb fNil))) (m.bind fun i => n.bind fun j => range2N i j) := by
  intro v e ds S
  simp only [Option.bind_eq_some_iff] at e
  obtain ⟨i, e1, j, e2, e3⟩ := e
  unfold range2N at e3
  split at e3
  · rename_i hs
    cases e3
    obtain ⟨rs, d1, k1, S1, q1⟩ := (a_cS h (a_cS k a_nS)) [enc i, enc j] (by rw [e1, e2]; rfl) ds S
    have s1 := sees_of S1 q1
    simp only [enc, Enc.en] at s1
    exact ⟨d1, by simp only [fiR2, k1, bindSome, s1, hs, if_true, rangeD, rangeL, List.map_map]; rfl, S1⟩
  · cases e3
theorem i_rg3 {m n o : Option Int} (h : ExS ps fa m) (k : ExS ps fb n) (k' : ExS ps fc o) : It ps (fiR3 (fCons fa (fCons fb (fCons fc fNil)))) (m.bind fun i => n.bind fun j => o.bind fun c => range3N i j c) := by
  intro v e ds S
  simp only [Option.bind_eq_some_iff] at e
  obtain ⟨i, e1, j, e2, c, e3, e4⟩ := e
  unfold range3N at e4
  split at e4
  · rename_i hs
    cases e4
    obtain ⟨rs, d1, k1, S1, q1⟩ := (a_cS h (a_cS k (a_cS k' a_nS))) [enc i, enc j, enc c] (by rw [e1, e2, e3]; rfl) ds S
    have s1 := sees_of S1 q1
    simp only [enc, Enc.en] at s1
    exact ⟨d1, by simp only [fiR3, k1, bindSome, s1, hs, if_true, range3D, range3L, List.map_map]; rfl, S1⟩
  · cases e4
def zipN (a : List α) (b : List β) : List (T2 α β) := (a.zip b).map fun p => ⟨p.1, p.2⟩
theorem i_zp {m : Option (List α)} {n : Option (List β)} (h : ExV ps fa m) (k : ExV ps fb n) : It ps (fiZip (fCons fa (fCons fb fNil))) (m.bind fun a => n.bind fun b => some (zipN a b)) := by
  intro v e ds S
  simp only [Option.bind_eq_some_iff] at e
  obtain ⟨a, e1, b, e2, e3⟩ := e
  cases e3
  obtain ⟨rs, d1, k1, S1, q1⟩ := (a_c h (a_c k a_n)) [enc a, enc b] (by rw [e1, e2]; rfl) ds S
  obtain ⟨d2, k2, S2⟩ := frzs_of S1 q1
  simp only [enc, Enc.en] at k2
  refine ⟨d2, ?_, S2⟩
  simp only [fiZip, k1, k2, bindSome, zipN, List.map_map, List.zip_map]
  rfl
def enumN (a : List α) : List (T2 Int α) := ((List.range a.length).zip a).map fun p => ⟨(p.1 : Int), p.2⟩
theorem i_en {m : Option (List α)} (h : ExV ps f m) : It ps (fi1 enumD (fCons f fNil)) (m.bind fun a => some (enumN a)) := by
  intro v e ds S
  simp only [Option.bind_eq_some_iff] at e
  obtain ⟨a, e1, e3⟩ := e
  cases e3
  obtain ⟨rs, d1, k1, S1, q1⟩ := (a_c h a_n) [enc a] (by rw [e1]; rfl) ds S
  obtain ⟨d2, k2, S2⟩ := frzs_of S1 q1
  simp only [enc, Enc.en] at k2
  refine ⟨d2, ?_, S2⟩
  simp only [fi1, k1, k2, bindSome, enumN, enumD, List.map_map, List.length_map, List.zip_map]
  rfl
theorem i_rv {m : Option (List α)} (h : ExV ps f m) : It ps (fi1 List.reverse (fCons f fNil)) (m.bind fun a => some a.reverse) := by
  intro v e ds S
  simp only [Option.bind_eq_some_iff] at e
  obtain ⟨a, e1, e3⟩ := e
  cases e3
  obtain ⟨rs, d1, k1, S1, q1⟩ := (a_c h a_n) [enc a] (by rw [e1]; rfl) ds S
  obtain ⟨d2, k2, S2⟩ := frzs_of S1 q1
  simp only [enc, Enc.en] at k2
  exact ⟨d2, by simp only [fi1, k1, k2, bindSome, List.map_reverse], S2⟩
/-! ### targets -/
def Tg (ps : List SP) (g : D → DS → Option DS) (d : D) (ps' : List SP) : Prop := ∀ ds, Ss ps ds → ∃ ds', g d ds = some ds' ∧ Ss ps' ds'
def Tgs (ps : List SP) (g : List D → DS → Option DS) (l : List D) (ps' : List SP) : Prop := ∀ ds, Ss ps ds → ∃ ds', g l ds = some ds' ∧ Ss ps' ds'
theorem tg_n (i : Nat) {d : D} : Tg ps (fgName i) d (ps.set i (sh d)) := fun ds S => ⟨_, rfl, S.set i rfl⟩
theorem tgs_n : Tgs ps fgNil [] ps := fun ds S => ⟨ds, rfl, S⟩
theorem tgs_c {ps1 ps2 : List SP} {g : D → DS → Option DS} {gs : List D → DS → Option DS} {d : D} {l : List D} (h : Tg ps g d ps1) (k : Tgs ps1 gs l ps2) : Tgs ps (fgCons g gs) (d :: l) ps2 := fun ds S => by
  obtain ⟨d1, e1, S1⟩ := h ds S
  obtain ⟨d2, e2, S2⟩ := k d1 S1
  exact ⟨d2, by simp only [fgCons, e1, e2, bindSome], S2⟩
theorem tg_t {ps1 : List SP} {n : Nat} {gs : List D → DS → Option DS} {d : D} {l : List D} (h : Tgs ps gs l ps1) (hd : d = .tuple l := by rfl) (hn : l.length = n := by rfl) : Tg ps (fgTup n gs) d ps1 := fun ds S => by
  obtain ⟨d1, e1, S1⟩ := h ds S
  subst hd
  exact ⟨d1, by simp only [fgTup]; rw [if_pos hn]; exact e1, S1⟩
theorem tg_l {ps1 : List SP} {n : Nat} {gs : List D → DS → Option DS} {d : D} {l : List D} (h : Tgs ps gs l ps1) (hd : d = .list l := by rfl) (hn : l.length = n := by rfl) : Tg ps (fgLst n gs) d ps1 := fun ds S => by
  obtain ⟨d1, e1, S1⟩ := h ds S
  subst hd
  exact ⟨d1, by simp only [fgLst]; rw [if_pos hn]; exact e1, S1⟩
/-! ### comprehensions -/
def isN : SP := fun x => x = none
def wipeP (ps : List SP) : List Nat → List SP
  | [] => ps
  | v :: vs => (wipeP ps vs).set v isN
theorem Ss.wipe {ds : DS} (S : Ss ps ds) : ∀ vs : List Nat, Ss (wipeP ps vs) (wipeD ds vs)
  | [] => S
  | v :: vs => (Ss.wipe S vs).set v rfl
theorem wipeP_out {i : Nat} : ∀ {vs : List Nat}, i ∉ vs → (wipeP ps vs)[i]? = ps[i]?
  | [], _ => rfl
  | v :: vs, h => by
    unfold wipeP
    rw [List.getElem?_set_ne (fun e => h (by simp [e])), wipeP_out fun z => h (by simp [z])]
theorem wipeP_len (ps : List SP) : ∀ vs : List Nat, (wipeP ps vs).length = ps.length
  | [] => rfl
  | v :: vs => by unfold wipeP; rw [List.length_set, wipeP_len]
theorem Ss.of : ∀ {ps : List SP} {ds : DS}, ds.length = ps.length → (∀ (i : Nat) (p : SP), ps[i]? = some p → ∃ x, ds[i]? = some x ∧ p x) → Ss ps ds
  | [], [], _, _ => True.intro
  | p :: ps, x :: xs, hl, h => by
    refine ⟨?_, Ss.of (by simpa using hl) fun i q e => by simpa using h (i + 1) q (by simpa using e)⟩
    obtain ⟨y, e, k⟩ := h 0 p (by simp)
    simp at e
    subst e
    exact k
  | [], _ :: _, hl, _ => by simp at hl
  | _ :: _, [], hl, _ => by simp at hl
theorem mend_get {d0 d : DS} {i : Nat} : ∀ {vs : List Nat}, i < d.length → (mend d0 d vs)[i]? = if i ∈ vs then some ((d0[i]?).getD none) else d[i]?
  | [], _ => by simp [mend]
  | v :: vs, h => by
    unfold mend
    by_cases e : v = i
    · subst e
      rw [List.getElem?_set_self (by rw [mend_length]; exact h), if_pos (by simp)]
    · rw [List.getElem?_set_ne e, mend_get h]
      by_cases hm : i ∈ vs
      · rw [if_pos hm, if_pos (by simp [hm])]
      · rw [if_neg hm, if_neg (by simp [hm, Ne.symm e])]
theorem Ss.mended {d0 w : DS} {vs : List Nat} (S0 : Ss ps d0) (S : Ss (wipeP ps vs) w) : Ss ps (mend d0 w vs) := by
  have hl := S.len
  rw [wipeP_len] at hl
  refine Ss.of (by rw [mend_length, hl]) fun i p e => ?_
  have hi : i < w.length := by rw [hl]; exact (List.getElem?_eq_some_iff.mp e).1
  rw [mend_get hi]
  by_cases h : i ∈ vs
  · rw [if_pos h]
    obtain ⟨x, e1, k⟩ := S0.get e
    rw [e1]
    exact ⟨x, rfl, k⟩
  · rw [if_neg h]
    exact S.get (by rw [wipeP_out h]; exact e)
theorem Nfs.all {ds : DS} (S : Ss ps ds) : ∀ {vs : List Nat}, Nfs ps vs → (vs.all fun i => shB ds[i]?) = true
  | [], _ => rfl
  | v :: vs, h => by
    obtain ⟨⟨p, e, k⟩, h2⟩ := h
    obtain ⟨x, e1, k1⟩ := S.get e
    rw [List.all_cons, Nfs.all S h2, e1, Bool.and_true]
    exact k x k1
def lenN (l : List α) : Option (List α) := if l.length ≤ 1000000 then some l else none
def mapN (l : List α) (e : α → Option β) : Option (List β) := match l with
  | [] => some []
  | v :: l => (e v).bind fun x => (mapN l e).bind fun r => some (x :: r)
def compN (l : List α) (t : α → Option Bool) (e : α → Option β) : Option (List β) := match l with
  | [] => some []
  | v :: l => (t v).bind fun c => if c = true then (e v).bind fun x => (compN l t e).bind fun r => some (x :: r) else compN l t e
theorem lcF_ok {vs : List Nat} {psT : α → List SP} {g : D → DS → Option DS} {fe : DS → Option (RV × DS)} {t : α → Option Bool} {e : α → Option β} (hw : ∀ v, wipeP (psT v) vs = wipeP ps vs) (hg : ∀ v : α, Tg (wipeP ps vs) g (enc v) (psT v)) (ht : ∀ v, Te (psT v) ft (t v)) (he : ∀ v, ExV (psT v) fe (e v)) :
    ∀ (l : List α) (r : List β) (w : DS) (acc : List D), compN l t e = some r → Ss (wipeP ps vs) w → ∃ w', lcF (turnC g ft fe vs) (l.map enc) w acc = some (acc ++ r.map enc, w') ∧ Ss (wipeP ps vs) w'
  | [], r, w, acc, h, S => by
    cases h
    exact ⟨w, by simp [lcF], S⟩
  | v :: l, r, w, acc, h, S => by
    simp only [compN, Option.bind_eq_some_iff] at h
    obtain ⟨c, h1, h2⟩ := h
    obtain ⟨d1, e1, S1⟩ := hg v w S
    obtain ⟨d2, e2, S2⟩ := ht v c h1 d1 S1
    cases c with
    | true =>
      simp only [if_true, Option.bind_eq_some_iff] at h2
      obtain ⟨x, h3, r', h4, h5⟩ := h2
      cases h5
      obtain ⟨rv, d3, e3, S3, q3⟩ := he v x h3 d2 S2
      obtain ⟨d4, e4, S4⟩ := frz_of q3 S3
      have S5 := S4.wipe vs
      rw [hw v] at S5
      obtain ⟨w', e6, S6⟩ := lcF_ok hw hg ht he l r' _ (acc ++ [enc x]) h4 S5
      refine ⟨w', ?_, S6⟩
      simp only [List.map_cons, lcF, turnC, e1, e2, e3, e4, bindSome, if_true, Option.map_some, Option.toList, e6]
      rw [List.append_assoc]; rfl
    | false =>
      simp only [Bool.false_eq_true, if_false] at h2
      have S5 := S2.wipe vs
      rw [hw v] at S5
      obtain ⟨w', e6, S6⟩ := lcF_ok hw hg ht he l r _ acc h2 S5
      refine ⟨w', ?_, S6⟩
      simp only [List.map_cons, lcF, turnC, e1, e2, bindSome, Bool.false_eq_true, if_false, Option.toList, List.append_nil, e6]
theorem v_lcT {vs : List Nat} {psT : α → List SP} {g : D → DS → Option DS} {fe : DS → Option (RV × DS)} {mi : Option (List α)} {t : α → Option Bool} {e : α → Option β} (hn : Nfs ps vs) (hi : It ps fi mi) (hg : ∀ v : α, Tg (wipeP ps vs) g (enc v) (psT v)) (ht : ∀ v, Te (psT v) ft (t v)) (he : ∀ v, ExV (psT v) fe (e v)) (hw : ∀ v, wipeP (psT v) vs = wipeP ps vs := by intro _; rfl) :
    ExF ps (fLc fi g ft fe vs) (mi.bind fun l => (lenN l).bind fun l => compN l t e) := by
  intro r h ds S
  simp only [Option.bind_eq_some_iff] at h
  obtain ⟨l, h1, l', h2, h3⟩ := h
  unfold lenN at h2
  split at h2
  · rename_i hl
    cases h2
    obtain ⟨d1, k1, S1⟩ := hi l h1 ds S
    obtain ⟨w', e1, S2⟩ := lcF_ok hw hg ht he l r _ [] h3 (S1.wipe vs)
    refine ⟨mend d1 w' vs, ?_, S1.mended S2⟩
    have hl' : decide ((l.map enc).length ≤ 1000000) = true := by rw [List.length_map]; exact decide_eq_true hl
    simp only [fLc, fLcG, k1, bindSome, hn.all S1, hl', Bool.and_self, if_true, e1, Option.map_some, List.nil_append]
  · cases h2
theorem mapN_comp (l : List α) (e : α → Option β) : compN l (fun _ => some true) e = mapN l e := by
  induction l with
  | nil => rfl
  | cons v l ih => simp only [compN, mapN, bindSome, if_true, ih]
theorem t_yes : Te ps fYes (some true) := by
  intro v e ds S
  cases e
  exact ⟨ds, rfl, S⟩
theorem v_lc {vs : List Nat} {psT : α → List SP} {g : D → DS → Option DS} {fe : DS → Option (RV × DS)} {mi : Option (List α)} {e : α → Option β} (hn : Nfs ps vs) (hi : It ps fi mi) (hg : ∀ v : α, Tg (wipeP ps vs) g (enc v) (psT v)) (he : ∀ v, ExV (psT v) fe (e v)) (hw : ∀ v, wipeP (psT v) vs = wipeP ps vs := by intro _; rfl) :
    ExF ps (fLc fi g fYes fe vs) (mi.bind fun l => (lenN l).bind fun l => mapN l e) := by
  have h := v_lcT hn hi hg (fun v => t_yes) he hw
  simpa only [mapN_comp] using h
/-! ### calls of the text's own defs -/
theorem v_callG {n : Nat} {g : DS → Option DR} {mr : Option (List D)} {m : Option ρ} (ha : ArV ps fr mr) (hm : ∀ v, m = some v → ∃ l, mr = some l ∧ l.length = n ∧ ∃ o d, g (shs l) = some (.ret o d) ∧ o.view = enc v) : ExV ps (fCall n g fr) m := by
  intro v e ds S
  obtain ⟨l, h1, h2, o, dd, h3, h4⟩ := hm v e
  obtain ⟨rs, d1, k1, S1, q1⟩ := ha l h1 ds S
  have s1 := sees_of S1 q1.s
  by_cases ho : o.own?.isSome = true
  · refine ⟨.ov o, d1, ?_, S1, .inl ⟨o, rfl, h4⟩⟩
    simp only [fCall, k1, bindSome, s1, h3]
    rw [if_pos h2, if_pos ho]
  · obtain ⟨d2, k2, S2⟩ := frzs_of S1 q1
    refine ⟨.ov o, d2, ?_, S2, .inl ⟨o, rfl, h4⟩⟩
    simp only [fCall, k1, bindSome, s1, h3, k2]
    rw [if_pos h2, if_neg ho]; rfl
theorem v_callGF {n : Nat} {g : DS → Option DR} {mr : Option (List D)} {m : Option (List ρ)} (ha : ArV ps fr mr) (hm : ∀ v, m = some v → ∃ l, mr = some l ∧ l.length = n ∧ ∃ d, g (shs l) = some (.ret (.flat (v.map enc)) d)) : ExF ps (fCall n g fr) m := by
  intro v e ds S
  obtain ⟨l, h1, h2, dd, h3⟩ := hm v e
  obtain ⟨rs, d1, k1, S1, q1⟩ := ha l h1 ds S
  have s1 := sees_of S1 q1.s
  by_cases ho : (OV.flat (v.map enc)).own?.isSome = true
  · refine ⟨d1, ?_, S1⟩
    simp only [fCall, k1, bindSome, s1, h3]
    rw [if_pos h2, if_pos ho]
  · obtain ⟨d2, k2, S2⟩ := frzs_of S1 q1
    refine ⟨d2, ?_, S2⟩
    simp only [fCall, k1, bindSome, s1, h3, k2]
    rw [if_pos h2, if_neg ho]; rfl
/-- scalars -/
class Sca (α : Type) [Enc α] : Prop where
  sc : ∀ a : α, isSc (enc a) = true
instance : Sca Int := ⟨fun _ => rfl⟩
instance : Sca Bool := ⟨fun _ => rfl⟩
instance : Sca Unit := ⟨fun _ => rfl⟩
instance : Sca Str := ⟨fun _ => rfl⟩
instance [Sca α] : Sca (Option α) := ⟨fun o => match o with | none => rfl | some a => Sca.sc a⟩
theorem all_sc [Sca α] (l : List α) : (l.map enc).all isSc = true := by
  rw [List.all_map]
  exact List.all_eq_true.mpr fun a _ => Sca.sc a
/-- an own list of scalars: the arguments stay owned -/
theorem v_callGS [Sca ρ] {n : Nat} {g : DS → Option DR} {mr : Option (List D)} {m : Option (List ρ)} (ha : ArS ps fr mr) (hm : ∀ v, m = some v → ∃ l, mr = some l ∧ l.length = n ∧ ∃ d, g (shs l) = some (.ret (.flat (v.map enc)) d)) : ExF ps (fCall n g fr) m := by
  intro v e ds S
  obtain ⟨l, h1, h2, dd, h3⟩ := hm v e
  obtain ⟨rs, d1, k1, S1, q1⟩ := ha l h1 ds S
  have s1 := sees_of S1 q1
  have ho : (OV.flat (v.map enc)).own?.isSome = true := by simp only [OV.own?, all_sc, if_true, Option.isSome_some]
  refine ⟨d1, ?_, S1⟩
  simp only [fCall, k1, bindSome, s1, h3]
  rw [if_pos h2, if_pos ho]
theorem v_callGC [Sca ρ] {n : Nat} {g : DS → Option DR} {mr : Option (List D)} {m : Option ρ} (ha : ArS ps fr mr) (hm : ∀ v, m = some v → ∃ l, mr = some l ∧ l.length = n ∧ ∃ d, g (shs l) = some (.ret (.sh (enc v)) d)) : ExC ps (fCall n g fr) m := by
  intro v e ds S
  obtain ⟨l, h1, h2, dd, h3⟩ := hm v e
  obtain ⟨rs, d1, k1, S1, q1⟩ := ha l h1 ds S
  have s1 := sees_of S1 q1
  have ho : (OV.sh (enc v)).own?.isSome = true := by simp only [OV.own?, Sca.sc v, if_true, Option.isSome_some]
  refine ⟨d1, ?_, S1⟩
  simp only [fCall, k1, bindSome, s1, h3]
  rw [if_pos h2, if_pos ho]
end
/-! ### statements -/
inductive TO (ν α ρ : Type) where
  | nx (a : ν)
  | ct (a : α)
  | bk (a : α)
  | ret (r : ρ)
  | ex (x : Str)
section
variable {α β γ τ σ ρ ν μ : Type} [Enc τ] [Enc σ]
variable {ps : List SP} {f fa fb fc fe : DS → Option (RV × DS)} {ft fu : DS → Option (Bool × DS)} {fr : DS → Option (List RV × DS)} {fi : DS → Option (List D × DS)} {s g a b : DS → Option Out}
  {Jn : ν → List SP} {J : α → List SP} {Jx : List SP} {R : ρ → OV → Prop}
def Rel (Jn : ν → List SP) (J : α → List SP) (Jx : List SP) (R : ρ → OV → Prop) : TO ν α ρ → Out → Prop
  | .nx a, .nx ds => Ss (Jn a) ds
  | .ct a, .ct ds => Ss (J a) ds
  | .bk a, .bk ds => Ss (J a) ds
  | .ret r, .ret o _ => R r o
  | .ex x, .ex y ds => x = y ∧ Ss Jx ds
  | _, _ => False
def Bk (ps : List SP) (f : DS → Option Out) (m : Option (TO ν α ρ)) (Jn : ν → List SP) (J : α → List SP) (Jx : List SP) (R : ρ → OV → Prop) : Prop := ∀ o, m = some o → ∀ ds, Ss ps ds → ∃ out, f ds = some out ∧ Rel Jn J Jx R o out
def seqT (m : Option (TO μ α ρ)) (k : μ → Option (TO ν α ρ)) : Option (TO ν α ρ) := m.bind fun o => match o with
  | .nx b => k b
  | .ct a => some (.ct a)
  | .bk a => some (.bk a)
  | .ret r => some (.ret r)
  | .ex x => some (.ex x)
theorem b_weak {ps' : List SP} {m : Option (TO ν α ρ)} (l : Le ps ps') (h : Bk ps' s m Jn J Jx R) : Bk ps s m Jn J Jx R := fun o ho ds S => h o ho ds (l.ss S)
theorem b_nx {n : ν} (l : Le ps (Jn n)) : Bk (α := α) (ρ := ρ) ps fNext (some (.nx n)) Jn J Jx R := by
  intro o e ds S
  cases e
  exact ⟨_, rfl, l.ss S⟩
theorem b_ct {n : α} (l : Le ps (J n)) : Bk (ν := ν) (ρ := ρ) ps fCont (some (.ct n)) Jn J Jx R := by
  intro o e ds S
  cases e
  exact ⟨_, rfl, l.ss S⟩
theorem b_bk {n : α} (l : Le ps (J n)) : Bk (ν := ν) (ρ := ρ) ps fBreak (some (.bk n)) Jn J Jx R := by
  intro o e ds S
  cases e
  exact ⟨_, rfl, l.ss S⟩
theorem fSeq_next (f : DS → Option Out) : fSeq f fNext = f := by
  funext ds
  unfold fSeq
  cases h : f ds with
  | none => rfl
  | some o => cases o <;> rfl
theorem b_last {m : Option (TO ν α ρ)} (h : Bk ps (fSeq s fNext) m Jn J Jx R) : Bk ps s m Jn J Jx R := by rwa [fSeq_next] at h
theorem fSeq_assoc (f g h : DS → Option Out) : fSeq (fSeq f g) h = fSeq f (fSeq g h) := by
  funext ds
  unfold fSeq
  cases e : f ds with
  | none => rfl
  | some o => cases o <;> rfl
/-! returns -/
def RtV (r : τ) (o : OV) : Prop := o.view = enc r
def RtF (r : List τ) (o : OV) : Prop := o = .flat (r.map enc)
def RtC (r : τ) (o : OV) : Prop := o = .sh (enc r)
theorem mov_of {d : D} {r : RV} {ds : DS} (h : kS ps d r) (S : Ss ps ds) : ∃ o ds', mov r ds = some (o, ds') ∧ o.view = d := by
  rcases h with ⟨o, rfl, rfl⟩ | ⟨i, rfl, h⟩
  · exact ⟨o, ds, rfl, rfl⟩
  · rcases h with h | ⟨l, h, rfl⟩
    · obtain ⟨x, e, o, rfl, rfl⟩ := S.get h
      exact ⟨o, ds.set i none, by simp only [mov, e], rfl⟩
    · obtain ⟨x, e, k⟩ := S.get h
      have k : x = some (.flat l) := k
      subst k
      exact ⟨.flat l, ds.set i none, by simp only [mov, e], rfl⟩
theorem b_retV {m : Option τ} (h : ExS ps f m) : Bk ps (fRet f) (m.bind fun v => some (.ret v)) Jn J Jx RtV := by
  intro o e ds S
  simp only [Option.bind_eq_some_iff] at e
  obtain ⟨v, e1, e2⟩ := e
  cases e2
  obtain ⟨r, d1, k1, S1, q1⟩ := h v e1 ds S
  obtain ⟨o, d2, k2, hv⟩ := mov_of q1 S1
  exact ⟨.ret o d2, by simp only [fRet, k1, k2, bindSome, Option.map_some], hv⟩
theorem b_retF {m : Option (List τ)} (h : ExF ps f m) : Bk ps (fRet f) (m.bind fun v => some (.ret v)) Jn J Jx RtF := by
  intro o e ds S
  simp only [Option.bind_eq_some_iff] at e
  obtain ⟨v, e1, e2⟩ := e
  cases e2
  obtain ⟨d1, k1, S1⟩ := h v e1 ds S
  exact ⟨.ret _ d1, by simp only [fRet, k1, bindSome, mov, Option.map_some], rfl⟩
theorem b_retFv (i : Nat) {v : List τ} (h : ps[i]? = some (fl (v.map enc)) := by rfl) : Bk ps (fRet (fVar i)) (some (.ret v)) Jn J Jx RtF := by
  intro o e ds S
  cases e
  obtain ⟨x, e, ho⟩ := S.get h
  have ho : x = some (.flat (v.map enc)) := ho
  subst ho
  exact ⟨.ret _ (ds.set i none), by simp only [fRet, fVar, e, bindSome, mov, Option.map_some], rfl⟩
theorem b_retC {m : Option τ} (h : ExC ps f m) : Bk ps (fRet f) (m.bind fun v => some (.ret v)) Jn J Jx RtC := by
  intro o e ds S
  simp only [Option.bind_eq_some_iff] at e
  obtain ⟨v, e1, e2⟩ := e
  cases e2
  obtain ⟨d1, k1, S1⟩ := h v e1 ds S
  exact ⟨.ret _ d1, by simp only [fRet, k1, bindSome, mov, Option.map_some], rfl⟩
theorem b_retN {v : τ} (h : enc v = .none := by rfl) : Bk ps fRetN (some (.ret v)) Jn J Jx RtC := by
  intro o e ds S
  cases e
  exact ⟨.ret _ _, rfl, by show OV.sh .none = OV.sh (enc v); rw [h]⟩
/-! stores -/
theorem b_set (i : Nat) {me : Option τ} {k : τ → Option (TO ν α ρ)} (he : ExV ps fe me) (hg : ∀ v, Bk (ps.set i (vw (enc v))) g (k v) Jn J Jx R) : Bk ps (fSeq (fSet i fe) g) (me.bind k) Jn J Jx R := by
  intro o e ds S
  simp only [Option.bind_eq_some_iff] at e
  obtain ⟨v, e1, e2⟩ := e
  obtain ⟨r, d1, k1, S1, q1⟩ := he v e1 ds S
  have go : ∃ d2 : DS, fSet i fe ds = some (.nx d2) ∧ Ss (ps.set i (vw (enc v))) d2 := by
    have h0 := q1
    rcases q1 with ⟨o, rfl, hv⟩ | ⟨j, rfl, h⟩
    · exact ⟨_, by simp only [fSet, k1, bindSome], S1.set i ⟨o, rfl, hv⟩⟩
    · obtain ⟨d2, k2, S2⟩ := frz_of h0 S1
      exact ⟨d2.set i (some (.sh (enc v))), by simp only [fSet, k1, bindSome, k2, Option.map_some], S2.set i ⟨.sh (enc v), rfl, rfl⟩⟩
  obtain ⟨d2, k2, S2⟩ := go
  obtain ⟨out, k3, rl⟩ := hg v o e2 d2 S2
  exact ⟨out, by simp only [fSeq, k2, bindSome, k3], rl⟩
theorem b_setF (i : Nat) {me : Option (List τ)} {k : List τ → Option (TO ν α ρ)} (he : ExF ps fe me) (hg : ∀ v, Bk (ps.set i (fl (v.map enc))) g (k v) Jn J Jx R) : Bk ps (fSeq (fSet i fe) g) (me.bind k) Jn J Jx R := by
  intro o e ds S
  simp only [Option.bind_eq_some_iff] at e
  obtain ⟨v, e1, e2⟩ := e
  obtain ⟨d1, k1, S1⟩ := he v e1 ds S
  obtain ⟨out, k3, rl⟩ := hg v o e2 _ (S1.set i (x := some (.flat (v.map enc))) rfl)
  exact ⟨out, by simp only [fSeq, fSet, k1, bindSome, k3], rl⟩
theorem b_setC (i : Nat) {me : Option τ} {k : τ → Option (TO ν α ρ)} (he : ExC ps fe me) (hg : ∀ v, Bk (ps.set i (sh (enc v))) g (k v) Jn J Jx R) : Bk ps (fSeq (fSet i fe) g) (me.bind k) Jn J Jx R := by
  intro o e ds S
  simp only [Option.bind_eq_some_iff] at e
  obtain ⟨v, e1, e2⟩ := e
  obtain ⟨d1, k1, S1⟩ := he v e1 ds S
  obtain ⟨out, k3, rl⟩ := hg v o e2 _ (S1.set i (x := some (.sh (enc v))) rfl)
  exact ⟨out, by simp only [fSeq, fSet, k1, bindSome, k3], rl⟩
theorem b_asg {tg : D → DS → Option DS} {ps' : τ → List SP} {me : Option τ} {k : τ → Option (TO ν α ρ)} (he : ExV ps fe me) (ht : ∀ v : τ, Tg ps tg (enc v) (ps' v)) (hg : ∀ v, Bk (ps' v) g (k v) Jn J Jx R) : Bk ps (fSeq (fAsg tg fe) g) (me.bind k) Jn J Jx R := by
  intro o e ds S
  simp only [Option.bind_eq_some_iff] at e
  obtain ⟨v, e1, e2⟩ := e
  obtain ⟨r, d1, k1, S1, q1⟩ := he v e1 ds S
  obtain ⟨d2, k2, S2⟩ := frz_of q1 S1
  obtain ⟨d3, k3, S3⟩ := ht v d2 S2
  obtain ⟨out, k4, rl⟩ := hg v o e2 d3 S3
  exact ⟨out, by simp only [fSeq, fAsg, k1, k2, k3, k4, bindSome, Option.map_some], rl⟩
theorem b_expr {me : Option τ} {k : Option (TO ν α ρ)} (he : ExS ps fe me) (hg : Bk ps g k Jn J Jx R) : Bk ps (fSeq (fExpr fe) g) (me.bind fun _ => k) Jn J Jx R := by
  intro o e ds S
  simp only [Option.bind_eq_some_iff] at e
  obtain ⟨v, e1, e2⟩ := e
  obtain ⟨r, d1, k1, S1, q1⟩ := he v e1 ds S
  obtain ⟨out, k4, rl⟩ := hg o e2 d1 S1
  exact ⟨out, by simp only [fSeq, fExpr, k1, k4, bindSome, Option.map_some], rl⟩
def appN (l : List τ) (v : τ) : Option (List τ) := if l.length ≤ 1000000 then some (l ++ [v]) else none
theorem b_app (i : Nat) {l : List τ} {me : Option τ} {k : List τ → Option (TO ν α ρ)} (he : ExV ps fe me) (hg : ∀ v, Bk (ps.set i (fl (v.map enc))) g (k v) Jn J Jx R) (hi : ps[i]? = some (fl (l.map enc)) := by rfl) : Bk ps (fSeq (fApp i fe) g) (me.bind fun v => (appN l v).bind k) Jn J Jx R := by
  intro o e ds S
  simp only [Option.bind_eq_some_iff] at e
  obtain ⟨v, e1, l', e2, e3⟩ := e
  unfold appN at e2
  split at e2
  · rename_i hl
    cases e2
    obtain ⟨x, x1, x2⟩ := S.get hi
    have x2 : x = some (.flat (l.map enc)) := x2
    subst x2
    obtain ⟨r, d1, k1, S1, q1⟩ := he v e1 ds S
    obtain ⟨d2, k2, S2⟩ := frz_of q1 S1
    obtain ⟨y, y1, y2⟩ := S2.get hi
    have y2 : y = some (.flat (l.map enc)) := y2
    subst y2
    obtain ⟨out, k4, rl⟩ := hg _ o e3 (d2.set i (some (.flat (l.map enc ++ [enc v])))) (S2.set i (by unfold fl; rw [List.map_append]; rfl))
    have hl' : (l.map enc).length ≤ 1000000 := by rw [List.length_map]; exact hl
    exact ⟨out, by simp only [fSeq, fApp, x1, k1, k2, y1, bindSome]; rw [if_pos hl']; exact k4, rl⟩
  · cases e2
def setN (l : List τ) (k : Int) (v : τ) : Option (List τ) := (ixN l.length k).map fun j => l.set j v
theorem b_setIx (i : Nat) {fk : DS → Option (RV × DS)} {l : List τ} {me : Option τ} {mk : Option Int} {k : List τ → Option (TO ν α ρ)} (he : ExV ps fe me) (hk : ExS ps fk mk) (hg : ∀ v, Bk (ps.set i (fl (v.map enc))) g (k v) Jn J Jx R) (hi : ps[i]? = some (fl (l.map enc)) := by rfl) : Bk ps (fSeq (fSetIx i fe fk) g) (me.bind fun v => mk.bind fun j => (setN l j v).bind k) Jn J Jx R := by
  intro o e ds S
  simp only [Option.bind_eq_some_iff] at e
  obtain ⟨v, e1, j, e2, l', e3, e4⟩ := e
  simp only [setN, Option.map_eq_some_iff] at e3
  obtain ⟨n, e5, rfl⟩ := e3
  obtain ⟨r, d1, k1, S1, q1⟩ := he v e1 ds S
  obtain ⟨d2, k2, S2⟩ := frz_of q1 S1
  obtain ⟨x, x1, x2⟩ := S2.get hi
  have x2 : x = some (.flat (l.map enc)) := x2
  subst x2
  obtain ⟨r3, d3, k3, S3, q3⟩ := hk j e2 d2 S2
  have s3 := see_of q3 S3
  simp only [enc, Enc.en] at s3
  obtain ⟨y, y1, y2⟩ := S3.get hi
  have y2 : y = some (.flat (l.map enc)) := y2
  subst y2
  obtain ⟨out, k4, rl⟩ := hg _ o e4 (d3.set i (some (.flat ((l.map enc).set n (enc v))))) (S3.set i (by unfold fl; rw [List.map_set]))
  refine ⟨out, ?_, rl⟩
  have e5' : ixN (l.map enc).length j = some n := by rw [List.length_map]; exact e5
  simp only [fSeq, fSetIx, k1, k2, k3, x1, y1, s3, bindSome, e5', Option.map_some, k4]
theorem b_aug (i : Nat) {h : Int → Int → Int} {x : Int} {me : Option Int} {k : Int → Option (TO ν α ρ)} (he : ExS ps fe me) (hg : ∀ v : Int, Bk (ps.set i (sh (enc v))) g (k v) Jn J Jx R) (hi : ps[i]? = some (sh (enc x)) := by rfl) : Bk ps (fSeq (fAug i h fe) g) (me.bind fun v => k (h x v)) Jn J Jx R := by
  intro o e ds S
  simp only [Option.bind_eq_some_iff] at e
  obtain ⟨v, e1, e2⟩ := e
  obtain ⟨y, y1, y2⟩ := S.get hi
  have y2 : y = some (.sh (.int x)) := y2
  subst y2
  obtain ⟨r, d1, k1, S1, q1⟩ := he v e1 ds S
  have s1 := see_of q1 S1
  simp only [enc, Enc.en] at s1
  obtain ⟨out, k4, rl⟩ := hg _ o e2 (d1.set i (some (.sh (.int (h x v))))) (S1.set i rfl)
  exact ⟨out, by simp only [fSeq, fAug, y1, k1, s1, bindSome, k4], rl⟩
theorem b_augIx (i : Nat) {h : Int → Int → Int} {fk : DS → Option (RV × DS)} {l : List Int} {me mk : Option Int} {k : List Int → Option (TO ν α ρ)} (he : ExS ps fe me) (hk : ExS ps fk mk) (hg : ∀ v : List Int, Bk (ps.set i (fl (v.map enc))) g (k v) Jn J Jx R) (hi : ps[i]? = some (fl (l.map enc)) := by rfl) :
    Bk ps (fSeq (fAugIx i h fe fk) g) (mk.bind fun j => (atI l j).bind fun x => me.bind fun v => (setN l j (h x v)).bind k) Jn J Jx R := by
  intro o e ds S
  simp only [Option.bind_eq_some_iff] at e
  obtain ⟨j, e2, x, e6, v, e1, l', e3, e4⟩ := e
  simp only [setN, Option.map_eq_some_iff] at e3
  obtain ⟨n, e5, rfl⟩ := e3
  obtain ⟨y, y1, y2⟩ := S.get hi
  have y2 : y = some (.flat (l.map enc)) := y2
  subst y2
  obtain ⟨r3, d3, k3, S3, q3⟩ := hk j e2 ds S
  have s3 := see_of q3 S3
  simp only [enc, Enc.en] at s3
  obtain ⟨z, z1, z2⟩ := S3.get hi
  have z2 : z = some (.flat (l.map enc)) := z2
  subst z2
  obtain ⟨r, d1, k1, S1, q1⟩ := he v e1 d3 S3
  have s1 := see_of q1 S1
  simp only [enc, Enc.en] at s1
  obtain ⟨w, w1, w2⟩ := S1.get hi
  have w2 : w = some (.flat (l.map enc)) := w2
  subst w2
  have ea : atI (l.map enc) j = some (.int x) := by
    have := atI_map (g := (Enc.en : Int → D)) l j
    rw [e6] at this
    exact this
  obtain ⟨out, k4, rl⟩ := hg _ o e4 (d1.set i (some (.flat ((l.map enc).set n (.int (h x v)))))) (S1.set i (by unfold fl; rw [List.map_set]; rfl))
  have e5' : ixN (l.map enc).length j = some n := by rw [List.length_map]; exact e5
  exact ⟨out, by simp only [fSeq, fAugIx, y1, k3, z1, s3, bindSome, ea, k1, s1, w1, e5', Option.map_some, k4], rl⟩
/-! ifs -/
def NoNx (f : DS → Option Out) : Prop := ∀ ds d, f ds ≠ some (.nx d)
theorem nn_ret : NoNx (fRet f) := fun ds d h => by
  simp only [fRet, Option.bind_eq_some_iff, Option.map_eq_some_iff] at h
  obtain ⟨p, _, o, _, h⟩ := h
  cases h
theorem nn_retN : NoNx fRetN := fun ds d h => by cases h
theorem nn_ct : NoNx fCont := fun ds d h => by cases h
theorem nn_bk : NoNx fBreak := fun ds d h => by cases h
theorem nn_seq (h : NoNx g) : NoNx (fSeq s g) := fun ds d e => by
  simp only [fSeq, Option.bind_eq_some_iff] at e
  obtain ⟨o, h1, h2⟩ := e
  cases o with
  | nx d1 => exact h d1 d h2
  | _ => cases h2
theorem nn_if (h : NoNx a) (k : NoNx b) : NoNx (fIfS ft a b) := fun ds d e => by
  simp only [fIfS, Option.bind_eq_some_iff] at e
  obtain ⟨o, h1, h2⟩ := e
  split at h2
  · exact h _ d h2
  · exact k _ d h2
/-- one branch leaves -/
theorem b_ifT {mc : Option Bool} {ma mg : Option (TO ν α ρ)} (hc : Te ps ft mc) (ha : Bk ps a ma Jn J Jx R) (na : NoNx a) (hg : Bk ps (fSeq b g) mg Jn J Jx R) : Bk ps (fSeq (fIfS ft a b) g) (mc.bind fun t => if t = true then ma else mg) Jn J Jx R := by
  intro o e ds S
  simp only [Option.bind_eq_some_iff] at e
  obtain ⟨c, e1, e2⟩ := e
  obtain ⟨d1, k1, S1⟩ := hc c e1 ds S
  cases c with
  | true =>
    obtain ⟨out, k2, rl⟩ := ha o e2 d1 S1
    refine ⟨out, ?_, rl⟩
    simp only [fSeq, fIfS, k1, bindSome, if_true, k2]
    cases out with
    | nx d => exact absurd k2 (na d1 d)
    | _ => rfl
  | false =>
    obtain ⟨out, k2, rl⟩ := hg o e2 d1 S1
    refine ⟨out, ?_, rl⟩
    have h : (fSeq (fIfS ft a b) g) ds = (fSeq b g) d1 := by
      simp only [fSeq, fIfS, k1, bindSome, Bool.false_eq_true, if_false]
    rw [h]; exact k2
theorem fSeq_fNext (g : DS → Option Out) : fSeq fNext g = g := rfl
theorem b_ifF {mc : Option Bool} {ma mg : Option (TO ν α ρ)} (hc : Te ps ft mc) (ha : Bk ps (fSeq a g) ma Jn J Jx R) (nb : NoNx b) (hb : Bk ps b mg Jn J Jx R) : Bk ps (fSeq (fIfS ft a b) g) (mc.bind fun t => if t = true then ma else mg) Jn J Jx R := by
  intro o e ds S
  simp only [Option.bind_eq_some_iff] at e
  obtain ⟨c, e1, e2⟩ := e
  obtain ⟨d1, k1, S1⟩ := hc c e1 ds S
  cases c with
  | false =>
    obtain ⟨out, k2, rl⟩ := hb o e2 d1 S1
    refine ⟨out, ?_, rl⟩
    simp only [fSeq, fIfS, k1, bindSome, Bool.false_eq_true, if_false, k2]
    cases out with
    | nx d => exact absurd k2 (nb d1 d)
    | _ => rfl
  | true =>
    obtain ⟨out, k2, rl⟩ := ha o e2 d1 S1
    refine ⟨out, ?_, rl⟩
    have h : (fSeq (fIfS ft a b) g) ds = (fSeq a g) d1 := by
      simp only [fSeq, fIfS, k1, bindSome, if_true]
    rw [h]; exact k2
/-- the last statement of a block -/
theorem b_ifL {mc : Option Bool} {ma mb : Option (TO ν α ρ)} (hc : Te ps ft mc) (ha : Bk ps a ma Jn J Jx R) (hb : Bk ps b mb Jn J Jx R) : Bk ps (fIfS ft a b) (mc.bind fun t => if t = true then ma else mb) Jn J Jx R := by
  intro o e ds S
  simp only [Option.bind_eq_some_iff] at e
  obtain ⟨c, e1, e2⟩ := e
  obtain ⟨d1, k1, S1⟩ := hc c e1 ds S
  cases c with
  | true =>
    obtain ⟨out, k2, rl⟩ := ha o e2 d1 S1
    exact ⟨out, by simp only [fIfS, k1, bindSome, if_true, k2], rl⟩
  | false =>
    obtain ⟨out, k2, rl⟩ := hb o e2 d1 S1
    refine ⟨out, ?_, rl⟩
    simp only [fIfS, k1, bindSome, Bool.false_eq_true, if_false, k2]
theorem b_seq {Jm : μ → List SP} {m : Option (TO μ α ρ)} {k : μ → Option (TO ν α ρ)} (h : Bk ps s m Jm J Jx R) (hg : ∀ n, Bk (Jm n) g (k n) Jn J Jx R) : Bk ps (fSeq s g) (seqT m k) Jn J Jx R := by
  intro o e ds S
  simp only [seqT, Option.bind_eq_some_iff] at e
  obtain ⟨o1, e1, e2⟩ := e
  obtain ⟨out, k1, rl⟩ := h o1 e1 ds S
  cases o1 with
  | nx n =>
    cases out with
    | nx d1 =>
      obtain ⟨out2, k2, rl2⟩ := hg n o e2 d1 rl
      exact ⟨out2, by simp only [fSeq, k1, bindSome, k2], rl2⟩
    | _ => exact rl.elim
  | ct n =>
    cases e2
    cases out with
    | ct d1 => exact ⟨.ct d1, by simp only [fSeq, k1, bindSome], rl⟩
    | _ => exact rl.elim
  | bk n =>
    cases e2
    cases out with
    | bk d1 => exact ⟨.bk d1, by simp only [fSeq, k1, bindSome], rl⟩
    | _ => exact rl.elim
  | ret n =>
    cases e2
    cases out with
    | ret d1 d2 => exact ⟨.ret d1 d2, by simp only [fSeq, k1, bindSome], rl⟩
    | _ => exact rl.elim
  | ex n =>
    cases e2
    cases out with
    | ex d1 d2 => exact ⟨.ex d1 d2, by simp only [fSeq, k1, bindSome], rl⟩
    | _ => exact rl.elim
/-- a test whose answer is known -/
theorem b_ifYes {m : Option (TO ν α ρ)} (hc : Te ps ft (some true)) (h : Bk ps (fSeq a g) m Jn J Jx R) : Bk ps (fSeq (fIfS ft a b) g) m Jn J Jx R := by
  intro o e ds S
  obtain ⟨d1, k1, S1⟩ := hc true rfl ds S
  obtain ⟨out, k2, rl⟩ := h o e d1 S1
  refine ⟨out, ?_, rl⟩
  have h : (fSeq (fIfS ft a b) g) ds = (fSeq a g) d1 := by simp only [fSeq, fIfS, k1, bindSome, if_true]
  rw [h]; exact k2
theorem b_ifNo {m : Option (TO ν α ρ)} (hc : Te ps ft (some false)) (h : Bk ps (fSeq b g) m Jn J Jx R) : Bk ps (fSeq (fIfS ft a b) g) m Jn J Jx R := by
  intro o e ds S
  obtain ⟨d1, k1, S1⟩ := hc false rfl ds S
  obtain ⟨out, k2, rl⟩ := h o e d1 S1
  refine ⟨out, ?_, rl⟩
  have h : (fSeq (fIfS ft a b) g) ds = (fSeq b g) d1 := by simp only [fSeq, fIfS, k1, bindSome, Bool.false_eq_true, if_false]
  rw [h]; exact k2
theorem b_out (na : NoNx a) {m : Option (TO ν α ρ)} (h : Bk ps a m Jn J Jx R) : Bk ps (fSeq a g) m Jn J Jx R := by
  intro o e ds S
  obtain ⟨out, k2, rl⟩ := h o e ds S
  refine ⟨out, ?_, rl⟩
  simp only [fSeq, k2, bindSome]
  cases out with
  | nx d => exact absurd k2 (na ds d)
  | _ => rfl
/-! loops -/
def forT (l : List τ) (body : τ → β → Option (TO β β ρ)) (b : β) : Option (TO β α ρ) := match l with
  | [] => some (.nx b)
  | v :: l => (body v b).bind fun o => match o with
    | .nx b => forT l body b
    | .ct b => forT l body b
    | .bk b => some (.nx b)
    | .ret r => some (.ret r)
    | .ex x => some (.ex x)
theorem loop_ok {tg : D → DS → Option DS} {fb : DS → Option Out} {body : τ → β → Option (TO β β ρ)} {J0 : β → List SP} {psT : τ → β → List SP} (ht : ∀ v b, Tg (J0 b) tg (enc v) (psT v b)) (hb : ∀ v b, Bk (psT v b) fb (body v b) J0 J0 Jx R) :
    ∀ (l : List τ) (b : β) (o : TO β α ρ) (ds : DS), forT l body b = some o → Ss (J0 b) ds → ∃ out, loopF tg fb (l.map enc) ds = some out ∧ Rel J0 J Jx R o out
  | [], b, o, ds, h, S => by
    cases h
    exact ⟨_, rfl, S⟩
  | v :: l, b, o, ds, h, S => by
    simp only [forT, Option.bind_eq_some_iff] at h
    obtain ⟨o1, h1, h2⟩ := h
    obtain ⟨d1, k1, S1⟩ := ht v b ds S
    obtain ⟨out1, k2, rl⟩ := hb v b o1 h1 d1 S1
    cases o1 with
    | nx b1 =>
      cases out1 with
      | nx d2 =>
        obtain ⟨out, k3, rl2⟩ := loop_ok ht hb l b1 o d2 h2 rl
        exact ⟨out, by simp only [List.map_cons, loopF, k1, k2, bindSome, k3], rl2⟩
      | _ => exact rl.elim
    | ct b1 =>
      cases out1 with
      | ct d2 =>
        obtain ⟨out, k3, rl2⟩ := loop_ok ht hb l b1 o d2 h2 rl
        exact ⟨out, by simp only [List.map_cons, loopF, k1, k2, bindSome, k3], rl2⟩
      | _ => exact rl.elim
    | bk b1 =>
      cases h2
      cases out1 with
      | bk d2 => exact ⟨.nx d2, by simp only [List.map_cons, loopF, k1, k2, bindSome], rl⟩
      | _ => exact rl.elim
    | ret r =>
      cases h2
      cases out1 with
      | ret d2 d3 => exact ⟨.ret d2 d3, by simp only [List.map_cons, loopF, k1, k2, bindSome], rl⟩
      | _ => exact rl.elim
    | ex r =>
      cases h2
      cases out1 with
      | ex d2 d3 => exact ⟨.ex d2 d3, by simp only [List.map_cons, loopF, k1, k2, bindSome], rl⟩
      | _ => exact rl.elim
theorem b_for {tg : D → DS → Option DS} {fb : DS → Option Out} {mi : Option (List τ)} {body : τ → β → Option (TO β β ρ)} (J0 : β → List SP) (b0 : β) {psT : τ → β → List SP} {k : β → Option (TO ν α ρ)} (h0 : Le ps (J0 b0)) (hi : It ps fi mi) (ht : ∀ v b, Tg (J0 b) tg (enc v) (psT v b))
    (hb : ∀ v b, Bk (psT v b) fb (body v b) J0 J0 Jx R) (hg : ∀ b, Bk (J0 b) g (k b) Jn J Jx R) : Bk ps (fSeq (fFor fi tg fb) g) (mi.bind fun l => seqT (forT l body b0) k) Jn J Jx R := by
  intro o e ds S
  simp only [Option.bind_eq_some_iff] at e
  obtain ⟨l, e1, e2⟩ := e
  obtain ⟨d1, k1, S1⟩ := hi l e1 ds S
  have hl : Bk (J0 b0) (loopF tg fb (l.map enc)) (forT (α := α) l body b0) J0 J Jx R := fun o h ds S => loop_ok ht hb l b0 o ds h S
  obtain ⟨out, k2, rl⟩ := b_seq hl hg o e2 d1 (h0.ss S1)
  refine ⟨out, ?_, rl⟩
  have h : (fSeq (fFor fi tg fb) g) ds = (fSeq (loopF tg fb (l.map enc)) g) d1 := by simp only [fSeq, fFor, k1, bindSome]
  rw [h]; exact k2
/-! defs -/
def retT (m : Option (TO Unit Unit ρ)) : Option ρ := m.bind fun o => match o with
  | .ret r => some r
  | _ => none
def retU [Enc ρ] (v : ρ) (m : Option (TO Unit Unit ρ)) : Option ρ := m.bind fun o => match o with
  | .ret r => some r
  | .nx _ => some v
  | _ => none
/-- what a def that may raise answers -/
def retX (m : Option (TO Unit Unit ρ)) : Option (ρ ⊕ Str) := m.bind fun o => match o with
  | .ret r => some (.inl r)
  | .ex x => some (.inr x)
  | _ => none
def retXU (v : ρ) (m : Option (TO Unit Unit ρ)) : Option (ρ ⊕ Str) := m.bind fun o => match o with
  | .ret r => some (.inl r)
  | .nx _ => some (.inl v)
  | .ex x => some (.inr x)
  | _ => none
def startP (n : Nat) (l : List D) : List SP := l.map sh ++ List.replicate (n - l.length) isN
theorem ss_rep : ∀ n : Nat, Ss (List.replicate n isN) (List.replicate n none)
  | 0 => True.intro
  | n + 1 => ⟨rfl, ss_rep n⟩
theorem ss_start (n : Nat) (l : List D) : Ss (startP n l) (padD l.length n (shs l)) := by
  have e : padD l.length n (shs l) = shs l ++ List.replicate (n - l.length) none := by
    unfold padD
    rw [List.take_of_length_le (by simp), List.drop_of_length_le (by simp), List.append_nil]
  rw [e]
  unfold startP
  generalize n - l.length = k
  induction l with
  | nil => exact ss_rep k
  | cons d l ih => exact ⟨rfl, ih (by unfold padD; rw [List.take_of_length_le (by simp), List.drop_of_length_le (by simp), List.append_nil])⟩
abbrev Ja (n : Nat) : Unit → List SP := fun _ => List.replicate n an
abbrev Jxa (n : Nat) : List SP := List.replicate n an
/-- R r of what a def answers -/
def DRel (R : ρ → OV → Prop) (r : ρ) (o : Option DR) : Prop := ∃ v d, o = some (.ret v d) ∧ R r v
def DRelX (R : ρ → OV → Prop) (r : ρ ⊕ Str) (o : Option DR) : Prop := match r with
  | .inl r => ∃ v d, o = some (.ret v d) ∧ R r v
  | .inr x => ∃ d, o = some (.ex x d)
theorem def_of {io : List Nat} {n p : Nat} {fb : DS → Option Out} {l : List D} {m : Option (TO Unit Unit ρ)} {Jn J : Unit → List SP} (h : Bk (startP n l) fb m Jn J Jx R) (hp : l.length = p := by rfl) : ∀ v, retT m = some v → DRel R v (funO io p n fb (shs l)) := by
  intro v e
  subst hp
  simp only [retT, Option.bind_eq_some_iff] at e
  obtain ⟨o, e1, e2⟩ := e
  cases o with
  | ret r =>
    cases e2
    obtain ⟨out, k1, rl⟩ := h _ e1 _ (ss_start n l)
    cases out with
    | ret o => exact ⟨o, _, by unfold funO; rw [k1], rl⟩
    | _ => exact rl.elim
  | _ => cases e2
theorem defU_of [Enc ρ] {io : List Nat} {n p : Nat} {fb : DS → Option Out} {l : List D} {m : Option (TO Unit Unit ρ)} {Jn J : Unit → List SP} {d : ρ} (hd : R d (.sh .none)) (h : Bk (startP n l) fb m Jn J Jx R) (hp : l.length = p := by rfl) : ∀ v, retU d m = some v → DRel R v (funO io p n fb (shs l)) := by
  intro v e
  subst hp
  simp only [retU, Option.bind_eq_some_iff] at e
  obtain ⟨o, e1, e2⟩ := e
  obtain ⟨out, k1, rl⟩ := h _ e1 _ (ss_start n l)
  cases o with
  | ret r =>
    cases e2
    cases out with
    | ret o => exact ⟨o, _, by unfold funO; rw [k1], rl⟩
    | _ => exact rl.elim
  | nx r =>
    cases e2
    cases out with
    | nx o => exact ⟨_, _, by unfold funO; rw [k1], hd⟩
    | _ => exact rl.elim
  | _ => cases e2
theorem defX_of {io : List Nat} {n p : Nat} {fb : DS → Option Out} {l : List D} {m : Option (TO Unit Unit ρ)} {Jn J : Unit → List SP} (h : Bk (startP n l) fb m Jn J Jx R) (hp : l.length = p := by rfl) : ∀ v, retX m = some v → DRelX R v (funO io p n fb (shs l)) := by
  intro v e
  subst hp
  simp only [retX, Option.bind_eq_some_iff] at e
  obtain ⟨o, e1, e2⟩ := e
  obtain ⟨out, k1, rl⟩ := h _ e1 _ (ss_start n l)
  cases o with
  | ret r =>
    cases e2
    cases out with
    | ret o => exact ⟨o, _, by unfold funO; rw [k1], rl⟩
    | _ => exact rl.elim
  | ex r =>
    cases e2
    cases out with
    | ex y d =>
      obtain ⟨rfl, _⟩ := rl
      exact ⟨_, by unfold funO; rw [k1]⟩
    | _ => exact rl.elim
  | _ => cases e2
theorem defXU_of [Enc ρ] {io : List Nat} {n p : Nat} {fb : DS → Option Out} {l : List D} {m : Option (TO Unit Unit ρ)} {Jn J : Unit → List SP} {d : ρ} (hd : R d (.sh .none)) (h : Bk (startP n l) fb m Jn J Jx R) (hp : l.length = p := by rfl) : ∀ v, retXU d m = some v → DRelX R v (funO io p n fb (shs l)) := by
  intro v e
  subst hp
  simp only [retXU, Option.bind_eq_some_iff] at e
  obtain ⟨o, e1, e2⟩ := e
  obtain ⟨out, k1, rl⟩ := h _ e1 _ (ss_start n l)
  cases o with
  | ret r =>
    cases e2
    cases out with
    | ret o => exact ⟨o, _, by unfold funO; rw [k1], rl⟩
    | _ => exact rl.elim
  | nx r =>
    cases e2
    cases out with
    | nx o => exact ⟨_, _, by unfold funO; rw [k1], hd⟩
    | _ => exact rl.elim
  | ex r =>
    cases e2
    cases out with
    | ex y d =>
      obtain ⟨rfl, _⟩ := rl
      exact ⟨_, by unfold funO; rw [k1]⟩
    | _ => exact rl.elim
  | _ => cases e2
/-! ### exceptions -/
/-- an expression that may raise: with its ways -/
def ExX (ps : List SP) (f : DS → Option ((RV × DS) ⊕ (Str × DS))) (m : Option (τ ⊕ Str)) (Rk : τ → RV → Prop) : Prop := ∀ v, m = some v → ∀ ds, Ss ps ds → match v with
  | .inl v => ∃ r ds', f ds = some (.inl (r, ds')) ∧ Ss ps ds' ∧ Rk v r
  | .inr x => ∃ ds', f ds = some (.inr (x, ds')) ∧ Ss ps ds'
/-- where what is raised leaves -/
def bindX (m : Option (τ ⊕ Str)) (k : τ → Option (TO ν α ρ)) : Option (TO ν α ρ) := m.bind fun o => match o with
  | .inl v => k v
  | .inr x => some (.ex x)
theorem b_raise {x : Str} (l : Le ps Jx) : Bk (ν := ν) (α := α) (ρ := ρ) ps (fRaise x) (some (.ex x)) Jn J Jx R := by
  intro o e ds S
  cases e
  exact ⟨_, rfl, rfl, l.ss S⟩
theorem nn_raise {x : Str} : NoNx (fRaise x) := fun ds d h => by cases h
end
end Ty
set_option Elab.async false
set_option linter.all false
set_option maxRecDepth 100000
namespace Ty
open PySem PySem.Spec L2 Fx
/-- where nothing is raised -/
def inlO {ρ : Type} (r : ρ ⊕ Str) : Option ρ := match r with
  | .inl r => some r
  | .inr _ => none
def noX {ρ : Type} (m : Option (ρ ⊕ Str)) : Option ρ := m.bind inlO
theorem noX_of {ρ : Type} {R : ρ → OV → Prop} {m : Option (ρ ⊕ Str)} {o : Option DR} (h : ∀ v, m = some v → DRelX R v o) : ∀ v, noX m = some v → DRel R v o := by
  intro v e
  simp only [noX, Option.bind_eq_some_iff] at e
  obtain ⟨r, e1, e2⟩ := e
  cases r with
  | inl r => cases e2; exact h _ e1
  | inr x => cases e2
section
variable {ρ : Type} [Enc ρ] {ps : List SP}
theorem v_callGX {n : Nat} {g : DS → Option DR} {fr : DS → Option (List RV × DS)} {mr : Option (List D)} {m : Option (ρ ⊕ Str)} {R : ρ → OV → Prop} {Rk : ρ → RV → Prop} (hR : ∀ v o, R v o → Rk v (.ov o)) (ha : ArV ps fr mr) (hm : ∀ v, m = some v → ∃ l, mr = some l ∧ l.length = n ∧ DRelX R v (g (shs l))) : ExX ps (fCallX n g fr) m Rk := by
  intro v e ds S
  obtain ⟨l, h1, h2, h3⟩ := hm v e
  obtain ⟨rs, d1, k1, S1, q1⟩ := ha l h1 ds S
  obtain ⟨d2, k2, S2⟩ := frzs_of S1 q1
  cases v with
  | inl v =>
    obtain ⟨o, dd, h3, h4⟩ := h3
    exact ⟨.ov o, d2, by simp only [fCallX, k1, k2, bindSome]; rw [if_pos h2, h3]; rfl, S2, hR v o h4⟩
  | inr x =>
    obtain ⟨dd, h3⟩ := h3
    exact ⟨d2, by simp only [fCallX, k1, k2, bindSome]; rw [if_pos h2, h3]; rfl, S2⟩
def RkV (ps : List SP) (v : ρ) (r : RV) : Prop := kV ps (enc v) r
def RkF (v : List ρ) (r : RV) : Prop := r = .ov (.flat (v.map enc))
def RkC (v : ρ) (r : RV) : Prop := r = .ov (.sh (enc v))
theorem rkC_of (v : ρ) (o : OV) (h : RtC v o) : RkC v (.ov o) := by
  have h : o = .sh (enc v) := h
  subst h; rfl
theorem rkF_of (v : List ρ) (o : OV) (h : RtF v o) : RkF v (.ov o) := by
  have h : o = .flat (v.map enc) := h
  subst h; rfl
theorem rkV_of (v : ρ) (o : OV) (h : RtV v o) : RkV ps v (.ov o) := .inl ⟨o, rfl, h⟩
theorem v_callV0    {g : DS → Option DR} {m : Option ρ} (T : ∀ v, m = some v → DRel RtV v (g (shs [])))  : ExV ps (fCall 0 g fNil) m :=
  v_callG a_n fun v e => by
    obtain ⟨o, d, h1, h2⟩ := T v e
    exact ⟨[], rfl, rfl, o, d, h1, h2⟩
theorem v_callF0    {g : DS → Option DR} {m : Option (List ρ)} (T : ∀ v, m = some v → DRel RtF v (g (shs [])))  : ExF ps (fCall 0 g fNil) m :=
  v_callGF a_n fun v e => by
    obtain ⟨o, d, h1, h2⟩ := T v e
    have h2 : o = _ := h2
    subst h2
    exact ⟨[], rfl, rfl, d, h1⟩
theorem v_callS0  [Sca ρ]   {g : DS → Option DR} {m : Option (List ρ)} (T : ∀ v, m = some v → DRel RtF v (g (shs [])))  : ExF ps (fCall 0 g fNil) m :=
  v_callGS a_nS fun v e => by
    obtain ⟨o, d, h1, h2⟩ := T v e
    have h2 : o = _ := h2
    subst h2
    exact ⟨[], rfl, rfl, d, h1⟩
theorem v_callC0  [Sca ρ]   {g : DS → Option DR} {m : Option ρ} (T : ∀ v, m = some v → DRel RtC v (g (shs [])))  : ExC ps (fCall 0 g fNil) m :=
  v_callGC a_nS fun v e => by
    obtain ⟨o, d, h1, h2⟩ := T v e
    have h2 : o = _ := h2
    subst h2
    exact ⟨[], rfl, rfl, d, h1⟩
theorem v_callT0    {g : DS → Option DR} {m : Option ρ} (T : ∀ v, m = some v → DRel RtC v (g (shs [])))  : ExV ps (fCall 0 g fNil) m :=
  v_callG a_n fun v e => by
    obtain ⟨o, d, h1, h2⟩ := T v e
    have h2 : o = _ := h2
    subst h2
    exact ⟨[], rfl, rfl, _, d, h1, rfl⟩
theorem v_callXV0    {g : DS → Option DR} {m : Option (ρ ⊕ Str)} (T : ∀ v, m = some v → DRelX RtV v (g (shs [])))  : ExX ps (fCallX 0 g fNil) m (RkV ps) :=
  v_callGX rkV_of a_n fun v e => by
    exact ⟨[], rfl, rfl, T v e⟩
theorem v_callXC0    {g : DS → Option DR} {m : Option (ρ ⊕ Str)} (T : ∀ v, m = some v → DRelX RtC v (g (shs [])))  : ExX ps (fCallX 0 g fNil) m RkC :=
  v_callGX rkC_of a_n fun v e => by
    exact ⟨[], rfl, rfl, T v e⟩
theorem v_callXF0    {g : DS → Option DR} {m : Option (List ρ ⊕ Str)} (T : ∀ v, m = some v → DRelX RtF v (g (shs [])))  : ExX ps (fCallX 0 g fNil) m RkF :=
  v_callGX rkF_of a_n fun v e => by
    exact ⟨[], rfl, rfl, T v e⟩
theorem v_callV1 {Aa : Type} [Enc Aa]  {fa : DS → Option (RV × DS)} {ma : Option Aa} {g : DS → Option DR} {m : Aa → Option ρ} (T : ∀ a v, m a = some v → DRel RtV v (g (shs [enc a]))) (ha : ExV ps fa ma) : ExV ps (fCall 1 g (fCons fa fNil)) (ma.bind fun a => m a) :=
  v_callG (a_c ha a_n) fun v e => by
    simp only [Option.bind_eq_some_iff] at e
    obtain ⟨a, ea, e⟩ := e
    obtain ⟨o, d, h1, h2⟩ := T a v e
    exact ⟨[enc a], by rw [ea]; rfl, rfl, o, d, h1, h2⟩
theorem v_callF1 {Aa : Type} [Enc Aa]  {fa : DS → Option (RV × DS)} {ma : Option Aa} {g : DS → Option DR} {m : Aa → Option (List ρ)} (T : ∀ a v, m a = some v → DRel RtF v (g (shs [enc a]))) (ha : ExV ps fa ma) : ExF ps (fCall 1 g (fCons fa fNil)) (ma.bind fun a => m a) :=
  v_callGF (a_c ha a_n) fun v e => by
    simp only [Option.bind_eq_some_iff] at e
    obtain ⟨a, ea, e⟩ := e
    obtain ⟨o, d, h1, h2⟩ := T a v e
    have h2 : o = _ := h2
    subst h2
    exact ⟨[enc a], by rw [ea]; rfl, rfl, d, h1⟩
theorem v_callS1 {Aa : Type} [Enc Aa] [Sca ρ]  {fa : DS → Option (RV × DS)} {ma : Option Aa} {g : DS → Option DR} {m : Aa → Option (List ρ)} (T : ∀ a v, m a = some v → DRel RtF v (g (shs [enc a]))) (ha : ExS ps fa ma) : ExF ps (fCall 1 g (fCons fa fNil)) (ma.bind fun a => m a) :=
  v_callGS (a_cS ha a_nS) fun v e => by
    simp only [Option.bind_eq_some_iff] at e
    obtain ⟨a, ea, e⟩ := e
    obtain ⟨o, d, h1, h2⟩ := T a v e
    have h2 : o = _ := h2
    subst h2
    exact ⟨[enc a], by rw [ea]; rfl, rfl, d, h1⟩
theorem v_callC1 {Aa : Type} [Enc Aa] [Sca ρ]  {fa : DS → Option (RV × DS)} {ma : Option Aa} {g : DS → Option DR} {m : Aa → Option ρ} (T : ∀ a v, m a = some v → DRel RtC v (g (shs [enc a]))) (ha : ExS ps fa ma) : ExC ps (fCall 1 g (fCons fa fNil)) (ma.bind fun a => m a) :=
  v_callGC (a_cS ha a_nS) fun v e => by
    simp only [Option.bind_eq_some_iff] at e
    obtain ⟨a, ea, e⟩ := e
    obtain ⟨o, d, h1, h2⟩ := T a v e
    have h2 : o = _ := h2
    subst h2
    exact ⟨[enc a], by rw [ea]; rfl, rfl, d, h1⟩
theorem v_callT1 {Aa : Type} [Enc Aa]  {fa : DS → Option (RV × DS)} {ma : Option Aa} {g : DS → Option DR} {m : Aa → Option ρ} (T : ∀ a v, m a = some v → DRel RtC v (g (shs [enc a]))) (ha : ExV ps fa ma) : ExV ps (fCall 1 g (fCons fa fNil)) (ma.bind fun a => m a) :=
  v_callG (a_c ha a_n) fun v e => by
    simp only [Option.bind_eq_some_iff] at e
    obtain ⟨a, ea, e⟩ := e
    obtain ⟨o, d, h1, h2⟩ := T a v e
    have h2 : o = _ := h2
    subst h2
    exact ⟨[enc a], by rw [ea]; rfl, rfl, _, d, h1, rfl⟩
theorem v_callXV1 {Aa : Type} [Enc Aa]  {fa : DS → Option (RV × DS)} {ma : Option Aa} {g : DS → Option DR} {m : Aa → Option (ρ ⊕ Str)} (T : ∀ a v, m a = some v → DRelX RtV v (g (shs [enc a]))) (ha : ExV ps fa ma) : ExX ps (fCallX 1 g (fCons fa fNil)) (ma.bind fun a => m a) (RkV ps) :=
  v_callGX rkV_of (a_c ha a_n) fun v e => by
    simp only [Option.bind_eq_some_iff] at e
    obtain ⟨a, ea, e⟩ := e
    exact ⟨[enc a], by rw [ea]; rfl, rfl, T a v e⟩
theorem v_callXC1 {Aa : Type} [Enc Aa]  {fa : DS → Option (RV × DS)} {ma : Option Aa} {g : DS → Option DR} {m : Aa → Option (ρ ⊕ Str)} (T : ∀ a v, m a = some v → DRelX RtC v (g (shs [enc a]))) (ha : ExV ps fa ma) : ExX ps (fCallX 1 g (fCons fa fNil)) (ma.bind fun a => m a) RkC :=
  v_callGX rkC_of (a_c ha a_n) fun v e => by
    simp only [Option.bind_eq_some_iff] at e
    obtain ⟨a, ea, e⟩ := e
    exact ⟨[enc a], by rw [ea]; rfl, rfl, T a v e⟩
theorem v_callXF1 {Aa : Type} [Enc Aa]  {fa : DS → Option (RV × DS)} {ma : Option Aa} {g : DS → Option DR} {m : Aa → Option (List ρ ⊕ Str)} (T : ∀ a v, m a = some v → DRelX RtF v (g (shs [enc a]))) (ha : ExV ps fa ma) : ExX ps (fCallX 1 g (fCons fa fNil)) (ma.bind fun a => m a) RkF :=
  v_callGX rkF_of (a_c ha a_n) fun v e => by
    simp only [Option.bind_eq_some_iff] at e
    obtain ⟨a, ea, e⟩ := e
    exact ⟨[enc a], by rw [ea]; rfl, rfl, T a v e⟩
theorem v_callV2 {Aa Ab : Type} [Enc Aa] [Enc Ab]  {fa fb : DS → Option (RV × DS)} {ma : Option Aa} {mb : Option Ab} {g : DS → Option DR} {m : Aa → Ab → Option ρ} (T : ∀ a b v, m a b = some v → DRel RtV v (g (shs [enc a, enc b]))) (ha : ExV ps fa ma) (hb : ExV ps fb mb) : ExV ps (fCall 2 g (fCons fa (fCons fb fNil))) (ma.bind fun a => (mb.bind fun b => m a b)) :=
  v_callG (a_c ha (a_c hb a_n)) fun v e => by
    simp only [Option.bind_eq_some_iff] at e
    obtain ⟨a, ea, b, eb, e⟩ := e
    obtain ⟨o, d, h1, h2⟩ := T a b v e
    exact ⟨[enc a, enc b], by rw [ea, eb]; rfl, rfl, o, d, h1, h2⟩
theorem v_callF2 {Aa Ab : Type} [Enc Aa] [Enc Ab]  {fa fb : DS → Option (RV × DS)} {ma : Option Aa} {mb : Option Ab} {g : DS → Option DR} {m : Aa → Ab → Option (List ρ)} (T : ∀ a b v, m a b = some v → DRel RtF v (g (shs [enc a, enc b]))) (ha : ExV ps fa ma) (hb : ExV ps fb mb) : ExF ps (fCall 2 g (fCons fa (fCons fb fNil))) (ma.bind fun a => (mb.bind fun b => m a b)) :=
  v_callGF (a_c ha (a_c hb a_n)) fun v e => by
    simp only [Option.bind_eq_some_iff] at e
    obtain ⟨a, ea, b, eb, e⟩ := e
    obtain ⟨o, d, h1, h2⟩ := T a b v e
    have h2 : o = _ := h2
    subst h2
    exact ⟨[enc a, enc b], by rw [ea, eb]; rfl, rfl, d, h1⟩
theorem v_callS2 {Aa Ab : Type} [Enc Aa] [Enc Ab] [Sca ρ]  {fa fb : DS → Option (RV × DS)} {ma : Option Aa} {mb : Option Ab} {g : DS → Option DR} {m : Aa → Ab → Option (List ρ)} (T : ∀ a b v, m a b = some v → DRel RtF v (g (shs [enc a, enc b]))) (ha : ExS ps fa ma) (hb : ExS ps fb mb) : ExF ps (fCall 2 g (fCons fa (fCons fb fNil))) (ma.bind fun a => (mb.bind fun b => m a b)) :=
  v_callGS (a_cS ha (a_cS hb a_nS)) fun v e => by
    simp only [Option.bind_eq_some_iff] at e
    obtain ⟨a, ea, b, eb, e⟩ := e
    obtain ⟨o, d, h1, h2⟩ := T a b v e
    have h2 : o = _ := h2
    subst h2
    exact ⟨[enc a, enc b], by rw [ea, eb]; rfl, rfl, d, h1⟩
theorem v_callC2 {Aa Ab : Type} [Enc Aa] [Enc Ab] [Sca ρ]  {fa fb : DS → Option (RV × DS)} {ma : Option Aa} {mb : Option Ab} {g : DS → Option DR} {m : Aa → Ab → Option ρ} (T : ∀ a b v, m a b = some v → DRel RtC v (g (shs [enc a, enc b]))) (ha : ExS ps fa ma) (hb : ExS ps fb mb) : ExC ps (fCall 2 g (fCons fa (fCons fb fNil))) (ma.bind fun a => (mb.bind fun b => m a b)) :=
  v_callGC (a_cS ha (a_cS hb a_nS)) fun v e => by
    simp only [Option.bind_eq_some_iff] at e
    obtain ⟨a, ea, b, eb, e⟩ := e
    obtain ⟨o, d, h1, h2⟩ := T a b v e
    have h2 : o = _ := h2
    subst h2
    exact ⟨[enc a, enc b], by rw [ea, eb]; rfl, rfl, d, h1⟩
theorem v_callT2 {Aa Ab : Type} [Enc Aa] [Enc Ab]  {fa fb : DS → Option (RV × DS)} {ma : Option Aa} {mb : Option Ab} {g : DS → Option DR} {m : Aa → Ab → Option ρ} (T : ∀ a b v, m a b = some v → DRel RtC v (g (shs [enc a, enc b]))) (ha : ExV ps fa ma) (hb : ExV ps fb mb) : ExV ps (fCall 2 g (fCons fa (fCons fb fNil))) (ma.bind fun a => (mb.bind fun b => m a b)) :=
  v_callG (a_c ha (a_c hb a_n)) fun v e => by
    simp only [Option.bind_eq_some_iff] at e
    obtain ⟨a, ea, b, eb, e⟩ := e
    obtain ⟨o, d, h1, h2⟩ := T a b v e
    have h2 : o = _ := h2
    subst h2
    exact ⟨[enc a, enc b], by rw [ea, eb]; rfl, rfl, _, d, h1, rfl⟩
theorem v_callXV2 {Aa Ab : Type} [Enc Aa] [Enc Ab]  {fa fb : DS → Option (RV × DS)} {ma : Option Aa} {mb : Option Ab} {g : DS → Option DR} {m : Aa → Ab → Option (ρ ⊕ Str)} (T : ∀ a b v, m a b = some v → DRelX RtV v (g (shs [enc a, enc b]))) (ha : ExV ps fa ma) (hb : ExV ps fb mb) : ExX ps (fCallX 2 g (fCons fa (fCons fb fNil))) (ma.bind fun a => (mb.bind fun b => m a b)) (RkV ps) :=
  v_callGX rkV_of (a_c ha (a_c hb a_n)) fun v e => by
    simp only [Option.bind_eq_some_iff] at e
    obtain ⟨a, ea, b, eb, e⟩ := e
    exact ⟨[enc a, enc b], by rw [ea, eb]; rfl, rfl, T a b v e⟩
theorem v_callXC2 {Aa Ab : Type} [Enc Aa] [Enc Ab]  {fa fb : DS → Option (RV × DS)} {ma : Option Aa} {mb : Option Ab} {g : DS → Option DR} {m : Aa → Ab → Option (ρ ⊕ Str)} (T : ∀ a b v, m a b = some v → DRelX RtC v (g (shs [enc a, enc b]))) (ha : ExV ps fa ma) (hb : ExV ps fb mb) : ExX ps (fCallX 2 g (fCons fa (fCons fb fNil))) (ma.bind fun a => (mb.bind fun b => m a b)) RkC :=
  v_callGX rkC_of (a_c ha (a_c hb a_n)) fun v e => by
    simp only [Option.bind_eq_some_iff] at e
    obtain ⟨a, ea, b, eb, e⟩ := e
    exact ⟨[enc a, enc b], by rw [ea, eb]; rfl, rfl, T a b v e⟩
theorem v_callXF2 {Aa Ab : Type} [Enc Aa] [Enc Ab]  {fa fb : DS → Option (RV × DS)} {ma : Option Aa} {mb : Option Ab} {g : DS → Option DR} {m : Aa → Ab → Option (List ρ ⊕ Str)} (T : ∀ a b v, m a b = some v → DRelX RtF v (g (shs [enc a, enc b]))) (ha : ExV ps fa ma) (hb : ExV ps fb mb) : ExX ps (fCallX 2 g (fCons fa (fCons fb fNil))) (ma.bind fun a => (mb.bind fun b => m a b)) RkF :=
  v_callGX rkF_of (a_c ha (a_c hb a_n)) fun v e => by
    simp only [Option.bind_eq_some_iff] at e
    obtain ⟨a, ea, b, eb, e⟩ := e
    exact ⟨[enc a, enc b], by rw [ea, eb]; rfl, rfl, T a b v e⟩
theorem v_callV3 {Aa Ab Ac : Type} [Enc Aa] [Enc Ab] [Enc Ac]  {fa fb fc : DS → Option (RV × DS)} {ma : Option Aa} {mb : Option Ab} {mc : Option Ac} {g : DS → Option DR} {m : Aa → Ab → Ac → Option ρ} (T : ∀ a b c v, m a b c = some v → DRel RtV v (g (shs [enc a, enc b, enc c]))) (ha : ExV ps fa ma) (hb : ExV ps fb mb) (hc : ExV ps fc mc) : ExV ps (fCall 3 g (fCons fa (fCons fb (fCons fc fNil)))) (ma.bind fun a => (mb.bind fun b => (mc.bind fun c => m a b c))) :=
  v_callG (a_c ha (a_c hb (a_c hc a_n))) fun v e => by
    simp only [Option.bind_eq_some_iff] at e
    obtain ⟨a, ea, b, eb, c, ec, e⟩ := e
    obtain ⟨o, d, h1, h2⟩ := T a b c v e
    exact ⟨[enc a, enc b, enc c], by rw [ea, eb, ec]; rfl, rfl, o, d, h1, h2⟩
theorem v_callF3 {Aa Ab Ac : Type} [Enc Aa] [Enc Ab] [Enc Ac]  {fa fb fc : DS → Option (RV × DS)} {ma : Option Aa} {mb : Option Ab} {mc : Option Ac} {g : DS → Option DR} {m : Aa → Ab → Ac → Option (List ρ)} (T : ∀ a b c v, m a b c = some v → DRel RtF v (g (shs [enc a, enc b, enc c]))) (ha : ExV ps fa ma) (hb : ExV ps fb mb) (hc : ExV ps fc mc) : ExF ps (fCall 3 g (fCons fa (fCons fb (fCons fc fNil)))) (ma.bind fun a => (mb.bind fun b => (mc.bind fun c => m a b c))) :=
  v_callGF (a_c ha (a_c hb (a_c hc a_n))) fun v e => by
    simp only [Option.bind_eq_some_iff] at e
    obtain ⟨a, ea, b, eb, c, ec, e⟩ := e
    obtain ⟨o, d, h1, h2⟩ := T a b c v e
    have h2 : o = _ := h2
    subst h2
    exact ⟨[enc a, enc b, enc c], by rw [ea, eb, ec]; rfl, rfl, d, h1⟩
theorem v_callS3 {Aa Ab Ac : Type} [Enc Aa] [Enc Ab] [Enc Ac] [Sca ρ]  {fa fb fc : DS → Option (RV × DS)} {ma : Option Aa} {mb : Option Ab} {mc : Option Ac} {g : DS → Option DR} {m : Aa → Ab → Ac → Option (List ρ)} (T : ∀ a b c v, m a b c = some v → DRel RtF v (g (shs [enc a, enc b, enc c]))) (ha : ExS ps fa ma) (hb : ExS ps fb mb) (hc : ExS ps fc mc) : ExF ps (fCall 3 g (fCons fa (fCons fb (fCons fc fNil)))) (ma.bind fun a => (mb.bind fun b => (mc.bind fun c => m a b c))) :=
  v_callGS (a_cS ha (a_cS hb (a_cS hc a_nS))) fun v e => by
    simp only [Option.bind_eq_some_iff] at e
    obtain ⟨a, ea, b, eb, c, ec, e⟩ := e
    obtain ⟨o, d, h1, h2⟩ := T a b c v e
    have h2 : o = _ := h2
    subst h2
    exact ⟨[enc a, enc b, enc c], by rw [ea, eb, ec]; rfl, rfl, d, h1⟩
theorem v_callC3 {Aa Ab Ac : Type} [Enc Aa] [Enc Ab] [Enc Ac] [Sca ρ]  {fa fb fc : DS → Option (RV × DS)} {ma : Option Aa} {mb : Option Ab} {mc : Option Ac} {g : DS → Option DR} {m : Aa → Ab → Ac → Option ρ} (T : ∀ a b c v, m a b c = some v → DRel RtC v (g (shs [enc a, enc b, enc c]))) (ha : ExS ps fa ma) (hb : ExS ps fb mb) (hc : ExS ps fc mc) : ExC ps (fCall 3 g (fCons fa (fCons fb (fCons fc fNil)))) (ma.bind fun a => (mb.bind fun b => (mc.bind fun c => m a b c))) :=
  v_callGC (a_cS ha (a_cS hb (a_cS hc a_nS))) fun v e => by
    simp only [Option.bind_eq_some_iff] at e
    obtain ⟨a, ea, b, eb, c, ec, e⟩ := e
    obtain ⟨o, d, h1, h2⟩ := T a b c v e
    have h2 : o = _ := h2
    subst h2
    exact ⟨[enc a, enc b, enc c], by rw [ea, eb, ec]; rfl, rfl, d, h1⟩
theorem v_callT3 {Aa Ab Ac : Type} [Enc Aa] [Enc Ab] [Enc Ac]  {fa fb fc : DS → Option (RV × DS)} {ma : Option Aa} {mb : Option Ab} {mc : Option Ac} {g : DS → Option DR} {m : Aa → Ab → Ac → Option ρ} (T : ∀ a b c v, m a b c = some v → DRel RtC v (g (shs [enc a, enc b, enc c]))) (ha : ExV ps fa ma) (hb : ExV ps fb mb) (hc : ExV ps fc mc) : ExV ps (fCall 3 g (fCons fa (fCons fb (fCons fc fNil)))) (ma.bind fun a => (mb.bind fun b => (mc.bind fun c => m a b c))) :=
  v_callG (a_c ha (a_c hb (a_c hc a_n))) fun v e => by
    simp only [Option.bind_eq_some_iff] at e
    obtain ⟨a, ea, b, eb, c, ec, e⟩ := e
    obtain ⟨o, d, h1, h2⟩ := T a b c v e
    have h2 : o = _ := h2
    subst h2
    exact ⟨[enc a, enc b, enc c], by rw [ea, eb, ec]; rfl, rfl, _, d, h1, rfl⟩
theorem v_callXV3 {Aa Ab Ac : Type} [Enc Aa] [Enc Ab] [Enc Ac]  {fa fb fc : DS → Option (RV × DS)} {ma : Option Aa} {mb : Option Ab} {mc : Option Ac} {g : DS → Option DR} {m : Aa → Ab → Ac → Option (ρ ⊕ Str)} (T : ∀ a b c v, m a b c = some v → DRelX RtV v (g (shs [enc a, enc b, enc c]))) (ha : ExV ps fa ma) (hb : ExV ps fb mb) (hc : ExV ps fc mc) : ExX ps (fCallX 3 g (fCons fa (fCons fb (fCons fc fNil)))) (ma.bind fun a => (mb.bind fun b => (mc.bind fun c => m a b c))) (RkV ps) :=
  v_callGX rkV_of (a_c ha (a_c hb (a_c hc a_n))) fun v e => by
    simp only [Option.bind_eq_some_iff] at e
    obtain ⟨a, ea, b, eb, c, ec, e⟩ := e
    exact ⟨[enc a, enc b, enc c], by rw [ea, eb, ec]; rfl, rfl, T a b c v e⟩
theorem v_callXC3 {Aa Ab Ac : Type} [Enc Aa] [Enc Ab] [Enc Ac]  {fa fb fc : DS → Option (RV × DS)} {ma : Option Aa} {mb : Option Ab} {mc : Option Ac} {g : DS → Option DR} {m : Aa → Ab → Ac → Option (ρ ⊕ Str)} (T : ∀ a b c v, m a b c = some v → DRelX RtC v (g (shs [enc a, enc b, enc c]))) (ha : ExV ps fa ma) (hb : ExV ps fb mb) (hc : ExV ps fc mc) : ExX ps (fCallX 3 g (fCons fa (fCons fb (fCons fc fNil)))) (ma.bind fun a => (mb.bind fun b => (mc.bind fun c => m a b c))) RkC :=
  v_callGX rkC_of (a_c ha (a_c hb (a_c hc a_n))) fun v e => by
    simp only [Option.bind_eq_some_iff] at e
    obtain ⟨a, ea, b, eb, c, ec, e⟩ := e
    exact ⟨[enc a, enc b, enc c], by rw [ea, eb, ec]; rfl, rfl, T a b c v e⟩
theorem v_callXF3 {Aa Ab Ac : Type} [Enc Aa] [Enc Ab] [Enc Ac]  {fa fb fc : DS → Option (RV × DS)} {ma : Option Aa} {mb : Option Ab} {mc : Option Ac} {g : DS → Option DR} {m : Aa → Ab → Ac → Option (List ρ ⊕ Str)} (T : ∀ a b c v, m a b c = some v → DRelX RtF v (g (shs [enc a, enc b, enc c]))) (ha : ExV ps fa ma) (hb : ExV ps fb mb) (hc : ExV ps fc mc) : ExX ps (fCallX 3 g (fCons fa (fCons fb (fCons fc fNil)))) (ma.bind fun a => (mb.bind fun b => (mc.bind fun c => m a b c))) RkF :=
  v_callGX rkF_of (a_c ha (a_c hb (a_c hc a_n))) fun v e => by
    simp only [Option.bind_eq_some_iff] at e
    obtain ⟨a, ea, b, eb, c, ec, e⟩ := e
    exact ⟨[enc a, enc b, enc c], by rw [ea, eb, ec]; rfl, rfl, T a b c v e⟩
theorem v_callV4 {Aa Ab Ac Ax : Type} [Enc Aa] [Enc Ab] [Enc Ac] [Enc Ax]  {fa fb fc fx : DS → Option (RV × DS)} {ma : Option Aa} {mb : Option Ab} {mc : Option Ac} {mx : Option Ax} {g : DS → Option DR} {m : Aa → Ab → Ac → Ax → Option ρ} (T : ∀ a b c x v, m a b c x = some v → DRel RtV v (g (shs [enc a, enc b, enc c, enc x]))) (ha : ExV ps fa ma) (hb : ExV ps fb mb) (hc : ExV ps fc mc) (hx : ExV ps fx mx) : ExV ps (fCall 4 g (fCons fa (fCons fb (fCons fc (fCons fx fNil))))) (ma.bind fun a => (mb.bind fun b => (mc.bind fun c => (mx.bind fun x => m a b c x)))) :=
  v_callG (a_c ha (a_c hb (a_c hc (a_c hx a_n)))) fun v e => by
    simp only [Option.bind_eq_some_iff] at e
    obtain ⟨a, ea, b, eb, c, ec, x, ex, e⟩ := e
    obtain ⟨o, d, h1, h2⟩ := T a b c x v e
    exact ⟨[enc a, enc b, enc c, enc x], by rw [ea, eb, ec, ex]; rfl, rfl, o, d, h1, h2⟩
theorem v_callF4 {Aa Ab Ac Ax : Type} [Enc Aa] [Enc Ab] [Enc Ac] [Enc Ax]  {fa fb fc fx : DS → Option (RV × DS)} {ma : Option Aa} {mb : Option Ab} {mc : Option Ac} {mx : Option Ax} {g : DS → Option DR} {m : Aa → Ab → Ac → Ax → Option (List ρ)} (T : ∀ a b c x v, m a b c x = some v → DRel RtF v (g (shs [enc a, enc b, enc c, enc x]))) (ha : ExV ps fa ma) (hb : ExV ps fb mb) (hc : ExV ps fc mc) (hx : ExV ps fx mx) : ExF ps (fCall 4 g (fCons fa (fCons fb (fCons fc (fCons fx fNil))))) (ma.bind fun a => (mb.bind fun b => (mc.bind fun c => (mx.bind fun x => m a b c x)))) :=
  v_callGF (a_c ha (a_c hb (a_c hc (a_c hx a_n)))) fun v e => by
    simp only [Option.bind_eq_some_iff] at e
    obtain ⟨a, ea, b, eb, c, ec, x, ex, e⟩ := e
    obtain ⟨o, d, h1, h2⟩ := T a b c x v e
    have h2 : o = _ := h2
    subst h2
    exact ⟨[enc a, enc b, enc c, enc x], by rw [ea, eb, ec, ex]; rfl, rfl, d, h1⟩
theorem v_callS4 {Aa Ab Ac Ax : Type} [Enc Aa] [Enc Ab] [Enc Ac] [Enc Ax] [Sca ρ]  {fa fb fc fx : DS → Option (RV × DS)} {ma : Option Aa} {mb : Option Ab} {mc : Option Ac} {mx : Option Ax} {g : DS → Option DR} {m : Aa → Ab → Ac → Ax → Option (List ρ)} (T : ∀ a b c x v, m a b c x = some v → DRel RtF v (g (shs [enc a, enc b, enc c, enc x]))) (ha : ExS ps fa ma) (hb : ExS ps fb mb) (hc : ExS ps fc mc) (hx : ExS ps fx mx) : ExF ps (fCall 4 g (fCons fa (fCons fb (fCons fc (fCons fx fNil))))) (ma.bind fun a => (mb.bind fun b => (mc.bind fun c => (mx.bind fun x => m a b c x)))) :=
  v_callGS (a_cS ha (a_cS hb (a_cS hc (a_cS hx a_nS)))) fun v e => by
    simp only [Option.bind_eq_some_iff] at e
    obtain ⟨a, ea, b, eb, c, ec, x, ex, e⟩ := e
    obtain ⟨o, d, h1, h2⟩ := T a b c x v e
    have h2 : o = _ := h2
    subst h2
    exact ⟨[enc a, enc b, enc c, enc x], by rw [ea, eb, ec, ex]; rfl, rfl, d, h1⟩
theorem v_callC4 {Aa Ab Ac Ax : Type} [Enc Aa] [Enc Ab] [Enc Ac] [Enc Ax] [Sca ρ]  {fa fb fc fx : DS → Option (RV × DS)} {ma : Option Aa} {mb : Option Ab} {mc : Option Ac} {mx : Option Ax} {g : DS → Option DR} {m : Aa → Ab → Ac → Ax → Option ρ} (T : ∀ a b c x v, m a b c x = some v → DRel RtC v (g (shs [enc a, enc b, enc c, enc x]))) (ha : ExS ps fa ma) (hb : ExS ps fb mb) (hc : ExS ps fc mc) (hx : ExS ps fx mx) : ExC ps (fCall 4 g (fCons fa (fCons fb (fCons fc (fCons fx fNil))))) (ma.bind fun a => (mb.bind fun b => (mc.bind fun c => (mx.bind fun x => m a b c x)))) :=
  v_callGC (a_cS ha (a_cS hb (a_cS hc (a_cS hx a_nS)))) fun v e => by
    simp only [Option.bind_eq_some_iff] at e
    obtain ⟨a, ea, b, eb, c, ec, x, ex, e⟩ := e
    obtain ⟨o, d, h1, h2⟩ := T a b c x v e
    have h2 : o = _ := h2
    subst h2
    exact ⟨[enc a, enc b, enc c, enc x], by rw [ea, eb, ec, ex]; rfl, rfl, d, h1⟩
theorem v_callT4 {Aa Ab Ac Ax : Type} [Enc Aa] [Enc Ab] [Enc Ac] [Enc Ax]  {fa fb fc fx : DS → Option (RV × DS)} {ma : Option Aa} {mb : Option Ab} {mc : Option Ac} {mx : Option Ax} {g : DS → Option DR} {m : Aa → Ab → Ac → Ax → Option ρ} (T : ∀ a b c x v, m a b c x = some v → DRel RtC v (g (shs [enc a, enc b, enc c, enc x]))) (ha : ExV ps fa ma) (hb : ExV ps fb mb) (hc : ExV ps fc mc) (hx : ExV ps fx mx) : ExV ps (fCall 4 g (fCons fa (fCons fb (fCons fc (fCons fx fNil))))) (ma.bind fun a => (mb.bind fun b => (mc.bind fun c => (mx.bind fun x => m a b c x)))) :=
  v_callG (a_c ha (a_c hb (a_c hc (a_c hx a_n)))) fun v e => by
    simp only [Option.bind_eq_some_iff] at e
    obtain ⟨a, ea, b, eb, c, ec, x, ex, e⟩ := e
    obtain ⟨o, d, h1, h2⟩ := T a b c x v e
    have h2 : o = _ := h2
    subst h2
    exact ⟨[enc a, enc b, enc c, enc x], by rw [ea, eb, ec, ex]; rfl, rfl, _, d, h1, rfl⟩
theorem v_callXV4 {Aa Ab Ac Ax : Type} [Enc Aa] [Enc Ab] [Enc Ac] [Enc Ax]  {fa fb fc fx : DS → Option (RV × DS)} {ma : Option Aa} {mb : Option Ab} {mc : Option Ac} {mx : Option Ax} {g : DS → Option DR} {m : Aa → Ab → Ac → Ax → Option (ρ ⊕ Str)} (T : ∀ a b c x v, m a b c x = some v → DRelX RtV v (g (shs [enc a, enc b, enc c, enc x]))) (ha : ExV ps fa ma) (hb : ExV ps fb mb) (hc : ExV ps fc mc) (hx : ExV ps fx mx) : ExX ps (fCallX 4 g (fCons fa (fCons fb (fCons fc (fCons fx fNil))))) (ma.bind fun a => (mb.bind fun b => (mc.bind fun c => (mx.bind fun x => m a b c x)))) (RkV ps) :=
  v_callGX rkV_of (a_c ha (a_c hb (a_c hc (a_c hx a_n)))) fun v e => by
    simp only [Option.bind_eq_some_iff] at e
    obtain ⟨a, ea, b, eb, c, ec, x, ex, e⟩ := e
    exact ⟨[enc a, enc b, enc c, enc x], by rw [ea, eb, ec, ex]; rfl, rfl, T a b c x v e⟩
theorem v_callXC4 {Aa Ab Ac Ax : Type} [Enc Aa] [Enc Ab] [Enc Ac] [Enc Ax]  {fa fb fc fx : DS → Option (RV × DS)} {ma : Option Aa} {mb : Option Ab} {mc : Option Ac} {mx : Option Ax} {g : DS → Option DR} {m : Aa → Ab → Ac → Ax → Option (ρ ⊕ Str)} (T : ∀ a b c x v, m a b c x = some v → DRelX RtC v (g (shs [enc a, enc b, enc c, enc x]))) (ha : ExV ps fa ma) (hb : ExV ps fb mb) (hc : ExV ps fc mc) (hx : ExV ps fx mx) : ExX ps (fCallX 4 g (fCons fa (fCons fb (fCons fc (fCons fx fNil))))) (ma.bind fun a => (mb.bind fun b => (mc.bind fun c => (mx.bind fun x => m a b c x)))) RkC :=
  v_callGX rkC_of (a_c ha (a_c hb (a_c hc (a_c hx a_n)))) fun v e => by
    simp only [Option.bind_eq_some_iff] at e
    obtain ⟨a, ea, b, eb, c, ec, x, ex, e⟩ := e
    exact ⟨[enc a, enc b, enc c, enc x], by rw [ea, eb, ec, ex]; rfl, rfl, T a b c x v e⟩
theorem v_callXF4 {Aa Ab Ac Ax : Type} [Enc Aa] [Enc Ab] [Enc Ac] [Enc Ax]  {fa fb fc fx : DS → Option (RV × DS)} {ma : Option Aa} {mb : Option Ab} {mc : Option Ac} {mx : Option Ax} {g : DS → Option DR} {m : Aa → Ab → Ac → Ax → Option (List ρ ⊕ Str)} (T : ∀ a b c x v, m a b c x = some v → DRelX RtF v (g (shs [enc a, enc b, enc c, enc x]))) (ha : ExV ps fa ma) (hb : ExV ps fb mb) (hc : ExV ps fc mc) (hx : ExV ps fx mx) : ExX ps (fCallX 4 g (fCons fa (fCons fb (fCons fc (fCons fx fNil))))) (ma.bind fun a => (mb.bind fun b => (mc.bind fun c => (mx.bind fun x => m a b c x)))) RkF :=
  v_callGX rkF_of (a_c ha (a_c hb (a_c hc (a_c hx a_n)))) fun v e => by
    simp only [Option.bind_eq_some_iff] at e
    obtain ⟨a, ea, b, eb, c, ec, x, ex, e⟩ := e
    exact ⟨[enc a, enc b, enc c, enc x], by rw [ea, eb, ec, ex]; rfl, rfl, T a b c x v e⟩
theorem v_callV5 {Aa Ab Ac Ax Ay : Type} [Enc Aa] [Enc Ab] [Enc Ac] [Enc Ax] [Enc Ay]  {fa fb fc fx fy : DS → Option (RV × DS)} {ma : Option Aa} {mb : Option Ab} {mc : Option Ac} {mx : Option Ax} {my : Option Ay} {g : DS → Option DR} {m : Aa → Ab → Ac → Ax → Ay → Option ρ} (T : ∀ a b c x y v, m a b c x y = some v → DRel RtV v (g (shs [enc a, enc b, enc c, enc x, enc y]))) (ha : ExV ps fa ma) (hb : ExV ps fb mb) (hc : ExV ps fc mc) (hx : ExV ps fx mx) (hy : ExV ps fy my) : ExV ps (fCall 5 g (fCons fa (fCons fb (fCons fc (fCons fx (fCons fy fNil)))))) (ma.bind fun a => (mb.bind fun b => (mc.bind fun c => (mx.bind fun x => (my.bind fun y => m a b c x y))))) :=
  v_callG (a_c ha (a_c hb (a_c hc (a_c hx (a_c hy a_n))))) fun v e => by
    simp only [Option.bind_eq_some_iff] at e
    obtain ⟨a, ea, b, eb, c, ec, x, ex, y, ey, e⟩ := e
    obtain ⟨o, d, h1, h2⟩ := T a b c x y v e
    exact ⟨[enc a, enc b, enc c, enc x, enc y], by rw [ea, eb, ec, ex, ey]; rfl, rfl, o, d, h1, h2⟩
theorem v_callF5 {Aa Ab Ac Ax Ay : Type} [Enc Aa] [Enc Ab] [Enc Ac] [Enc Ax] [Enc Ay]  {fa fb fc fx fy : DS → Option (RV × DS)} {ma : Option Aa} {mb : Option Ab} {mc : Option Ac} {mx : Option Ax} {my : Option Ay} {g : DS → Option DR} {m : Aa → Ab → Ac → Ax → Ay → Option (List ρ)} (T : ∀ a b c x y v, m a b c x y = some v → DRel RtF v (g (shs [enc a, enc b, enc c, enc x, enc y]))) (ha : ExV ps fa ma) (hb : ExV ps fb mb) (hc : ExV ps fc mc) (hx : ExV ps fx mx) (hy : ExV ps fy my) : ExF ps (fCall 5 g (fCons fa (fCons fb (fCons fc (fCons fx (fCons fy fNil)))))) (ma.bind fun a => (mb.bind fun b => (mc.bind fun c => (mx.bind fun x => (my.bind fun y => m a b c x y))))) :=
  v_callGF (a_c ha (a_c hb (a_c hc (a_c hx (a_c hy a_n))))) fun v e => by
    simp only [Option.bind_eq_some_iff] at e
    obtain ⟨a, ea, b, eb, c, ec, x, ex, y, ey, e⟩ := e
    obtain ⟨o, d, h1, h2⟩ := T a b c x y v e
    have h2 : o = _ := h2
    subst h2
    exact ⟨[enc a, enc b, enc c, enc x, enc y], by rw [ea, eb, ec, ex, ey]; rfl, rfl, d, h1⟩
theorem v_callS5 {Aa Ab Ac Ax Ay : Type} [Enc Aa] [Enc Ab] [Enc Ac] [Enc Ax] [Enc Ay] [Sca ρ]  {fa fb fc fx fy : DS → Option (RV × DS)} {ma : Option Aa} {mb : Option Ab} {mc : Option Ac} {mx : Option Ax} {my : Option Ay} {g : DS → Option DR} {m : Aa → Ab → Ac → Ax → Ay → Option (List ρ)} (T : ∀ a b c x y v, m a b c x y = some v → DRel RtF v (g (shs [enc a, enc b, enc c, enc x, enc y]))) (ha : ExS ps fa ma) (hb : ExS ps fb mb) (hc : ExS ps fc mc) (hx : ExS ps fx mx) (hy : ExS ps fy my) : ExF ps (fCall 5 g (fCons fa (fCons fb (fCons fc (fCons fx (fCons fy fNil)))))) (ma.bind fun a => (mb.bind fun b => (mc.bind fun c => (mx.bind fun x => (my.bind fun y => m a b c x y))))) :=
  v_callGS (a_cS ha (a_cS hb (a_cS hc (a_cS hx (a_cS hy a_nS))))) fun v e => by
    simp only [Option.bind_eq_some_iff] at e
    obtain ⟨a, ea, b, eb, c, ec, x, ex, y, ey, e⟩ := e
    obtain ⟨o, d, h1, h2⟩ := T a b c x y v e
    have h2 : o = _ := h2
    subst h2
    exact ⟨[enc a, enc b, enc c, enc x, enc y], by rw [ea, eb, ec, ex, ey]; rfl, rfl, d, h1⟩
theorem v_callC5 {Aa Ab Ac Ax Ay : Type} [Enc Aa] [Enc Ab] [Enc Ac] [Enc Ax] [Enc Ay] [Sca ρ]  {fa fb fc fx fy : DS → Option (RV × DS)} {ma : Option Aa} {mb : Option Ab} {mc : Option Ac} {mx : Option Ax} {my : Option Ay} {g : DS → Option DR} {m : Aa → Ab → Ac → Ax → Ay → Option ρ} (T : ∀ a b c x y v, m a b c x y = some v → DRel RtC v (g (shs [enc a, enc b, enc c, enc x, enc y]))) (ha : ExS ps fa ma) (hb : ExS ps fb mb) (hc : ExS ps fc mc) (hx : ExS ps fx mx) (hy : ExS ps fy my) : ExC ps (fCall 5 g (fCons fa (fCons fb (fCons fc (fCons fx (fCons fy fNil)))))) (ma.bind fun a => (mb.bind fun b => (mc.bind fun c => (mx.bind fun x => (my.bind fun y => m a b c x y))))) :=
  v_callGC (a_cS ha (a_cS hb (a_cS hc (a_cS hx (a_cS hy a_nS))))) fun v e => by
    simp only [Option.bind_eq_some_iff] at e
    obtain ⟨a, ea, b, eb, c, ec, x, ex, y, ey, e⟩ := e
    obtain ⟨o, d, h1, h2⟩ := T a b c x y v e
    have h2 : o = _ := h2
    subst h2
    exact ⟨[enc a, enc b, enc c, enc x, enc y], by rw [ea, eb, ec, ex, ey]; rfl, rfl, d, h1⟩
theorem v_callT5 {Aa Ab Ac Ax Ay : Type} [Enc Aa] [Enc Ab] [Enc Ac] [Enc Ax] [Enc Ay]  {fa fb fc fx fy : DS → Option (RV × DS)} {ma : Option Aa} {mb : Option Ab} {mc : Option Ac} {mx : Option Ax} {my : Option Ay} {g : DS → Option DR} {m : Aa → Ab → Ac → Ax → Ay → Option ρ} (T : ∀ a b c x y v, m a b c x y = some v → DRel RtC v (g (shs [enc a, enc b, enc c, enc x, enc y]))) (ha : ExV ps fa ma) (hb : ExV ps fb mb) (hc : ExV ps fc mc) (hx : ExV ps fx mx) (hy : ExV ps fy my) : ExV ps (fCall 5 g (fCons fa (fCons fb (fCons fc (fCons fx (fCons fy fNil)))))) (ma.bind fun a => (mb.bind fun b => (mc.bind fun c => (mx.bind fun x => (my.bind fun y => m a b c x y))))) :=
  v_callG (a_c ha (a_c hb (a_c hc (a_c hx (a_c hy a_n))))) fun v e => by
    simp only [Option.bind_eq_some_iff] at e
    obtain ⟨a, ea, b, eb, c, ec, x, ex, y, ey, e⟩ := e
    obtain ⟨o, d, h1, h2⟩ := T a b c x y v e
    have h2 : o = _ := h2
    subst h2
    exact ⟨[enc a, enc b, enc c, enc x, enc y], by rw [ea, eb, ec, ex, ey]; rfl, rfl, _, d, h1, rfl⟩
theorem v_callXV5 {Aa Ab Ac Ax Ay : Type} [Enc Aa] [Enc Ab] [Enc Ac] [Enc Ax] [Enc Ay]  {fa fb fc fx fy : DS → Option (RV × DS)} {ma : Option Aa} {mb : Option Ab} {mc : Option Ac} {mx : Option Ax} {my : Option Ay} {g : DS → Option DR} {m : Aa → Ab → Ac → Ax → Ay → Option (ρ ⊕ Str)} (T : ∀ a b c x y v, m a b c x y = some v → DRelX RtV v (g (shs [enc a, enc b, enc c, enc x, enc y]))) (ha : ExV ps fa ma) (hb : ExV ps fb mb) (hc : ExV ps fc mc) (hx : ExV ps fx mx) (hy : ExV ps fy my) : ExX ps (fCallX 5 g (fCons fa (fCons fb (fCons fc (fCons fx (fCons fy fNil)))))) (ma.bind fun a => (mb.bind fun b => (mc.bind fun c => (mx.bind fun x => (my.bind fun y => m a b c x y))))) (RkV ps) :=
  v_callGX rkV_of (a_c ha (a_c hb (a_c hc (a_c hx (a_c hy a_n))))) fun v e => by
    simp only [Option.bind_eq_some_iff] at e
    obtain ⟨a, ea, b, eb, c, ec, x, ex, y, ey, e⟩ := e
    exact ⟨[enc a, enc b, enc c, enc x, enc y], by rw [ea, eb, ec, ex, ey]; rfl, rfl, T a b c x y v e⟩
theorem v_callXC5 {Aa Ab Ac Ax Ay : Type} [Enc Aa] [Enc Ab] [Enc Ac] [Enc Ax] [Enc Ay]  {fa fb fc fx fy : DS → Option (RV × DS)} {ma : Option Aa} {mb : Option Ab} {mc : Option Ac} {mx : Option Ax} {my : Option Ay} {g : DS → Option DR} {m : Aa → Ab → Ac → Ax → Ay → Option (ρ ⊕ Str)} (T : ∀ a b c x y v, m a b c x y = some v → DRelX RtC v (g (shs [enc a, enc b, enc c, enc x, enc y]))) (ha : ExV ps fa ma) (hb : ExV ps fb mb) (hc : ExV ps fc mc) (hx : ExV ps fx mx) (hy : ExV ps fy my) : ExX ps (fCallX 5 g (fCons fa (fCons fb (fCons fc (fCons fx (fCons fy fNil)))))) (ma.bind fun a => (mb.bind fun b => (mc.bind fun c => (mx.bind fun x => (my.bind fun y => m a b c x y))))) RkC :=
  v_callGX rkC_of (a_c ha (a_c hb (a_c hc (a_c hx (a_c hy a_n))))) fun v e => by
    simp only [Option.bind_eq_some_iff] at e
    obtain ⟨a, ea, b, eb, c, ec, x, ex, y, ey, e⟩ := e
    exact ⟨[enc a, enc b, enc c, enc x, enc y], by rw [ea, eb, ec, ex, ey]; rfl, rfl, T a b c x y v e⟩
theorem v_callXF5 {Aa Ab Ac Ax Ay : Type} [Enc Aa] [Enc Ab] [Enc Ac] [Enc Ax] [Enc Ay]  {fa fb fc fx fy : DS → Option (RV × DS)} {ma : Option Aa} {mb : Option Ab} {mc : Option Ac} {mx : Option Ax} {my : Option Ay} {g : DS → Option DR} {m : Aa → Ab → Ac → Ax → Ay → Option (List ρ ⊕ Str)} (T : ∀ a b c x y v, m a b c x y = some v → DRelX RtF v (g (shs [enc a, enc b, enc c, enc x, enc y]))) (ha : ExV ps fa ma) (hb : ExV ps fb mb) (hc : ExV ps fc mc) (hx : ExV ps fx mx) (hy : ExV ps fy my) : ExX ps (fCallX 5 g (fCons fa (fCons fb (fCons fc (fCons fx (fCons fy fNil)))))) (ma.bind fun a => (mb.bind fun b => (mc.bind fun c => (mx.bind fun x => (my.bind fun y => m a b c x y))))) RkF :=
  v_callGX rkF_of (a_c ha (a_c hb (a_c hc (a_c hx (a_c hy a_n))))) fun v e => by
    simp only [Option.bind_eq_some_iff] at e
    obtain ⟨a, ea, b, eb, c, ec, x, ex, y, ey, e⟩ := e
    exact ⟨[enc a, enc b, enc c, enc x, enc y], by rw [ea, eb, ec, ex, ey]; rfl, rfl, T a b c x y v e⟩
theorem v_callV6 {Aa Ab Ac Ax Ay Az : Type} [Enc Aa] [Enc Ab] [Enc Ac] [Enc Ax] [Enc Ay] [Enc Az]  {fa fb fc fx fy fz : DS → Option (RV × DS)} {ma : Option Aa} {mb : Option Ab} {mc : Option Ac} {mx : Option Ax} {my : Option Ay} {mz : Option Az} {g : DS → Option DR} {m : Aa → Ab → Ac → Ax → Ay → Az → Option ρ} (T : ∀ a b c x y z v, m a b c x y z = some v → DRel RtV v (g (shs [enc a, enc b, enc c, enc x, enc y, enc z]))) (ha : ExV ps fa ma) (hb : ExV ps fb mb) (hc : ExV ps fc mc) (hx : ExV ps fx mx) (hy : ExV ps fy my) (hz : ExV ps fz mz) : ExV ps (fCall 6 g (fCons fa (fCons fb (fCons fc (fCons fx (fCons fy (fCons fz fNil))))))) (ma.bind fun a => (mb.bind fun b => (mc.bind fun c => (mx.bind fun x => (my.bind fun y => (mz.bind fun z => m a b c x y z)))))) :=
  v_callG (a_c ha (a_c hb (a_c hc (a_c hx (a_c hy (a_c hz a_n)))))) fun v e => by
    simp only [Option.bind_eq_some_iff] at e
    obtain ⟨a, ea, b, eb, c, ec, x, ex, y, ey, z, ez, e⟩ := e
    obtain ⟨o, d, h1, h2⟩ := T a b c x y z v e
    exact ⟨[enc a, enc b, enc c, enc x, enc y, enc z], by rw [ea, eb, ec, ex, ey, ez]; rfl, rfl, o, d, h1, h2⟩
theorem v_callF6 {Aa Ab Ac Ax Ay Az : Type} [Enc Aa] [Enc Ab] [Enc Ac] [Enc Ax] [Enc Ay] [Enc Az]  {fa fb fc fx fy fz : DS → Option (RV × DS)} {ma : Option Aa} {mb : Option Ab} {mc : Option Ac} {mx : Option Ax} {my : Option Ay} {mz : Option Az} {g : DS → Option DR} {m : Aa → Ab → Ac → Ax → Ay → Az → Option (List ρ)} (T : ∀ a b c x y z v, m a b c x y z = some v → DRel RtF v (g (shs [enc a, enc b, enc c, enc x, enc y, enc z]))) (ha : ExV ps fa ma) (hb : ExV ps fb mb) (hc : ExV ps fc mc) (hx : ExV ps fx mx) (hy : ExV ps fy my) (hz : ExV ps fz mz) : ExF ps (fCall 6 g (fCons fa (fCons fb (fCons fc (fCons fx (fCons fy (fCons fz fNil))))))) (ma.bind fun a => (mb.bind fun b => (mc.bind fun c => (mx.bind fun x => (my.bind fun y => (mz.bind fun z => m a b c x y z)))))) :=
  v_callGF (a_c ha (a_c hb (a_c hc (a_c hx (a_c hy (a_c hz a_n)))))) fun v e => by
    simp only [Option.bind_eq_some_iff] at e
    obtain ⟨a, ea, b, eb, c, ec, x, ex, y, ey, z, ez, e⟩ := e
    obtain ⟨o, d, h1, h2⟩ := T a b c x y z v e
    have h2 : o = _ := h2
    subst h2
    exact ⟨[enc a, enc b, enc c, enc x, enc y, enc z], by rw [ea, eb, ec, ex, ey, ez]; rfl, rfl, d, h1⟩
theorem v_callS6 {Aa Ab Ac Ax Ay Az : Type} [Enc Aa] [Enc Ab] [Enc Ac] [Enc Ax] [Enc Ay] [Enc Az] [Sca ρ]  {fa fb fc fx fy fz : DS → Option (RV × DS)} {ma : Option Aa} {mb : Option Ab} {mc : Option Ac} {mx : Option Ax} {my : Option Ay} {mz : Option Az} {g : DS → Option DR} {m : Aa → Ab → Ac → Ax → Ay → Az → Option (List ρ)} (T : ∀ a b c x y z v, m a b c x y z = some v → DRel RtF v (g (shs [enc a, enc b, enc c, enc x, enc y, enc z]))) (ha : ExS ps fa ma) (hb : ExS ps fb mb) (hc : ExS ps fc mc) (hx : ExS ps fx mx) (hy : ExS ps fy my) (hz : ExS ps fz mz) : ExF ps (fCall 6 g (fCons fa (fCons fb (fCons fc (fCons fx (fCons fy (fCons fz fNil))))))) (ma.bind fun a => (mb.bind fun b => (mc.bind fun c => (mx.bind fun x => (my.bind fun y => (mz.bind fun z => m a b c x y z)))))) :=
  v_callGS (a_cS ha (a_cS hb (a_cS hc (a_cS hx (a_cS hy (a_cS hz a_nS)))))) fun v e => by
    simp only [Option.bind_eq_some_iff] at e
    obtain ⟨a, ea, b, eb, c, ec, x, ex, y, ey, z, ez, e⟩ := e
    obtain ⟨o, d, h1, h2⟩ := T a b c x y z v e
    have h2 : o = _ := h2
    subst h2
    exact ⟨[enc a, enc b, enc c, enc x, enc y, enc z], by rw [ea, eb, ec, ex, ey, ez]; rfl, rfl, d, h1⟩
theorem v_callC6 {Aa Ab Ac Ax Ay Az : Type} [Enc Aa] [Enc Ab] [Enc Ac] [Enc Ax] [Enc Ay] [Enc Az] [Sca ρ]  {fa fb fc fx fy fz : DS → Option (RV × DS)} {ma : Option Aa} {mb : Option Ab} {mc : Option Ac} {mx : Option Ax} {my : Option Ay} {mz : Option Az} {g : DS → Option DR} {m : Aa → Ab → Ac → Ax → Ay → Az → Option ρ} (T : ∀ a b c x y z v, m a b c x y z = some v → DRel RtC v (g (shs [enc a, enc b, enc c, enc x, enc y, enc z]))) (ha : ExS ps fa ma) (hb : ExS ps fb mb) (hc : ExS ps fc mc) (hx : ExS ps fx mx) (hy : ExS ps fy my) (hz : ExS ps fz mz) : ExC ps (fCall 6 g (fCons fa (fCons fb (fCons fc (fCons fx (fCons fy (fCons fz fNil))))))) (ma.bind fun a => (mb.bind fun b => (mc.bind fun c => (mx.bind fun x => (my.bind fun y => (mz.bind fun z => m a b c x y z)))))) :=
  v_callGC (a_cS ha (a_cS hb (a_cS hc (a_cS hx (a_cS hy (a_cS hz a_nS)))))) fun v e => by
    simp only [Option.bind_eq_some_iff] at e
    obtain ⟨a, ea, b, eb, c, ec, x, ex, y, ey, z, ez, e⟩ := e
    obtain ⟨o, d, h1, h2⟩ := T a b c x y z v e
    have h2 : o = _ := h2
    subst h2
    exact ⟨[enc a, enc b, enc c, enc x, enc y, enc z], by rw [ea, eb, ec, ex, ey, ez]; rfl, rfl, d, h1⟩
theorem v_callT6 {Aa Ab Ac Ax Ay Az : Type} [Enc Aa] [Enc Ab] [Enc Ac] [Enc Ax] [Enc Ay] [Enc Az]  {fa fb fc fx fy fz : DS → Option (RV × DS)} {ma : Option Aa} {mb : Option Ab} {mc : Option Ac} {mx : Option Ax} {my : Option Ay} {mz : Option Az} {g : DS → Option DR} {m : Aa → Ab → Ac → Ax → Ay → Az → Option ρ} (T : ∀ a b c x y z v, m a b c x y z = some v → DRel RtC v (g (shs [enc a, enc b, enc c, enc x, enc y, enc z]))) (ha : ExV ps fa ma) (hb : ExV ps fb mb) (hc : ExV ps fc mc) (hx : ExV ps fx mx) (hy : ExV ps fy my) (hz : ExV ps fz mz) : ExV ps (fCall 6 g (fCons fa (fCons fb (fCons fc (fCons fx (fCons fy (fCons fz fNil))))))) (ma.bind fun a => (mb.bind fun b => (mc.bind fun c => (mx.bind fun x => (my.bind fun y => (mz.bind fun z => m a b c x y z)))))) :=
  v_callG (a_c ha (a_c hb (a_c hc (a_c hx (a_c hy (a_c hz a_n)))))) fun v e => by
    simp only [Option.bind_eq_some_iff] at e
    obtain ⟨a, ea, b, eb, c, ec, x, ex, y, ey, z, ez, e⟩ := e
    obtain ⟨o, d, h1, h2⟩ := T a b c x y z v e
    have h2 : o = _ := h2
    subst h2
    exact ⟨[enc a, enc b, enc c, enc x, enc y, enc z], by rw [ea, eb, ec, ex, ey, ez]; rfl, rfl, _, d, h1, rfl⟩
theorem v_callXV6 {Aa Ab Ac Ax Ay Az : Type} [Enc Aa] [Enc Ab] [Enc Ac] [Enc Ax] [Enc Ay] [Enc Az]  {fa fb fc fx fy fz : DS → Option (RV × DS)} {ma : Option Aa} {mb : Option Ab} {mc : Option Ac} {mx : Option Ax} {my : Option Ay} {mz : Option Az} {g : DS → Option DR} {m : Aa → Ab → Ac → Ax → Ay → Az → Option (ρ ⊕ Str)} (T : ∀ a b c x y z v, m a b c x y z = some v → DRelX RtV v (g (shs [enc a, enc b, enc c, enc x, enc y, enc z]))) (ha : ExV ps fa ma) (hb : ExV ps fb mb) (hc : ExV ps fc mc) (hx : ExV ps fx mx) (hy : ExV ps fy my) (hz : ExV ps fz mz) : ExX ps (fCallX 6 g (fCons fa (fCons fb (fCons fc (fCons fx (fCons fy (fCons fz fNil))))))) (ma.bind fun a => (mb.bind fun b => (mc.bind fun c => (mx.bind fun x => (my.bind fun y => (mz.bind fun z => m a b c x y z)))))) (RkV ps) :=
  v_callGX rkV_of (a_c ha (a_c hb (a_c hc (a_c hx (a_c hy (a_c hz a_n)))))) fun v e => by
    simp only [Option.bind_eq_some_iff] at e
    obtain ⟨a, ea, b, eb, c, ec, x, ex, y, ey, z, ez, e⟩ := e
    exact ⟨[enc a, enc b, enc c, enc x, enc y, enc z], by rw [ea, eb, ec, ex, ey, ez]; rfl, rfl, T a b c x y z v e⟩
theorem v_callXC6 {Aa Ab Ac Ax Ay Az : Type} [Enc Aa] [Enc Ab] [Enc Ac] [Enc Ax] [Enc Ay] [Enc Az]  {fa fb fc fx fy fz : DS → Option (RV × DS)} {ma : Option Aa} {mb : Option Ab} {mc : Option Ac} {mx : Option Ax} {my : Option Ay} {mz : Option Az} {g : DS → Option DR} {m : Aa → Ab → Ac → Ax → Ay → Az → Option (ρ ⊕ Str)} (T : ∀ a b c x y z v, m a b c x y z = some v → DRelX RtC v (g (shs [enc a, enc b, enc c, enc x, enc y, enc z]))) (ha : ExV ps fa ma) (hb : ExV ps fb mb) (hc : ExV ps fc mc) (hx : ExV ps fx mx) (hy : ExV ps fy my) (hz : ExV ps fz mz) : ExX ps (fCallX 6 g (fCons fa (fCons fb (fCons fc (fCons fx (fCons fy (fCons fz fNil))))))) (ma.bind fun a => (mb.bind fun b => (mc.bind fun c => (mx.bind fun x => (my.bind fun y => (mz.bind fun z => m a b c x y z)))))) RkC :=
  v_callGX rkC_of (a_c ha (a_c hb (a_c hc (a_c hx (a_c hy (a_c hz a_n)))))) fun v e => by
    simp only [Option.bind_eq_some_iff] at e
    obtain ⟨a, ea, b, eb, c, ec, x, ex, y, ey, z, ez, e⟩ := e
    exact ⟨[enc a, enc b, enc c, enc x, enc y, enc z], by rw [ea, eb, ec, ex, ey, ez]; rfl, rfl, T a b c x y z v e⟩
theorem v_callXF6 {Aa Ab Ac Ax Ay Az : Type} [Enc Aa] [Enc Ab] [Enc Ac] [Enc Ax] [Enc Ay] [Enc Az]  {fa fb fc fx fy fz : DS → Option (RV × DS)} {ma : Option Aa} {mb : Option Ab} {mc : Option Ac} {mx : Option Ax} {my : Option Ay} {mz : Option Az} {g : DS → Option DR} {m : Aa → Ab → Ac → Ax → Ay → Az → Option (List ρ ⊕ Str)} (T : ∀ a b c x y z v, m a b c x y z = some v → DRelX RtF v (g (shs [enc a, enc b, enc c, enc x, enc y, enc z]))) (ha : ExV ps fa ma) (hb : ExV ps fb mb) (hc : ExV ps fc mc) (hx : ExV ps fx mx) (hy : ExV ps fy my) (hz : ExV ps fz mz) : ExX ps (fCallX 6 g (fCons fa (fCons fb (fCons fc (fCons fx (fCons fy (fCons fz fNil))))))) (ma.bind fun a => (mb.bind fun b => (mc.bind fun c => (mx.bind fun x => (my.bind fun y => (mz.bind fun z => m a b c x y z)))))) RkF :=
  v_callGX rkF_of (a_c ha (a_c hb (a_c hc (a_c hx (a_c hy (a_c hz a_n)))))) fun v e => by
    simp only [Option.bind_eq_some_iff] at e
    obtain ⟨a, ea, b, eb, c, ec, x, ex, y, ey, z, ez, e⟩ := e
    exact ⟨[enc a, enc b, enc c, enc x, enc y, enc z], by rw [ea, eb, ec, ex, ey, ez]; rfl, rfl, T a b c x y z v e⟩
end
end Ty
set_option Elab.async false
set_option linter.all false
set_option maxRecDepth 100000
namespace Ty
open PySem PySem.Spec L2 Fx
section
variable {α ρ ν τ : Type} [Enc τ] {ps : List SP} {f fe : DS → Option (RV × DS)} {s g h : DS → Option Out} {Jn : ν → List SP} {J : α → List SP} {Jx : List SP} {R : ρ → OV → Prop}
theorem nf_id : ∀ x, nf x → nf x := fun _ h => h
theorem b_assoc {m : Option (TO ν α ρ)} (k : Bk ps (fSeq s (fSeq g h)) m Jn J Jx R) : Bk ps (fSeq (fSeq s g) h) m Jn J Jx R := by rw [fSeq_assoc]; exact k
theorem b_skip {m : Option (TO ν α ρ)} (k : Bk ps g m Jn J Jx R) : Bk ps (fSeq fNext g) m Jn J Jx R := k
theorem b_pass {m : Option (TO ν α ρ)} (k : Bk ps g m Jn J Jx R) : Bk ps (fSeq fNext g) m Jn J Jx R := k
/-- behind a branch that is the last of a block -/
theorem b_lastI {m : Option (TO ν α ρ)} (k : Bk ps s m Jn J Jx R) : Bk ps (fSeq s fNext) m Jn J Jx R := by rw [fSeq_next]; exact k
theorem b_skip0 {m : Option (TO ν α ρ)} (k : Bk ps fNext m Jn J Jx R) : Bk ps (fSeq fNext fNext) m Jn J Jx R := k
theorem v_someC {m : Option τ} (k : ExC ps f m) : ExC ps f (m.bind fun x => some (some x)) := by
  intro v e ds S
  simp only [Option.bind_eq_some_iff] at e
  obtain ⟨a, e1, e2⟩ := e
  cases e2
  exact k a e1 ds S
theorem v_someV {m : Option τ} (k : ExV ps f m) : ExV ps f (m.bind fun x => some (some x)) := by
  intro v e ds S
  simp only [Option.bind_eq_some_iff] at e
  obtain ⟨a, e1, e2⟩ := e
  cases e2
  exact k a e1 ds S
theorem v_someS {m : Option τ} (k : ExS ps f m) : ExS ps f (m.bind fun x => some (some x)) := by
  intro v e ds S
  simp only [Option.bind_eq_some_iff] at e
  obtain ⟨a, e1, e2⟩ := e
  cases e2
  exact k a e1 ds S
end
end Ty
set_option Elab.async false
set_option linter.all false
set_option maxRecDepth 100000
/-! Ty: statements that may raise; try. -/
namespace Ty
open PySem PySem.Spec L2 Fx
section
variable {α β γ τ σ ρ ν μ : Type} [Enc τ] [Enc σ]
variable {ps : List SP} {fx : DS → Option ((RV × DS) ⊕ (Str × DS))} {s g a b : DS → Option Out}
  {Jn : ν → List SP} {J : α → List SP} {Jx : List SP} {R : ρ → OV → Prop}
theorem x_set (i : Nat) {me : Option (τ ⊕ Str)} {k : τ → Option (TO ν α ρ)} {Rk : τ → RV → Prop} {q : τ → SP} (hq : ∀ v r, Rk v r → ∃ o, r = .ov o ∧ q v (some o)) (he : ExX ps fx me Rk) (l : Le ps Jx) (hg : ∀ v, Bk (ps.set i (q v)) g (k v) Jn J Jx R) : Bk ps (fSeq (fSetX i fx) g) (bindX me k) Jn J Jx R := by
  intro o e ds S
  simp only [bindX, Option.bind_eq_some_iff] at e
  obtain ⟨v, e1, e2⟩ := e
  cases v with
  | inl v =>
    obtain ⟨r, d1, k1, S1, q1⟩ := he _ e1 ds S
    obtain ⟨o1, rfl, h1⟩ := hq v r q1
    obtain ⟨out, k3, rl⟩ := hg v o e2 _ (S1.set i h1)
    exact ⟨out, by simp only [fSeq, fSetX, k1, bindSome, k3], rl⟩
  | inr x =>
    obtain ⟨d1, k1, S1⟩ := he _ e1 ds S
    cases e2
    exact ⟨.ex x d1, by simp only [fSeq, fSetX, k1, bindSome], rfl, l.ss S1⟩
theorem x_setV (i : Nat) {n : Nat} {gg : DS → Option DR} {fr : DS → Option (List RV × DS)} {me : Option (τ ⊕ Str)} {k : τ → Option (TO ν α ρ)} (he : ExX ps (fCallX n gg fr) me (RkV ps)) (l : Le ps Jx) (hg : ∀ v, Bk (ps.set i (vw (enc v))) g (k v) Jn J Jx R) : Bk ps (fSeq (fSetX i (fCallX n gg fr)) g) (bindX me k) Jn J Jx R := by
  intro o e ds S
  simp only [bindX, Option.bind_eq_some_iff] at e
  obtain ⟨v, e1, e2⟩ := e
  cases v with
  | inl v =>
    obtain ⟨r, d1, k1, S1, q1⟩ := he _ e1 ds S
    have k0 := k1
    simp only [fCallX, Option.bind_eq_some_iff] at k0
    obtain ⟨p, h1, p2, h2, h3⟩ := k0
    split at h3
    · simp only [Option.map_eq_some_iff] at h3
      obtain ⟨dr, h4, h5⟩ := h3
      cases dr with
      | ret o2 dd =>
        cases h5
        rcases q1 with ⟨o3, h6, h7⟩ | ⟨j, h6, _⟩
        · cases h6
          obtain ⟨out, k3, rl⟩ := hg v o e2 _ (S1.set i (x := some o2) ⟨o2, rfl, h7⟩)
          exact ⟨out, by simp only [fSeq, fSetX, k1, bindSome, k3], rl⟩
        · cases h6
      | ex x dd => cases h5
    · cases h3
  | inr x =>
    obtain ⟨d1, k1, S1⟩ := he _ e1 ds S
    cases e2
    exact ⟨.ex x d1, by simp only [fSeq, fSetX, k1, bindSome], rfl, l.ss S1⟩
theorem x_setC (i : Nat) {me : Option (τ ⊕ Str)} {k : τ → Option (TO ν α ρ)} (he : ExX ps fx me RkC) (l : Le ps Jx) (hg : ∀ v, Bk (ps.set i (sh (enc v))) g (k v) Jn J Jx R) : Bk ps (fSeq (fSetX i fx) g) (bindX me k) Jn J Jx R :=
  x_set (Rk := RkC) (q := fun v => sh (enc v)) i (fun v r h => ⟨.sh (enc v), h, rfl⟩) he l hg
theorem x_setF (i : Nat) {me : Option (List τ ⊕ Str)} {k : List τ → Option (TO ν α ρ)} (he : ExX ps fx me RkF) (l : Le ps Jx) (hg : ∀ v, Bk (ps.set i (fl (v.map enc))) g (k v) Jn J Jx R) : Bk ps (fSeq (fSetX i fx) g) (bindX me k) Jn J Jx R := by
  intro o e ds S
  simp only [bindX, Option.bind_eq_some_iff] at e
  obtain ⟨v, e1, e2⟩ := e
  cases v with
  | inl v =>
    obtain ⟨r, d1, k1, S1, q1⟩ := he _ e1 ds S
    have q1 : r = .ov (.flat (v.map enc)) := q1
    subst q1
    obtain ⟨out, k3, rl⟩ := hg v o e2 _ (S1.set i (x := some (.flat (v.map enc))) rfl)
    exact ⟨out, by simp only [fSeq, fSetX, k1, bindSome, k3], rl⟩
  | inr x =>
    obtain ⟨d1, k1, S1⟩ := he _ e1 ds S
    cases e2
    exact ⟨.ex x d1, by simp only [fSeq, fSetX, k1, bindSome], rfl, l.ss S1⟩
theorem x_expr {me : Option (μ ⊕ Str)} {k : Option (TO ν α ρ)} {Rk : μ → RV → Prop} (he : ExX ps fx me Rk) (l : Le ps Jx) (hg : Bk ps g k Jn J Jx R) : Bk ps (fSeq (fExprX fx) g) (bindX me fun _ => k) Jn J Jx R := by
  intro o e ds S
  simp only [bindX, Option.bind_eq_some_iff] at e
  obtain ⟨v, e1, e2⟩ := e
  cases v with
  | inl v =>
    obtain ⟨r, d1, k1, S1, q1⟩ := he _ e1 ds S
    obtain ⟨out, k3, rl⟩ := hg o e2 _ S1
    exact ⟨out, by simp only [fSeq, fExprX, k1, Option.map_some, bindSome, k3], rl⟩
  | inr x =>
    obtain ⟨d1, k1, S1⟩ := he _ e1 ds S
    cases e2
    exact ⟨.ex x d1, by simp only [fSeq, fExprX, k1, bindSome, Option.map_some], rfl, l.ss S1⟩
def retO (m : Option (ρ ⊕ Str)) : Option (TO ν α ρ) := bindX m fun v => some (.ret v)
theorem x_retV {me : Option (τ ⊕ Str)} (he : ExX ps fx me (RkV ps)) (l : Le ps Jx) : Bk (ν := ν) (α := α) ps (fRetX fx) (retO me) Jn J Jx RtV := by
  intro o e ds S
  simp only [retO, bindX, Option.bind_eq_some_iff] at e
  obtain ⟨v, e1, e2⟩ := e
  cases v with
  | inl v =>
    obtain ⟨r, d1, k1, S1, q1⟩ := he _ e1 ds S
    cases e2
    obtain ⟨o, d2, k2, hv⟩ := mov_of q1.s S1
    exact ⟨.ret o d2, by simp only [fRetX, k1, k2, bindSome, Option.map_some], hv⟩
  | inr x =>
    obtain ⟨d1, k1, S1⟩ := he _ e1 ds S
    cases e2
    exact ⟨.ex x d1, by simp only [fRetX, k1, bindSome], rfl, l.ss S1⟩
theorem x_retC {me : Option (τ ⊕ Str)} (he : ExX ps fx me RkC) (l : Le ps Jx) : Bk (ν := ν) (α := α) ps (fRetX fx) (retO me) Jn J Jx RtC := by
  intro o e ds S
  simp only [retO, bindX, Option.bind_eq_some_iff] at e
  obtain ⟨v, e1, e2⟩ := e
  cases v with
  | inl v =>
    obtain ⟨r, d1, k1, S1, q1⟩ := he _ e1 ds S
    have q1 : r = .ov (.sh (enc v)) := q1
    subst q1
    cases e2
    exact ⟨.ret _ d1, by simp only [fRetX, k1, bindSome, mov, Option.map_some], rfl⟩
  | inr x =>
    obtain ⟨d1, k1, S1⟩ := he _ e1 ds S
    cases e2
    exact ⟨.ex x d1, by simp only [fRetX, k1, bindSome], rfl, l.ss S1⟩
theorem x_retF {me : Option (List τ ⊕ Str)} (he : ExX ps fx me RkF) (l : Le ps Jx) : Bk (ν := ν) (α := α) ps (fRetX fx) (retO me) Jn J Jx RtF := by
  intro o e ds S
  simp only [retO, bindX, Option.bind_eq_some_iff] at e
  obtain ⟨v, e1, e2⟩ := e
  cases v with
  | inl v =>
    obtain ⟨r, d1, k1, S1, q1⟩ := he _ e1 ds S
    have q1 : r = .ov (.flat (v.map enc)) := q1
    subst q1
    cases e2
    exact ⟨.ret _ d1, by simp only [fRetX, k1, bindSome, mov, Option.map_some], rfl⟩
  | inr x =>
    obtain ⟨d1, k1, S1⟩ := he _ e1 ds S
    cases e2
    exact ⟨.ex x d1, by simp only [fRetX, k1, bindSome], rfl, l.ss S1⟩
theorem x_asg {tg : D → DS → Option DS} {ps' : τ → List SP} {me : Option (τ ⊕ Str)} {k : τ → Option (TO ν α ρ)} (he : ExX ps fx me (RkV ps)) (l : Le ps Jx) (ht : ∀ v : τ, Tg ps tg (enc v) (ps' v)) (hg : ∀ v, Bk (ps' v) g (k v) Jn J Jx R) : Bk ps (fSeq (fAsgX tg fx) g) (bindX me k) Jn J Jx R := by
  intro o e ds S
  simp only [bindX, Option.bind_eq_some_iff] at e
  obtain ⟨v, e1, e2⟩ := e
  cases v with
  | inl v =>
    obtain ⟨r, d1, k1, S1, q1⟩ := he _ e1 ds S
    obtain ⟨d2, k2, S2⟩ := frz_of q1 S1
    obtain ⟨d3, k3, S3⟩ := ht v d2 S2
    obtain ⟨out, k4, rl⟩ := hg v o e2 d3 S3
    exact ⟨out, by simp only [fSeq, fAsgX, k1, k2, k3, k4, bindSome, Option.map_some], rl⟩
  | inr x =>
    obtain ⟨d1, k1, S1⟩ := he _ e1 ds S
    cases e2
    exact ⟨.ex x d1, by simp only [fSeq, fAsgX, k1, bindSome], rfl, l.ss S1⟩
theorem nn_retX : NoNx (fRetX fx) := fun ds d h => by
  simp only [fRetX, Option.bind_eq_some_iff] at h
  obtain ⟨r, _, h⟩ := h
  cases r with
  | inl p =>
    simp only [Option.map_eq_some_iff] at h
    obtain ⟨_, _, h⟩ := h
    cases h
  | inr p => cases h
/-! try -/
def tryT (x : Str) (m n : Option (TO ν α ρ)) : Option (TO ν α ρ) := m.bind fun o => match o with
  | .ex y => if y = x then n.bind fun o => match o with
    | .ex _ => none
    | o => some o else none
  | o => some o
theorem b_try {x : Str} {i : Nat} {Jy : List SP} {m n : Option (TO ν α ρ)} (h : Bk ps a m Jn J Jy R) (k : Bk (Jy.set i isN) b n Jn J Jx R) : Bk ps (fTry x i a b) (tryT x m n) Jn J Jx R := by
  intro o e ds S
  simp only [tryT, Option.bind_eq_some_iff] at e
  obtain ⟨o1, e1, e2⟩ := e
  obtain ⟨out, k1, rl⟩ := h o1 e1 ds S
  cases o1 with
  | ex y =>
    cases out with
    | ex y' d1 =>
      obtain ⟨rfl, S1⟩ := rl
      simp only at e2
      split at e2
      · rename_i hy
        simp only [Option.bind_eq_some_iff] at e2
        obtain ⟨o2, e3, e4⟩ := e2
        obtain ⟨out2, k2, rl2⟩ := k o2 e3 (d1.set i none) (S1.set i rfl)
        cases o2 with
        | ex z => cases e4
        | nx z =>
          cases e4
          cases out2 with
          | nx d2 => exact ⟨.nx d2, by simp only [fTry, k1, bindSome, if_pos hy, k2], rl2⟩
          | _ => exact rl2.elim
        | bk z =>
          cases e4
          cases out2 with
          | bk d2 => exact ⟨.bk d2, by simp only [fTry, k1, bindSome, if_pos hy, k2], rl2⟩
          | _ => exact rl2.elim
        | ct z =>
          cases e4
          cases out2 with
          | ct d2 => exact ⟨.ct d2, by simp only [fTry, k1, bindSome, if_pos hy, k2], rl2⟩
          | _ => exact rl2.elim
        | ret z =>
          cases e4
          cases out2 with
          | ret o3 d2 => exact ⟨.ret o3 d2, by simp only [fTry, k1, bindSome, if_pos hy, k2], rl2⟩
          | _ => exact rl2.elim
      · cases e2
    | _ => exact rl.elim
  | nx z =>
    cases e2
    cases out with
    | nx d2 => exact ⟨.nx d2, by simp only [fTry, k1, bindSome], rl⟩
    | _ => exact rl.elim
  | bk z =>
    cases e2
    cases out with
    | bk d2 => exact ⟨.bk d2, by simp only [fTry, k1, bindSome], rl⟩
    | _ => exact rl.elim
  | ct z =>
    cases e2
    cases out with
    | ct d2 => exact ⟨.ct d2, by simp only [fTry, k1, bindSome], rl⟩
    | _ => exact rl.elim
  | ret z =>
    cases e2
    cases out with
    | ret o3 d2 => exact ⟨.ret o3 d2, by simp only [fTry, k1, bindSome], rl⟩
    | _ => exact rl.elim
theorem nn_try {x : Str} {i : Nat} (h : NoNx a) (k : NoNx b) : NoNx (fTry x i a b) := fun ds d e => by
  simp only [fTry, Option.bind_eq_some_iff] at e
  obtain ⟨o, h1, h2⟩ := e
  cases o with
  | nx d1 => exact h ds d1 h1
  | ex y d1 =>
    simp only at h2
    split at h2
    · simp only [Option.bind_eq_some_iff] at h2
      obtain ⟨o2, h3, h4⟩ := h2
      cases o2 with
      | nx d2 => exact k _ d2 h3
      | _ => cases h4
    · cases h2
  | _ => cases h2
end
end Ty
namespace Ty
open PySem PySem.Spec L2 Fx
section
variable {τ : Type} [Enc τ] {ps : List SP} {fx : DS → Option ((RV × DS) ⊕ (Str × DS))}
theorem x_cv {m : Option (τ ⊕ Str)} (h : ExX ps fx m RkC) : ExX ps fx m (RkV ps) := by
  intro v e ds S
  have k := h v e ds S
  cases v with
  | inl v =>
    obtain ⟨r, d, k1, k2, k3⟩ := k
    exact ⟨r, d, k1, k2, .inl ⟨_, k3, rfl⟩⟩
  | inr x => exact k
theorem x_fv {m : Option (List τ ⊕ Str)} (h : ExX ps fx m RkF) : ExX ps fx m (RkV ps) := by
  intro v e ds S
  have k := h v e ds S
  cases v with
  | inl v =>
    obtain ⟨r, d, k1, k2, k3⟩ := k
    exact ⟨r, d, k1, k2, .inl ⟨_, k3, rfl⟩⟩
  | inr x => exact k
end
end Ty
set_option Elab.async false
set_option linter.all false
set_option maxRecDepth 100000
/-! W m Q: the mirror m comes to a value, of which Q holds. -/
namespace Ty
open PySem PySem.Spec L2 Fx
section
variable {α β γ τ σ ρ ν μ : Type}
def W (m : Option α) (Q : α → Prop) : Prop := ∃ a, m = some a ∧ Q a
theorem W_some {a : α} {Q : α → Prop} : W (some a) Q ↔ Q a := ⟨fun ⟨_, e, q⟩ => by cases e; exact q, fun q => ⟨a, rfl, q⟩⟩
theorem W_none {Q : α → Prop} : W (none : Option α) Q ↔ False := ⟨fun ⟨_, e, _⟩ => (nomatch e), fun h => h.elim⟩
theorem W_bind {m : Option α} {k : α → Option β} {Q : β → Prop} : W (m.bind k) Q ↔ W m fun a => W (k a) Q := by
  constructor
  · rintro ⟨b, e, q⟩
    rw [Option.bind_eq_some_iff] at e
    obtain ⟨a, e1, e2⟩ := e
    exact ⟨a, e1, b, e2, q⟩
  · rintro ⟨a, e1, b, e2, q⟩
    exact ⟨b, by rw [Option.bind_eq_some_iff]; exact ⟨a, e1, e2⟩, q⟩
theorem W_map {m : Option α} {k : α → β} {Q : β → Prop} : W (m.map k) Q ↔ W m fun a => Q (k a) := by
  cases m with
  | none => simp [W_none]
  | some a => simp [W_some]
theorem W_ite {c : Prop} [Decidable c] {a b : Option α} {Q : α → Prop} : W (if c then a else b) Q ↔ (if c then W a Q else W b Q) := by split <;> rfl
theorem W_mono {m : Option α} {P Q : α → Prop} (h : W m P) (k : ∀ a, P a → Q a) : W m Q := let ⟨a, e, p⟩ := h; ⟨a, e, k a p⟩
theorem W_eq {m : Option α} {a : α} {Q : α → Prop} (h : m = some a) (q : Q a) : W m Q := ⟨a, h, q⟩
theorem W_of {m : Option α} {a : α} (h : W m fun x => x = a) : m = some a := by obtain ⟨b, e, rfl⟩ := h; exact e
/-! guards -/
theorem W_sub {a b : Int} {Q : Int → Prop} : W (subN a b) Q ↔ Q (a - b) := W_some
theorem W_mul {a b : Int} {Q : Int → Prop} : W (mulN a b) Q ↔ mulOk a b = true ∧ Q (a * b) := by
  unfold mulN; rw [W_ite, W_some, W_none]; split <;> simp [*]
theorem W_fdiv {a b : Int} {Q : Int → Prop} : W (fdivN a b) Q ↔ cFd a b = true ∧ Q (a.fdiv b) := by
  unfold fdivN; rw [W_ite, W_some, W_none]; split <;> simp [*]
theorem W_mod {a b : Int} {Q : Int → Prop} : W (modN a b) Q ↔ b ≠ 0 ∧ Q (a.fmod b) := by
  unfold modN; rw [W_ite, W_some, W_none]
  by_cases h : b = 0
  · have : cNz a b = false := by simp [cNz, h]
    rw [this]
    simp [h]
  · have : cNz a b = true := by simp [cNz, h]
    rw [this]
    simp [h]
theorem W_fdivZ {a b : Int} {Q : Int → Prop} : W (fdivZ a b) Q ↔ b ≠ 0 ∧ Q (a.fdiv b) := by
  unfold fdivZ; rw [W_ite, W_some, W_none]
  by_cases h : b = 0
  · have : cNz a b = false := by simp [cNz, h]
    rw [this]
    simp [h]
  · have : cNz a b = true := by simp [cNz, h]
    rw [this]
    simp [h]
theorem W_pow {a b : Int} {Q : Int → Prop} : W (powN a b) Q ↔ cPow a b = true ∧ Q (a ^ b.toNat) := by
  unfold powN; rw [W_ite, W_some, W_none]; split <;> simp [*]
theorem W_app {l : List τ} {v : τ} {Q : List τ → Prop} : W (appN l v) Q ↔ l.length ≤ 1000000 ∧ Q (l ++ [v]) := by
  unfold appN; rw [W_ite, W_some, W_none]; split <;> simp [*]
theorem W_cat {a b : List τ} {Q : List τ → Prop} : W (catN a b) Q ↔ a.length + b.length ≤ 1000000 ∧ Q (a ++ b) := by
  unfold catN; rw [W_ite, W_some, W_none]; split <;> simp [*]
theorem W_len {l : List τ} {Q : List τ → Prop} : W (lenN l) Q ↔ l.length ≤ 1000000 ∧ Q l := by
  unfold lenN; rw [W_ite, W_some, W_none]; split <;> simp [*]
theorem W_rg1 {j : Int} {Q : List Int → Prop} : W (range1N j) Q ↔ small62 j = true ∧ Q (rangeL 0 j) := by
  unfold range1N; rw [W_ite, W_some, W_none]; split <;> simp [*]
theorem W_rg2 {i j : Int} {Q : List Int → Prop} : W (range2N i j) Q ↔ (small62 i = true ∧ small62 j = true) ∧ Q (rangeL i j) := by
  unfold range2N; rw [W_ite, W_some, W_none]; cases small62 i <;> cases small62 j <;> simp
theorem W_rg3 {i j c : Int} {Q : List Int → Prop} : W (range3N i j c) Q ↔ rgOk i j c = true ∧ Q (range3L i j c) := by
  unfold range3N; rw [W_ite, W_some, W_none]; split <;> simp [*]
theorem W_set {l : List τ} {k : Int} {v : τ} {Q : List τ → Prop} : W (setN l k v) Q ↔ W (ixN l.length k) fun j => Q (l.set j v) := W_map
theorem W_rep [Enc τ] {l : List τ} {j : Int} {Q : List τ → Prop} : W (repN l j) Q ↔ repOk (l.map enc) j = true ∧ Q (List.replicate j.toNat l).flatten := by
  unfold repN; rw [W_ite, W_some, W_none]; split <;> simp [*]
theorem W_band {a b : Int} {Q : Int → Prop} : W (bandN a b) Q ↔ Q (Builtin.bitAnd a b) := W_some
theorem W_bor {a b : Int} {Q : Int → Prop} : W (borN a b) Q ↔ Q (Builtin.bitOr a b) := W_some
/-! control -/
theorem W_seq {m : Option (TO μ α ρ)} {k : μ → Option (TO ν α ρ)} {Q : TO ν α ρ → Prop} : W (seqT m k) Q ↔ W m fun o => match o with
    | .nx b => W (k b) Q
    | .ct a => Q (.ct a)
    | .bk a => Q (.bk a)
    | .ret r => Q (.ret r)
    | .ex x => Q (.ex x) := by
  unfold seqT
  rw [W_bind]
  constructor
  · refine fun h => W_mono h fun o q => ?_
    cases o with
    | nx b => exact q
    | ct a => exact (W_some (Q := Q)).mp q
    | bk a => exact (W_some (Q := Q)).mp q
    | ret r => exact (W_some (Q := Q)).mp q
    | ex r => exact (W_some (Q := Q)).mp q
  · refine fun h => W_mono h fun o q => ?_
    cases o with
    | nx b => exact q
    | ct a => exact (W_some (Q := Q)).mpr q
    | bk a => exact (W_some (Q := Q)).mpr q
    | ret r => exact (W_some (Q := Q)).mpr q
    | ex r => exact (W_some (Q := Q)).mpr q
theorem W_seqJ {m : Option (TO μ α ρ)} {k : μ → Option (TO ν α ρ)} {Q : TO ν α ρ → Prop} (P : μ → Prop) (h : W m fun o => ∃ b, o = .nx b ∧ P b) (hk : ∀ b, P b → W (k b) Q) : W (seqT m k) Q := by
  rw [W_seq]
  refine W_mono h fun o q => ?_
  obtain ⟨b, rfl, p⟩ := q
  exact hk b p
theorem W_ret {m : Option (TO Unit Unit ρ)} {Q : ρ → Prop} : W (retT m) Q ↔ W m fun o => match o with
    | .ret r => Q r
    | _ => False := by
  unfold retT
  rw [W_bind]
  constructor
  · refine fun h => W_mono h fun o q => ?_
    cases o with
    | ret r => exact (W_some (Q := Q)).mp q
    | _ => exact (W_none (Q := Q)).mp q
  · refine fun h => W_mono h fun o q => ?_
    cases o with
    | ret r => exact (W_some (Q := Q)).mpr q
    | _ => exact q.elim
theorem W_retU [Enc ρ] {v : ρ} {m : Option (TO Unit Unit ρ)} {Q : ρ → Prop} : W (retU v m) Q ↔ W m fun o => match o with
    | .ret r => Q r
    | .nx _ => Q v
    | _ => False := by
  unfold retU
  rw [W_bind]
  constructor
  · refine fun h => W_mono h fun o q => ?_
    cases o with
    | ret r => exact (W_some (Q := Q)).mp q
    | nx r => exact (W_some (Q := Q)).mp q
    | _ => exact (W_none (Q := Q)).mp q
  · refine fun h => W_mono h fun o q => ?_
    cases o with
    | ret r => exact (W_some (Q := Q)).mpr q
    | nx r => exact (W_some (Q := Q)).mpr q
    | _ => exact q.elim
theorem W_retX {m : Option (TO Unit Unit ρ)} {Q : ρ ⊕ Str → Prop} : W (retX m) Q ↔ W m fun o => match o with
    | .ret r => Q (.inl r)
    | .ex x => Q (.inr x)
    | _ => False := by
  unfold retX
  rw [W_bind]
  constructor
  · refine fun h => W_mono h fun o q => ?_
    cases o with
    | ret r => exact (W_some (Q := Q)).mp q
    | ex r => exact (W_some (Q := Q)).mp q
    | _ => exact (W_none (Q := Q)).mp q
  · refine fun h => W_mono h fun o q => ?_
    cases o with
    | ret r => exact (W_some (Q := Q)).mpr q
    | ex r => exact (W_some (Q := Q)).mpr q
    | _ => exact q.elim
theorem W_retXU {v : ρ} {m : Option (TO Unit Unit ρ)} {Q : ρ ⊕ Str → Prop} : W (retXU v m) Q ↔ W m fun o => match o with
    | .ret r => Q (.inl r)
    | .nx _ => Q (.inl v)
    | .ex x => Q (.inr x)
    | _ => False := by
  unfold retXU
  rw [W_bind]
  constructor
  · refine fun h => W_mono h fun o q => ?_
    cases o with
    | ret r => exact (W_some (Q := Q)).mp q
    | nx r => exact (W_some (Q := Q)).mp q
    | ex r => exact (W_some (Q := Q)).mp q
    | _ => exact (W_none (Q := Q)).mp q
  · refine fun h => W_mono h fun o q => ?_
    cases o with
    | ret r => exact (W_some (Q := Q)).mpr q
    | nx r => exact (W_some (Q := Q)).mpr q
    | ex r => exact (W_some (Q := Q)).mpr q
    | _ => exact q.elim
theorem W_bindX {m : Option (μ ⊕ Str)} {k : μ → Option (TO ν α ρ)} {Q : TO ν α ρ → Prop} : W (bindX m k) Q ↔ W m fun o => match o with
    | .inl v => W (k v) Q
    | .inr x => Q (.ex x) := by
  unfold bindX
  rw [W_bind]
  constructor
  · refine fun h => W_mono h fun o q => ?_
    cases o with
    | inl r => exact q
    | inr r => exact (W_some (Q := Q)).mp q
  · refine fun h => W_mono h fun o q => ?_
    cases o with
    | inl r => exact q
    | inr r => exact (W_some (Q := Q)).mpr q
theorem W_retO {m : Option (ρ ⊕ Str)} {Q : TO ν α ρ → Prop} : W (retO m) Q ↔ W m fun o => match o with
    | .inl v => Q (.ret v)
    | .inr x => Q (.ex x) := by
  unfold retO
  rw [W_bindX]
  constructor
  · refine fun h => W_mono h fun o q => ?_
    cases o with
    | inl r => exact (W_some (Q := Q)).mp q
    | inr r => exact q
  · refine fun h => W_mono h fun o q => ?_
    cases o with
    | inl r => exact (W_some (Q := Q)).mpr q
    | inr r => exact q
theorem W_noX {m : Option (ρ ⊕ Str)} {Q : ρ → Prop} : W (noX m) Q ↔ W m fun o => match o with
    | .inl v => Q v
    | .inr _ => False := by
  unfold noX
  rw [W_bind]
  constructor
  · refine fun h => W_mono h fun o q => ?_
    cases o with
    | inl r => exact (W_some (Q := Q)).mp q
    | inr r => exact (W_none (Q := Q)).mp q
  · refine fun h => W_mono h fun o q => ?_
    cases o with
    | inl r => exact (W_some (Q := Q)).mpr q
    | inr r => exact q.elim
theorem W_try {x : Str} {m n : Option (TO ν α ρ)} {Q : TO ν α ρ → Prop} : W (tryT x m n) Q ↔ W m fun o => match o with
    | .ex y => y = x ∧ W n fun o => match o with
      | .ex _ => False
      | o => Q o
    | o => Q o := by
  unfold tryT
  rw [W_bind]
  have inner : W (n.bind fun o => match o with
    | .ex _ => none
    | o => some o) Q ↔ W n fun o => match o with
      | .ex _ => False
      | o => Q o := by
    rw [W_bind]
    constructor
    · refine fun h => W_mono h fun o q => ?_
      cases o with
      | ex r => exact (W_none (Q := Q)).mp q
      | _ => exact (W_some (Q := Q)).mp q
    · refine fun h => W_mono h fun o q => ?_
      cases o with
      | ex r => exact q.elim
      | _ => exact (W_some (Q := Q)).mpr q
  constructor
  · refine fun h => W_mono h fun o q => ?_
    cases o with
    | ex r =>
      simp only at q
      split at q
      · rename_i h; exact ⟨h, inner.mp q⟩
      · exact ((W_none (Q := Q)).mp q).elim
    | _ => exact (W_some (Q := Q)).mp q
  · refine fun h => W_mono h fun o q => ?_
    cases o with
    | ex r =>
      obtain ⟨h, q⟩ := q
      simp only
      rw [if_pos h]
      exact inner.mpr q
    | _ => exact (W_some (Q := Q)).mpr q
/-- a loop: I i b holds ahead of turn i -/
theorem W_for {body : τ → β → Option (TO β β ρ)} {b0 : β} {Q : TO β α ρ → Prop} (I : Nat → β → Prop) : ∀ {l : List τ}, I 0 b0 → (∀ i (h : i < l.length) b, I i b → W (body l[i] b) fun o => match o with
    | .nx b' => I (i + 1) b'
    | .ct b' => I (i + 1) b'
    | .bk b' => Q (.nx b')
    | .ret r => Q (.ret r)
    | .ex x => Q (.ex x)) → (∀ b, I l.length b → Q (.nx b)) → W (forT l body b0) Q := by
  intro l
  induction l generalizing I b0 with
  | nil => intro h0 _ hd; exact ⟨_, rfl, hd _ h0⟩
  | cons v l ih =>
    intro h0 hs hd
    unfold forT
    rw [W_bind]
    refine W_mono (hs 0 (by simp) b0 h0) fun o q => ?_
    cases o with
    | nx b => exact ih (fun i b => I (i + 1) b) q (fun i h b hb => by have := hs (i + 1) (by simpa using h) b hb; simp only [List.getElem_cons_succ] at this; exact this) fun b hb => hd b (by simpa using hb)
    | ct b => exact ih (fun i b => I (i + 1) b) q (fun i h b hb => by have := hs (i + 1) (by simpa using h) b hb; simp only [List.getElem_cons_succ] at this; exact this) fun b hb => hd b (by simpa using hb)
    | bk b => exact ⟨_, rfl, q⟩
    | ret r => exact ⟨_, rfl, q⟩
    | ex r => exact ⟨_, rfl, q⟩
/-- a loop that keeps J, whatever the turn -/
theorem W_forI {body : τ → β → Option (TO β β ρ)} {b0 : β} {Q : TO β α ρ → Prop} (J : β → Prop) {l : List τ} (h0 : J b0) (hs : ∀ v ∈ l, ∀ b, J b → W (body v b) fun o => match o with
    | .nx b' => J b'
    | .ct b' => J b'
    | .bk b' => Q (.nx b')
    | .ret r => Q (.ret r)
    | .ex x => Q (.ex x)) (hd : ∀ b, J b → Q (.nx b)) : W (forT l body b0) Q :=
  W_for (fun _ b => J b) h0 (fun i h b hb => hs _ (List.getElem_mem h) b hb) hd
/-- a loop that does as a fold -/
theorem W_forF {body : τ → β → Option (TO β β ρ)} {b0 : β} {Q : TO β α ρ → Prop} (step : β → τ → β) (J : β → Prop) : ∀ {l : List τ}, J b0 → (∀ v ∈ l, ∀ b, J b → J (step b v) ∧ W (body v b) fun o => o = .nx (step b v)) → (J (l.foldl step b0) → Q (.nx (l.foldl step b0))) → W (forT l body b0) Q := by
  intro l
  induction l generalizing b0 with
  | nil => intro h0 _ hd; exact ⟨_, rfl, hd h0⟩
  | cons v l ih =>
    intro h0 hs hd
    unfold forT
    rw [W_bind]
    obtain ⟨h1, h2⟩ := hs v (by simp) b0 h0
    refine W_mono h2 fun o q => ?_
    subst q
    exact ih h1 (fun w hw b hb => hs w (by simp [hw]) b hb) hd
theorem W_mapN {e : α → Option β} {Q : List β → Prop} (R : α → β → Prop) : ∀ {l : List α}, (∀ v ∈ l, W (e v) (R v)) → (∀ r : List β, r.length = l.length → (∀ i (h : i < l.length) (h' : i < r.length), R l[i] r[i]) → Q r) → W (mapN l e) Q := by
  intro l
  induction l generalizing Q with
  | nil => intro _ q; exact ⟨[], rfl, q [] rfl fun i h => by simp at h⟩
  | cons v l ih =>
    intro h q
    unfold mapN
    rw [W_bind]
    refine W_mono (h v (by simp)) fun x hx => ?_
    rw [W_bind]
    refine ih (fun w hw => h w (by simp [hw])) fun r hl hr => ?_
    rw [W_some]
    refine q (x :: r) (by simp [hl]) fun i h1 h2 => ?_
    cases i with
    | zero => exact hx
    | succ i => exact hr i (by simpa using h1) (by simpa using h2)
/-- all items of the new list have P -/
theorem W_mapA {e : α → Option β} {Q : List β → Prop} (P : β → Prop) {l : List α} (h : ∀ v ∈ l, W (e v) P) (q : ∀ r : List β, r.length = l.length → (∀ x ∈ r, P x) → Q r) : W (mapN l e) Q :=
  W_mapN (fun _ x => P x) h fun r hl hr => q r hl fun x hx => by
    obtain ⟨i, hi, rfl⟩ := List.getElem_of_mem hx
    exact hr i (by omega) hi
/-- the new list is that of a plain function -/
theorem W_mapF {e : α → Option β} {Q : List β → Prop} (f : α → β) {l : List α} (h : ∀ v ∈ l, W (e v) fun x => x = f v) (q : Q (l.map f)) : W (mapN l e) Q :=
  W_mapN (fun v x => x = f v) h fun r hl hr => by
    have : r = l.map f := List.ext_getElem (by simp [hl]) fun i h1 h2 => by rw [hr i (by simpa using h2) h1]; simp
    rw [this]; exact q
theorem W_compF {t : α → Option Bool} {e : α → Option β} {Q : List β → Prop} (c : α → Bool) (f : α → β) : ∀ {l : List α}, (∀ v ∈ l, W (t v) fun x => x = c v) → (∀ v ∈ l, c v = true → W (e v) fun x => x = f v) → Q ((l.filter c).map f) → W (compN l t e) Q := by
  intro l
  induction l generalizing Q with
  | nil => intro _ _ q; exact ⟨[], rfl, q⟩
  | cons v l ih =>
    intro h k q
    unfold compN
    rw [W_bind]
    refine W_mono (h v (by simp)) fun x hx => ?_
    subst hx
    by_cases hc : c v = true
    · rw [if_pos hc, W_bind]
      refine W_mono (k v (by simp) hc) fun y hy => ?_
      subst hy
      rw [W_bind]
      refine ih (fun w hw => h w (by simp [hw])) (fun w hw => k w (by simp [hw])) ?_
      rw [W_some]
      rwa [List.filter_cons_of_pos hc, List.map_cons] at q
    · rw [if_neg hc]
      refine ih (fun w hw => h w (by simp [hw])) (fun w hw => k w (by simp [hw])) ?_
      rwa [List.filter_cons_of_neg hc] at q
/-! items -/
theorem W_ix {l : List α} {k : Int} {Q : α → Prop} (n : Nat) (h0 : k = (n : Int)) (h1 : n < l.length) (q : Q l[n]) : W (ixN l.length k) (fun j => j = n) ∧ W (atI l k) Q := by
  subst h0
  have e : ixN l.length (n : Int) = some n := by unfold ixN; rw [if_pos (by omega), if_pos (by omega)]; simp
  exact ⟨⟨n, e, rfl⟩, ⟨l[n], by unfold atI; rw [e]; simp [h1], q⟩⟩
theorem W_at {l : List α} {k : Int} {Q : α → Prop} (h0 : 0 ≤ k) (h1 : k < l.length) (q : ∀ h : k.toNat < l.length, Q l[k.toNat]) : W (atI l k) Q :=
  (W_ix k.toNat (by omega) (by omega) (q (by omega))).2
theorem W_atN {l : List α} {n : Nat} {Q : α → Prop} (h1 : n < l.length) (q : Q l[n]) : W (atI l (n : Int)) Q := (W_ix n rfl h1 q).2
theorem W_atM {l : List α} {k : Int} {Q : α → Prop} (P : α → Prop) (hP : ∀ x ∈ l, P x) (h0 : 0 ≤ k) (h1 : k < l.length) (q : ∀ x, P x → Q x) : W (atI l k) Q := W_at h0 h1 fun h => q _ (hP _ (List.getElem_mem h))
theorem W_ixN {n : Nat} {k : Int} {Q : Nat → Prop} (h0 : 0 ≤ k) (h1 : k < n) (q : Q k.toNat) : W (ixN n k) Q := ⟨k.toNat, by unfold ixN; rw [if_pos h0, if_pos h1], q⟩
theorem rangeL_len {i j : Int} : (rangeL i j).length = (j - i).toNat := by unfold rangeL; simp
theorem rangeL_get {i j : Int} {k : Nat} (h : k < (rangeL i j).length) : (rangeL i j)[k] = i + (k : Int) := by
  have e : (rangeL i j)[k]? = some (i + (k : Int)) := by
    rw [rangeL_len] at h
    unfold rangeL; simp [h]
  rw [List.getElem?_eq_getElem h] at e
  exact Option.some.inj e
theorem mem_rangeL {i j x : Int} : x ∈ rangeL i j ↔ i ≤ x ∧ x < j := by
  unfold rangeL
  simp only [List.mem_map, List.mem_range]
  constructor
  · rintro ⟨a, h, rfl⟩; omega
  · rintro ⟨h1, h2⟩; exact ⟨(x - i).toNat, by omega, by omega⟩
theorem rangeL_nat (n : Nat) : rangeL 0 (n : Int) = (List.range n).map fun i : Nat => (i : Int) := by
  unfold rangeL
  have : ((n : Int) - 0).toNat = n := by omega
  rw [this]
  exact List.map_congr_left fun i _ => by simp
end
/-! ### numbers -/
theorem fmod_pos {a b : Int} (h : 0 < b) : 0 ≤ a.fmod b ∧ a.fmod b < b := ⟨Int.fmod_nonneg_of_pos a h, Int.fmod_lt_of_pos a h⟩
theorem cFd_small {i j : Int} (h : j ≠ 0) (hb : j.natAbs.log2 < 9000) : cFd i j = true := yes_of ⟨h, PyProof.noPylong_of_log2 hb⟩
theorem cFd_30 {i j : Int} (h : j ≠ 0) (hb : j.natAbs < 1073741824) : cFd i j = true := yes_of ⟨h, PyProof.noPylong_small hb⟩
theorem cFd_p {i j : Int} (h : 0 < j) (hb : j < 1073741824) : cFd i j = true := cFd_30 (by omega) (by omega)
theorem mul_ok {i j : Int} {a b : Nat} (ha : i.natAbs < 2 ^ a) (hb : j.natAbs < 2 ^ b) (h : a + b ≤ 134217728) : mulOk i j = true := mulOk_of (mulx_ok ha hb h)
/-- factors below 10^30 -/
theorem mul_64 {i j : Int} (ha : i.natAbs < 1000000000000000000000000000000) (hb : j.natAbs < 1000000000000000000000000000000) : mulOk i j = true := mul_ok (a := 100) (b := 100) (by omega) (by omega) (by omega)
theorem pow_ok {i j : Int} (h0 : 0 ≤ j) (h1 : j ≤ 1000000) (h2 : i.natAbs < 18446744073709551616) : cPow i j = true := yes_of ⟨h0, h1, h2⟩
theorem sm62 {i : Int} (h : -1000000000000 ≤ i) (h2 : i ≤ 1000000000000) : small62 i = true := yes_of (by omega)
theorem rep1_ok {α : Type} [Enc α] {a : α} {j : Int} (h : -1000000 ≤ j) (h2 : j ≤ 1000000) : repOk ([a].map enc) j = true := repOk_of ⟨h2, by simp, h⟩
theorem rep1 {α : Type} (a : α) (n : Nat) : (List.replicate n [a]).flatten = List.replicate n a := by
  induction n with
  | zero => rfl
  | succ n ih => simp [List.replicate_succ, ih]
theorem mod_ok {a b : Int} {Q : Int → Prop} (h : 0 < b) (q : ∀ x, 0 ≤ x → x < b → Q x) : W (modN a b) Q := W_mod.mpr ⟨by omega, q _ (fmod_pos h).1 (fmod_pos h).2⟩
/-! ### sizes of lists of numbers -/
def Lt (k : Nat) (v : List Int) : Prop := ∀ i ∈ v, i.natAbs < 2 ^ k
theorem Lt.mono {k m : Nat} {v : List Int} (h : Lt k v) (hk : k ≤ m) : Lt m v := fun i hi => Nat.lt_of_lt_of_le (h i hi) (Nat.pow_le_pow_right (by omega) hk)
/-! ### repr and == of data without texts -/
/-- ints below 2^c, no texts -/
inductive Sm (c : Nat) : D → Prop
  | non : Sm c .none
  | bl {b} : Sm c (.bool b)
  | int {i : Int} : i.natAbs < 2 ^ c → Sm c (.int i)
  | lst {ds} : (∀ d ∈ ds, Sm c d) → Sm c (.list ds)
  | tup {ds} : (∀ d ∈ ds, Sm c d) → Sm c (.tuple ds)
theorem two_le_ten (c : Nat) : 2 ^ c ≤ 10 ^ c := Nat.pow_le_pow_left (by omega) c
mutual
theorem sm_all {c : Nat} (hc : c ≤ 1900) (h0 : 0 < c) : ∀ d : D, Sm c d → d.showable = true ∧ d.hasDict = false ∧ d.leavesShort (c + 8) = true ∧ d.canLay0 = true
  | .none, _ => ⟨rfl, rfl, rfl, rfl⟩
  | .bool b, _ => ⟨rfl, rfl, rfl, rfl⟩
  | .int i, h => by
    cases h with
    | int h =>
      refine ⟨?_, rfl, ?_, rfl⟩
      · have h1 : i.natAbs.log2 < 1920 := by
          by_cases hn : i.natAbs = 0
          · rw [hn]; decide
          · have := (Nat.log2_lt hn).mpr h
            omega
        simp [PyData.showable, h1]
      · have h1 : (PyData.shown (.int i)).length ≤ c + 8 := by
          show (Str.ofString (toString i)).length ≤ c + 8
          rw [ofString_length]
          have := int_text_length_le10 (a := i) (k := c) h0 (Nat.lt_of_lt_of_le h (two_le_ten c))
          omega
        simp [PyData.leavesShort, h1]
  | .str x, h => by cases h
  | .list ds, h => by
    cases h with
    | lst h =>
      obtain ⟨a, b, e, f⟩ := sms_all hc h0 ds h
      simp only [PyData.showable, PyData.hasDict, PyData.leavesShort, PyData.canLay0]
      exact ⟨a, b, e, f⟩
  | .tuple ds, h => by
    cases h with
    | tup h =>
      obtain ⟨a, b, e, f⟩ := sms_all hc h0 ds h
      simp only [PyData.showable, PyData.hasDict, PyData.leavesShort, PyData.canLay0]
      exact ⟨a, b, e, f⟩
  | .dict _, h => by cases h
theorem sms_all {c : Nat} (hc : c ≤ 1900) (h0 : 0 < c) : ∀ ds : List D, (∀ d ∈ ds, Sm c d) → PyData.showableAll ds = true ∧ PyData.hasDictAll ds = false ∧ PyData.leavesShortAll (c + 8) ds = true ∧ PyData.canLayAll0 ds = true
  | [], _ => ⟨rfl, rfl, rfl, rfl⟩
  | d :: ds, h => by
    obtain ⟨a, b, e, f⟩ := sm_all hc h0 d (h d (by simp))
    obtain ⟨a', b', e', f'⟩ := sms_all hc h0 ds fun x hx => h x (by simp [hx])
    simp [PyData.showableAll, PyData.hasDictAll, PyData.leavesShortAll, PyData.canLayAll0, a, b, e, f, a', b', e', f']
end
theorem repr_d {d : D} {c : Nat} (hr : isRefD d = true) (h : Sm c d) (hc : c ≤ 1900) (h0 : 0 < c) (hd : d.depth ≤ 60) (hb : d.bulk ≤ 8000) : gRepr [d] = some (.str d.shown) := by
  obtain ⟨h1, h2, h3, _⟩ := sm_all hc h0 d h
  have h5 := PyData.shown_le_bulk (c + 8) (by omega) d h3
  have h6 : d.shown.length ≤ sizeLine := by
    have e : sizeLine = 16777216 := by decide
    have : (c + 8 + 2) * d.bulk ≤ 1910 * 8000 := Nat.mul_le_mul (by omega) hb
    omega
  simp only [gRepr, hr, h1, h2, decide_eq_true hd, decide_eq_true h6, Bool.and_self, Bool.not_false, if_true]
section
variable {α β γ δ ε : Type} [Enc α] [Enc β] [Enc γ] [Enc δ] [Enc ε]
theorem repr_ok {a : α} {c : Nat} (hr : isRefD (enc a) = true) (h : Sm c (enc a)) (hc : c ≤ 1900) (h0 : 0 < c) (hd : (enc a).depth ≤ 60) (hb : (enc a).bulk ≤ 8000) : reprN a = some (enc a).shown := by
  unfold reprN
  rw [repr_d hr h hc h0 hd hb]
/-- how deep the data of a type may be -/
class Dep (α : Type) [Enc α] where
  n : Nat
  le : ∀ a : α, (enc a).depth ≤ n
instance : Dep Int := ⟨0, fun _ => Nat.le_refl _⟩
instance : Dep Bool := ⟨0, fun _ => Nat.le_refl _⟩
instance : Dep Unit := ⟨0, fun _ => Nat.le_refl _⟩
theorem depthAll_le {n : Nat} : ∀ {ds : List D}, (∀ d ∈ ds, d.depth ≤ n) → PyData.depthAll ds ≤ n
  | [], _ => Nat.zero_le _
  | d :: ds, h => by
    have h1 := h d (by simp)
    have h2 := depthAll_le (ds := ds) fun x hx => h x (by simp [hx])
    simp only [PyData.depthAll]
    omega
instance [Dep α] : Dep (List α) := ⟨Dep.n α + 1, fun l => by
  show PyData.depthAll (l.map enc) + 1 ≤ _
  have := depthAll_le (n := Dep.n α) (ds := l.map enc) fun d hd => by
    obtain ⟨a, _, rfl⟩ := List.mem_map.mp hd
    exact Dep.le a
  omega⟩
instance [Dep α] : Dep (Option α) := ⟨Dep.n α, fun o => by
  cases o with
  | none => exact Nat.zero_le _
  | some a => exact Dep.le a⟩
instance [Dep α] [Dep β] : Dep (T2 α β) := ⟨max (Dep.n α) (Dep.n β) + 1, fun t => by
  show PyData.depthAll [enc t.a, enc t.b] + 1 ≤ _
  have h1 := Dep.le t.a
  have h2 := Dep.le t.b
  simp only [PyData.depthAll]
  omega⟩
instance [Dep α] [Dep β] : Dep (H2 α β) := ⟨max (Dep.n α) (Dep.n β) + 1, fun t => by
  show PyData.depthAll [enc t.a, enc t.b] + 1 ≤ _
  have h1 := Dep.le t.a
  have h2 := Dep.le t.b
  simp only [PyData.depthAll]
  omega⟩
instance [Dep α] [Dep β] [Dep γ] : Dep (T3 α β γ) := ⟨max (Dep.n α) (max (Dep.n β) (Dep.n γ)) + 1, fun t => by
  show PyData.depthAll [enc t.a, enc t.b, enc t.c] + 1 ≤ _
  have h1 := Dep.le t.a
  have h2 := Dep.le t.b
  have h3 := Dep.le t.c
  simp only [PyData.depthAll]
  omega⟩
instance [Dep α] [Dep β] [Dep γ] [Dep δ] [Dep ε] : Dep (T5 α β γ δ ε) := ⟨max (Dep.n α) (max (Dep.n β) (max (Dep.n γ) (max (Dep.n δ) (Dep.n ε)))) + 1, fun t => by
  show PyData.depthAll [enc t.a, enc t.b, enc t.c, enc t.d, enc t.e] + 1 ≤ _
  have h1 := Dep.le t.a
  have h2 := Dep.le t.b
  have h3 := Dep.le t.c
  have h4 := Dep.le t.d
  have h5 := Dep.le t.e
  simp only [PyData.depthAll]
  omega⟩
/-! sizes by types -/
theorem sm_i {c : Nat} {i : Int} (h : i.natAbs < 2 ^ c) : Sm c (enc i) := .int h
theorem sm_b {c : Nat} {b : Bool} : Sm c (enc b) := .bl
theorem sm_l {c : Nat} {l : List α} (h : ∀ a ∈ l, Sm c (enc a)) : Sm c (enc l) := .lst fun d hd => by
  obtain ⟨a, ha, rfl⟩ := List.mem_map.mp hd
  exact h a ha
theorem sm_v {c : Nat} {v : List Int} (h : Lt c v) : Sm c (enc v) := sm_l fun i hi => sm_i (h i hi)
theorem sm_o {c : Nat} {o : Option α} (h : ∀ a, o = some a → Sm c (enc a)) : Sm c (enc o) := by
  cases o with
  | none => exact .non
  | some a => exact h a rfl
theorem sm_t2 {c : Nat} {t : T2 α β} (h1 : Sm c (enc t.a)) (h2 : Sm c (enc t.b)) : Sm c (enc t) := .tup fun d hd => by
  rcases List.mem_cons.mp hd with rfl | hd
  · exact h1
  · obtain rfl : d = _ := by simpa using hd
    exact h2
theorem sm_h2 {c : Nat} {t : H2 α β} (h1 : Sm c (enc t.a)) (h2 : Sm c (enc t.b)) : Sm c (enc t) := .lst fun d hd => by
  rcases List.mem_cons.mp hd with rfl | hd
  · exact h1
  · obtain rfl : d = _ := by simpa using hd
    exact h2
theorem sm_t3 {c : Nat} {t : T3 α β γ} (h1 : Sm c (enc t.a)) (h2 : Sm c (enc t.b)) (h3 : Sm c (enc t.c)) : Sm c (enc t) := .tup fun d hd => by
  simp only [List.mem_cons, List.not_mem_nil, or_false] at hd
  rcases hd with rfl | rfl | rfl
  · exact h1
  · exact h2
  · exact h3
theorem sm_t5 {c : Nat} {t : T5 α β γ δ ε} (h1 : Sm c (enc t.a)) (h2 : Sm c (enc t.b)) (h3 : Sm c (enc t.c)) (h4 : Sm c (enc t.d)) (h5 : Sm c (enc t.e)) : Sm c (enc t) := .tup fun d hd => by
  simp only [List.mem_cons, List.not_mem_nil, or_false] at hd
  rcases hd with rfl | rfl | rfl | rfl | rfl
  · exact h1
  · exact h2
  · exact h3
  · exact h4
  · exact h5
theorem bulkAll_le {b : Nat} : ∀ {ds : List D}, (∀ d ∈ ds, d.bulk ≤ b) → PyData.bulkAll ds ≤ ds.length * (b + 1)
  | [], _ => Nat.zero_le _
  | d :: ds, h => by
    have h1 := h d (by simp)
    have h2 := bulkAll_le (ds := ds) fun x hx => h x (by simp [hx])
    simp only [PyData.bulkAll, List.length_cons, Nat.succ_mul]
    omega
theorem bulk_i {i : Int} : (enc i).bulk ≤ 0 := Nat.le_refl _
theorem bulk_l {b n : Nat} {l : List α} (h : ∀ a ∈ l, (enc a).bulk ≤ b) (hl : l.length ≤ n) : (enc l).bulk ≤ n * (b + 1) := by
  show PyData.bulkAll (l.map enc) ≤ _
  have := bulkAll_le (b := b) (ds := l.map enc) fun d hd => by
    obtain ⟨a, ha, rfl⟩ := List.mem_map.mp hd
    exact h a ha
  rw [List.length_map] at this
  exact Nat.le_trans this (Nat.mul_le_mul_right _ hl)
theorem bulk_v {n : Nat} {v : List Int} (hl : v.length ≤ n) : (enc v).bulk ≤ n := by
  have := bulk_l (b := 0) (fun a _ => bulk_i (i := a)) hl
  simpa using this
theorem bulk_t2 {t : T2 α β} : (enc t).bulk = (enc t.a).bulk + 1 + ((enc t.b).bulk + 1) := rfl
theorem bulk_h2 {t : H2 α β} : (enc t).bulk = (enc t.a).bulk + 1 + ((enc t.b).bulk + 1) := rfl
/-! == by types -/
/-- == of data of the type is equality -/
class DEq (α : Type) [Enc α] where
  lay : ∀ a : α, (enc a).canLay0 = true
  iff : ∀ a b : α, PyData.eqv (enc a) (enc b) = true ↔ a = b
instance : DEq Int := ⟨fun _ => rfl, fun a b => by simp [enc, Enc.en, PyData.eqv]⟩
instance : DEq Bool := ⟨fun _ => rfl, fun a b => by simp [enc, Enc.en, PyData.eqv]⟩
theorem canLays [DEq α] : ∀ l : List α, PyData.canLayAll0 (l.map enc) = true
  | [] => rfl
  | a :: l => by
    have h := canLays l
    have h2 := DEq.lay a
    simp only [List.map_cons, PyData.canLayAll0, h, h2, Bool.and_self]
theorem eqvs [DEq α] : ∀ l m : List α, PyData.eqvAll (l.map enc) (m.map enc) = true ↔ l = m
  | [], [] => by simp [PyData.eqvAll]
  | [], b :: m => by simp [PyData.eqvAll]
  | a :: l, [] => by simp [PyData.eqvAll]
  | a :: l, b :: m => by
    have h := eqvs l m
    have h2 := DEq.iff a b
    simp only [List.map_cons, PyData.eqvAll, Bool.and_eq_true, h, h2, List.cons.injEq]
instance [DEq α] : DEq (List α) := ⟨fun l => canLays l, fun l m => eqvs l m⟩
instance [DEq α] [NoNone α] : DEq (Option α) := ⟨fun o => by
  cases o with
  | none => rfl
  | some a => exact DEq.lay a, fun o p => by
  cases o with
  | none =>
    cases p with
    | none => simp [enc, Enc.en, PyData.eqv]
    | some b =>
      have h := NoNone.no b
      show PyData.eqv .none (enc b) = true ↔ _
      revert h
      cases enc b <;> simp [PyData.eqv, isNd]
  | some a =>
    cases p with
    | none =>
      have h := NoNone.no a
      show PyData.eqv (enc a) .none = true ↔ _
      revert h
      cases enc a <;> simp [PyData.eqv, isNd]
    | some b =>
      show PyData.eqv (enc a) (enc b) = true ↔ _
      rw [DEq.iff, Option.some.injEq]⟩
instance [DEq α] [DEq β] : DEq (T2 α β) := ⟨fun t => by
  show PyData.canLayAll0 [enc t.a, enc t.b] = true
  simp [PyData.canLayAll0, DEq.lay], fun t u => by
  show PyData.eqvAll [enc t.a, enc t.b] [enc u.a, enc u.b] = true ↔ _
  cases t; cases u
  simp [PyData.eqvAll, DEq.iff]⟩
instance [DEq α] [DEq β] : DEq (H2 α β) := ⟨fun t => by
  show PyData.canLayAll0 [enc t.a, enc t.b] = true
  simp [PyData.canLayAll0, DEq.lay], fun t u => by
  show PyData.eqvAll [enc t.a, enc t.b] [enc u.a, enc u.b] = true ↔ _
  cases t; cases u
  simp [PyData.eqvAll, DEq.iff]⟩
instance [DEq α] [DEq β] [DEq γ] : DEq (T3 α β γ) := ⟨fun t => by
  show PyData.canLayAll0 [enc t.a, enc t.b, enc t.c] = true
  simp [PyData.canLayAll0, DEq.lay], fun t u => by
  show PyData.eqvAll [enc t.a, enc t.b, enc t.c] [enc u.a, enc u.b, enc u.c] = true ↔ _
  cases t; cases u
  simp [PyData.eqvAll, DEq.iff]⟩
instance [DEq α] [DEq β] [DEq γ] [DEq δ] [DEq ε] : DEq (T5 α β γ δ ε) := ⟨fun t => by
  show PyData.canLayAll0 [enc t.a, enc t.b, enc t.c, enc t.d, enc t.e] = true
  simp [PyData.canLayAll0, DEq.lay], fun t u => by
  show PyData.eqvAll [enc t.a, enc t.b, enc t.c, enc t.d, enc t.e] [enc u.a, enc u.b, enc u.c, enc u.d, enc u.e] = true ↔ _
  cases t; cases u
  simp [PyData.eqvAll, DEq.iff]⟩
noncomputable def eqB (a b : α) : Bool := yes (a = b)
theorem eqB_iff {a b : α} : eqB a b = true ↔ a = b := ⟨of_yes, yes_of⟩
theorem eqB_self {a : α} : eqB a a = true := yes_of rfl
theorem eqB_ne {a b : α} (h : a ≠ b) : eqB a b = false := by
  cases hb : eqB a b with
  | false => rfl
  | true => exact absurd (eqB_iff.mp hb) h
theorem eqv_eqB [DEq α] (a b : α) : PyData.eqv (enc a) (enc b) = eqB a b := by
  by_cases h : a = b
  · rw [(DEq.iff a b).mpr h, eqB_iff.mpr h]
  · rw [eqB_ne h]
    cases hb : PyData.eqv (enc a) (enc b) with
    | false => rfl
    | true => exact absurd ((DEq.iff a b).mp hb) h
theorem shaped_t [DEq α] [d : Dep α] (h : d.n ≤ 64) (a : α) : SeqAt.shaped (enc a) = true := by
  unfold SeqAt.shaped
  rw [DEq.lay a, decide_eq_true (Nat.le_trans (Dep.le a) h)]
  rfl
theorem W_eqT [DEq α] [d : Dep α] (h : d.n ≤ 64) {a b : α} {Q : Bool → Prop} : W (eqN a b) Q ↔ Q (eqB a b) := by
  unfold eqN
  rw [shaped_t h, shaped_t h, eqv_eqB]
  exact W_some
theorem W_neT [DEq α] [d : Dep α] (h : d.n ≤ 64) {a b : α} {Q : Bool → Prop} : W (neN a b) Q ↔ Q (!eqB a b) := by
  unfold neN
  rw [shaped_t h, shaped_t h, eqv_eqB]
  exact W_some
theorem W_inT [DEq α] [d : Dep α] (h : d.n ≤ 63) {a : α} {l : List α} {Q : Bool → Prop} : W (inN a l) Q ↔ Q (l.any fun z => eqB z a) := by
  unfold inN
  rw [shaped_t (by omega), shaped_t (by show d.n + 1 ≤ 64; omega)]
  simp only [eqv_eqB]
  exact W_some
theorem W_notInT [DEq α] [d : Dep α] (h : d.n ≤ 63) {a : α} {l : List α} {Q : Bool → Prop} : W (notInN a l) Q ↔ Q (!l.any fun z => eqB z a) := by
  unfold notInN
  rw [shaped_t (by omega), shaped_t (by show d.n + 1 ≤ 64; omega)]
  simp only [eqv_eqB]
  exact W_some
end
theorem W_eqI {a b : Int} {Q : Bool → Prop} : W (eqN a b) Q ↔ Q (a == b) := by
  have e : eqN a b = some (a == b) := rfl
  rw [e]; exact W_some
theorem W_neI {a b : Int} {Q : Bool → Prop} : W (neN a b) Q ↔ Q (!(a == b)) := by
  have e : neN a b = some (!(a == b)) := rfl
  rw [e]; exact W_some
theorem W_eqBo {a b : Bool} {Q : Bool → Prop} : W (eqN a b) Q ↔ Q (a == b) := by
  have e : eqN a b = some (a == b) := rfl
  rw [e]; exact W_some
theorem W_neBo {a b : Bool} {Q : Bool → Prop} : W (neN a b) Q ↔ Q (!(a == b)) := by
  have e : neN a b = some (!(a == b)) := rfl
  rw [e]; exact W_some
end Ty
set_option Elab.async false
set_option linter.all false
set_option maxRecDepth 100000
/-! Ty: sorted(e, key=lambda ..). -/
namespace Ty
open PySem PySem.Spec L2 Fx
section
variable {α β : Type} [Enc α] {ps : List SP} {fa fb : DS → Option (RV × DS)}
def sortN (ks : List Int) (l : List α) : Option (List α) := if l.length < 64 ∧ ks.Nodup then some (sortBy ks l) else none
/-- the captured slots -/
inductive Caps (ps : List SP) : List Nat → List D → Prop
  | nil : Caps ps [] []
  | cons {j : Nat} {js : List Nat} {d : D} {ds : List D} : ps[j]? = some (sh d) → Caps ps js ds → Caps ps (j :: js) (d :: ds)
theorem Caps.ok {ds : DS} (S : Ss ps ds) : ∀ {js : List Nat} {cv : List D}, Caps ps js cv → capV ds js = some cv
  | _, _, .nil => rfl
  | _, _, .cons h t => by
    obtain ⟨x, e, k⟩ := S.get h
    have k : x = some (.sh _) := k
    subst k
    simp only [capV, e, Caps.ok S t, Option.map_some]
theorem ss_shs : ∀ l : List D, Ss (l.map sh) (shs l)
  | [] => True.intro
  | d :: l => ⟨rfl, ss_shs l⟩
theorem keysF_ok {cv : List D} {mk : α → Option Int} (hb : ∀ a, ExC ((enc a :: cv).map sh) fb (mk a)) : ∀ {l : List α} {ks : List Int}, mapN l mk = some ks → keysF fb cv (l.map enc) = some ks
  | [], _, e => by cases e; rfl
  | a :: l, ks, e => by
    simp only [mapN, Option.bind_eq_some_iff] at e
    obtain ⟨k, e1, r, e2, e3⟩ := e
    cases e3
    obtain ⟨ds', h1, _⟩ := hb a k e1 _ (ss_shs _)
    have h2 : fb (some (OV.sh (enc a)) :: List.map (fun d => some (OV.sh d)) cv) = some (.ov (.sh (.int k)), ds') := h1
    simp only [List.map_cons, keysF, h2, keysF_ok hb e2, Option.map_some]
theorem mapN_len {γ : Type} {mk : α → Option γ} : ∀ {l : List α} {ks : List γ}, mapN l mk = some ks → ks.length = l.length
  | [], _, e => by cases e; rfl
  | a :: l, ks, e => by
    simp only [mapN, Option.bind_eq_some_iff] at e
    obtain ⟨k, e1, r, e2, e3⟩ := e
    cases e3
    simp [mapN_len e2]
theorem sortBy_map (ks : List Int) (l : List α) (h : ks.Nodup) (hl : ks.length = l.length) : sortBy ks (l.map enc) = (sortBy ks l).map enc := by
  have h1 : ((ks.zip l).mergeSort fun p q => decide (p.1 ≤ q.1)).Perm (ks.zip l) := List.mergeSort_perm _ _
  have h2 : ((ks.zip l).mergeSort fun p q => decide (p.1 ≤ q.1)).Pairwise (fun p q => p.1 ≤ q.1) :=
    (List.pairwise_mergeSort (le := fun p q : Int × α => decide (p.1 ≤ q.1)) (fun a b c h1 h2 => by simp only [decide_eq_true_eq] at *; omega) (fun a b => by simp only [Bool.or_eq_true, decide_eq_true_eq]; omega) (ks.zip l)).imp fun h => of_decide_eq_true h
  have e : ks.zip (l.map enc) = (ks.zip l).map fun p => (p.1, enc p.2) := by
    refine List.ext_getElem (by simp) fun i a1 a2 => ?_
    simp
  have k1 : (((ks.zip l).mergeSort fun p q => decide (p.1 ≤ q.1)).map fun p => (p.1, enc p.2)).Perm (ks.zip (l.map enc)) := by rw [e]; exact h1.map _
  have k2 : (((ks.zip l).mergeSort fun p q => decide (p.1 ≤ q.1)).map fun p => (p.1, enc p.2)).Pairwise fun p q => p.1 ≤ q.1 := by rw [List.pairwise_map]; exact h2
  rw [← sortBy_eq k1 k2 (by simpa using hl) h]
  unfold sortBy
  rw [List.map_map, List.map_map]; rfl
theorem v_sortK {js : List Nat} {cv : List D} {ma : Option (List α)} {mk : α → Option Int} (hc : Caps ps js cv) (hb : ∀ a, ExC ((enc a :: cv).map sh) fb (mk a)) (ha : ExV ps fa ma) : ExF ps (fSortK js fb fa) (ma.bind fun l => (mapN l mk).bind fun ks => sortN ks l) := by
  intro v e ds S
  simp only [Option.bind_eq_some_iff] at e
  obtain ⟨l, e1, ks, e2, e3⟩ := e
  unfold sortN at e3
  split at e3
  · rename_i hg
    cases e3
    obtain ⟨r, d1, k1, S1, q1⟩ := ha l e1 ds S
    obtain ⟨d2, k2, S2⟩ := frz_of q1 S1
    simp only [enc, Enc.en] at k2
    refine ⟨d2, ?_, S2⟩
    have hc2 := hc.ok S2
    have hk := keysF_ok hb e2
    simp only [fSortK, k1, k2, bindSome, hc2, hk]
    rw [if_pos ⟨by rw [List.length_map]; exact hg.1, hg.2⟩, sortBy_map ks l hg.2 (mapN_len e2)]
  · cases e3
/-- a number where None might be -/
theorem v_unopt {m : Option (Option α)} (h : ExC ps fa m) : ExC ps fa (m.bind fun o => o) := by
  intro v e ds S
  simp only [Option.bind_eq_some_iff] at e
  obtain ⟨o, e1, e2⟩ := e
  subst e2
  exact h (some v) e1 ds S
end
end Ty
set_option Elab.async false
set_option linter.all false
set_option maxRecDepth 100000
/-! Ty: moved arguments. -/
namespace Ty
open PySem PySem.Spec L2 Fx
section
variable {α β τ σ ρ ν : Type} [Enc α] [Enc β] [Enc τ] [Enc σ]
variable {ps : List SP} {fa fb : DS → Option (RV × DS)} {fr : DS → Option (List RV × DS)} {gk : DS → Option Out} {Jn : ν → List SP} {J : α → List SP} {Jx : List SP} {R : ρ → OV → Prop}
theorem moved_ok {n i : Nat} {g : DS → Option DR} {v : List τ} {mr : Option (List D)} (ha : ArV ps fr mr) (hi : ps[i]? = some (fl (v.map enc))) {l : List D} (hl : mr = some l) (hn : l.length + 1 = n) {o : OV} {dd : DS} (hg : g (some (.flat (v.map enc)) :: shs l) = some (.ret o dd)) {ds : DS} (S : Ss ps ds) :
    ∃ ds', fCallM n g i fr ds = some (.ov o, ds'.set i none) ∧ Ss ps ds' := by
  obtain ⟨x, e0, k0⟩ := S.get hi
  have k0 : x = some (.flat (v.map enc)) := k0
  subst k0
  obtain ⟨rs, d1, k1, S1, q1⟩ := ha l hl ds S
  obtain ⟨d2, k2, S2⟩ := frzs_of S1 q1
  obtain ⟨y, e3, k3⟩ := S2.get hi
  have k3 : y = some (.flat (v.map enc)) := k3
  subst k3
  refine ⟨d2, ?_, S2⟩
  simp only [fCallM, e0, k1, k2, e3, bindSome]
  rw [if_pos hn, hg]; rfl
/-- x = f(x, a, b), x an own list -/
theorem b_setM2 (i : Nat) {n : Nat} {g : DS → Option DR} {v : List τ} {ρ' : Type} [Enc ρ'] {ma : Option β} {mb : Option σ} {m : List τ → β → σ → Option (List ρ')} {k : List ρ' → Option (TO ν α ρ)} (T : ∀ v a b r, m v a b = some r → DRel RtF r (g (some (.flat (v.map enc)) :: shs [enc a, enc b]))) (ha : ExV ps fa ma) (hb : ExV ps fb mb)
    (hg : ∀ r : List ρ', Bk (ps.set i (fl (r.map enc))) gk (k r) Jn J Jx R) (hi : ps[i]? = some (fl (v.map enc)) := by rfl) (hn : n = 3 := by rfl) :
    Bk ps (fSeq (fSet i (fCallM n g i (fCons fa (fCons fb fNil)))) gk) ((ma.bind fun a => mb.bind fun b => m v a b).bind k) Jn J Jx R := by
  intro o e ds S
  simp only [Option.bind_eq_some_iff] at e
  obtain ⟨r, ⟨a, e1, b, e2, e3⟩, e4⟩ := e
  obtain ⟨o1, dd, g1, g2⟩ := T v a b r e3
  have g2 : o1 = .flat (r.map enc) := g2
  subst g2
  subst hn
  obtain ⟨d2, c1, S2⟩ := moved_ok (n := 3) (a_c ha (a_c hb a_n)) hi (l := [enc a, enc b]) (by rw [e1, e2]; rfl) rfl g1 S
  have S3 := (S2.set i (x := none) (p := isN) rfl).set i (x := some (.flat (r.map enc))) (p := fl (r.map enc)) rfl
  obtain ⟨out, k4, rl⟩ := hg r o e4 _ (by rw [List.set_set] at S3; exact S3)
  refine ⟨out, ?_, rl⟩
  simp only [fSeq, fSet, c1, bindSome]
  exact k4
/-- a def whose first argument is moved -/
def startM (n : Nat) (p : SP) (l : List D) : List SP := p :: (l.map sh ++ List.replicate (n - (l.length + 1)) isN)
theorem def_ofM {io : List Nat} {n p : Nat} {fb : DS → Option Out} {v : List τ} {l : List D} {m : Option (TO Unit Unit ρ)} {Jn J : Unit → List SP} (h : Bk (startM n (fl (v.map enc)) l) fb m Jn J Jx R) (hp : l.length + 1 = p := by rfl) : ∀ r, retT m = some r → DRel R r (funO io p n fb (some (.flat (v.map enc)) :: shs l)) := by
  intro r e
  subst hp
  simp only [retT, Option.bind_eq_some_iff] at e
  obtain ⟨o, e1, e2⟩ := e
  have S0 : Ss (startM n (fl (v.map enc)) l) (padD (l.length + 1) n (some (.flat (v.map enc)) :: shs l)) := by
    have e : padD (l.length + 1) n (some (.flat (v.map enc)) :: shs l) = some (.flat (v.map enc)) :: (shs l ++ List.replicate (n - (l.length + 1)) none) := by
      unfold padD
      rw [List.take_of_length_le (by simp), List.drop_of_length_le (by simp), List.append_nil]
      rfl
    rw [e]
    refine ⟨rfl, ?_⟩
    generalize n - (l.length + 1) = k
    clear h e
    induction l with
    | nil => exact ss_rep k
    | cons d l ih => exact ⟨rfl, ih⟩
  cases o with
  | ret r' =>
    cases e2
    obtain ⟨out, k1, rl⟩ := h _ e1 _ S0
    cases out with
    | ret o => exact ⟨o, _, by unfold funO; rw [k1], rl⟩
    | _ => exact rl.elim
  | _ => cases e2
end
end Ty
set_option Elab.async false
set_option linter.all false
set_option maxRecDepth 100000
/-! Ty: a comprehension over an own list that stays owned. -/
namespace Ty
open PySem PySem.Spec L2 Fx
section
variable {α β : Type} [Enc α] [Enc β]
variable {ps : List SP} {ft : DS → Option (Bool × DS)}
theorem set_back {γ : Type} {l : List γ} {j : Nat} {x y : γ} (h : l[j]? = some x) : (l.set j y).set j x = l := by
  rw [List.set_set]
  refine List.ext_getElem? fun i => ?_
  by_cases hj : j = i
  · subst hj
    rw [h]
    exact List.getElem?_set_self (List.getElem?_eq_some_iff.mp h).1
  · exact List.getElem?_set_ne hj
theorem v_lcBT (j : Nat) {l : List α} {vs : List Nat} {psT : α → List SP} {g : D → DS → Option DS} {fe : DS → Option (RV × DS)} {t : α → Option Bool} {e : α → Option β} (hn : Nfs (ps.set j isN) vs) (hg : ∀ v : α, Tg (wipeP (ps.set j isN) vs) g (enc v) (psT v)) (ht : ∀ v, Te (psT v) ft (t v)) (he : ∀ v, ExV (psT v) fe (e v)) (hj : ps[j]? = some (fl (l.map enc)) := by rfl) (hw : ∀ v, wipeP (psT v) vs = wipeP (ps.set j isN) vs := by intro _; rfl) :
    ExF ps (fLcB j g ft fe vs) ((lenN l).bind fun l => compN l t e) := by
  intro r h ds S
  simp only [Option.bind_eq_some_iff] at h
  obtain ⟨l', h2, h3⟩ := h
  unfold lenN at h2
  split at h2
  · rename_i hl
    cases h2
    obtain ⟨x, e0, k0⟩ := S.get hj
    have k0 : x = some (.flat (l.map enc)) := k0
    subst k0
    have S1 := S.set j (x := none) (p := isN) rfl
    obtain ⟨w', e1, S2⟩ := lcF_ok hw hg ht he l r _ [] h3 (S1.wipe vs)
    have S3 := (S1.mended S2).set j (x := some (.flat (l.map enc))) (p := fl (l.map enc)) rfl
    rw [set_back hj] at S3
    refine ⟨(mend (ds.set j none) w' vs).set j (some (.flat (l.map enc))), ?_, S3⟩
    have hl' : decide ((l.map enc).length ≤ 1000000) = true := by rw [List.length_map]; exact decide_eq_true hl
    simp only [fLcB, e0, hn.all S1, hl', Bool.and_self, if_true, e1, Option.map_some, List.nil_append]
  · cases h2
theorem v_lcB (j : Nat) {l : List α} {vs : List Nat} {psT : α → List SP} {g : D → DS → Option DS} {fe : DS → Option (RV × DS)} {e : α → Option β} (hn : Nfs (ps.set j isN) vs) (hg : ∀ v : α, Tg (wipeP (ps.set j isN) vs) g (enc v) (psT v)) (he : ∀ v, ExV (psT v) fe (e v)) (hj : ps[j]? = some (fl (l.map enc)) := by rfl) (hw : ∀ v, wipeP (psT v) vs = wipeP (ps.set j isN) vs := by intro _; rfl) :
    ExF ps (fLcB j g fYes fe vs) ((lenN l).bind fun l => mapN l e) := by
  have h := v_lcBT (l := l) (t := fun _ => some true) j hn hg (fun v => t_yes) he hj hw
  simpa only [mapN_comp] using h
end
end Ty
set_option Elab.async false
set_option linter.all false
set_option maxRecDepth 100000
/-! Ty: min, max, a < b < c, sorted(rows of numbers), numbers of the module. -/
namespace Ty
open PySem PySem.Spec L2 Fx
def sortI (l : List (List Int)) : List (List Int) := l.mergeSort fun a b => !HT.lexLt b a
def sortedN (l : List (List Int)) : Option (List (List Int)) := if l.length ≤ 1000000 then some (sortI l) else none
theorem toksAll_cons (x : Int) (xs : List D) : PySem.W.keyToksAll (.int x :: xs) = .inl 1 :: .inl x :: PySem.W.keyToksAll xs := by
  rw [PySem.W.keyToksAll, PySem.W.keyToks]; rfl
theorem toksAll_nil : PySem.W.keyToksAll [] = [.inl 0] := by rw [PySem.W.keyToksAll]
open PySem.W PyProof.Rows in
theorem toks_ints : ∀ a b : List Int, PyProof.Rows.lexLt itemOrd (keyToksAll (a.map enc)) (keyToksAll (b.map enc)) = HT.lexLt a b
  | [], [] => by
    rw [List.map_nil, toksAll_nil, lex_irrefl]; rfl
  | [], y :: b => by
    rw [List.map_nil, List.map_cons, toksAll_nil, show (enc y : D) = .int y from rfl, toksAll_cons, lex_diff (O := itemOrd) (by simp)]
    simp [itemLt, HT.lexLt_nil_cons]
  | x :: a, [] => by
    rw [List.map_nil, List.map_cons, toksAll_nil, show (enc x : D) = .int x from rfl, toksAll_cons, lex_diff (O := itemOrd) (by simp)]
    simp [itemLt, HT.lexLt_cons_nil]
  | x :: a, y :: b => by
    rw [List.map_cons, List.map_cons, show (enc x : D) = .int x from rfl, show (enc y : D) = .int y from rfl, toksAll_cons, toksAll_cons, lex_self (O := itemOrd), HT.lexLt_cons]
    by_cases h : x = y
    · subst h
      rw [lex_self (O := itemOrd), if_pos rfl]
      exact toks_ints a b
    · rw [lex_diff (O := itemOrd) (by simpa using h), if_neg h]
      simp [itemLt]
theorem dataLt_ints (a b : List Int) : PySem.W.dataLt (enc a) (enc b) = HT.lexLt a b := by
  show PySem.W.dataLt (.list (a.map enc)) (.list (b.map enc)) = _
  rw [PySem.W.dataLt_list]
  exact toks_ints a b
theorem alike_ints : ∀ a b : List Int, PySem.W.alikeAll (a.map enc) (b.map enc) = true
  | [], _ => by rw [List.map_nil, PySem.W.alikeAll]
  | _ :: _, [] => by rw [List.map_nil, List.map_cons, PySem.W.alikeAll]
  | x :: a, y :: b => by
    rw [List.map_cons, List.map_cons, PySem.W.alikeAll, alike_ints a b]
    show (PySem.W.alike (.int x) (.int y) && true) = true
    rw [PySem.W.alike]; rfl
theorem depth_ints : ∀ a : List Int, PyData.depthAll (a.map enc) = 0
  | [] => rfl
  | x :: a => by
    rw [List.map_cons, PyData.depthAll, depth_ints a]; rfl
theorem sortOk_rows {l : List (List Int)} (h : l.length ≤ 1000000) : SortOk (l.map enc) := by
  refine ⟨fun d hd d' hd' => ?_, .inr fun d hd => ?_, fun d hd => ?_, by rw [List.length_map]; exact h⟩
  · obtain ⟨a, _, rfl⟩ := List.mem_map.mp hd
    obtain ⟨b, _, rfl⟩ := List.mem_map.mp hd'
    show PySem.W.alike (.list (a.map enc)) (.list (b.map enc)) = true
    rw [PySem.W.alike]
    exact alike_ints a b
  · obtain ⟨a, _, rfl⟩ := List.mem_map.mp hd
    exact ⟨(fun z => nomatch (show PyData.list _ = PyData.none from z)), fun xs z => nomatch (show PyData.list _ = PyData.tuple _ from z)⟩
  · obtain ⟨a, _, rfl⟩ := List.mem_map.mp hd
    show PyData.depthAll (a.map enc) + 1 ≤ 40
    rw [depth_ints]; omega
theorem sortD_rows (l : List (List Int)) : sortD (l.map enc) = (sortI l).map enc := by
  unfold sortD sortI
  exact (PySem.W.sort_maps (s := leD) (enc : List Int → D) (fun a _ b _ => by unfold leD; rw [dataLt_ints])).symm
section
variable {ps : List SP} {fa fb fc : DS → Option (RV × DS)}
theorem v_sorted {ma : Option (List (List Int))} (ha : ExV ps fa ma) : ExF ps (fNew gSorted (fCons fa fNil)) (ma.bind fun l => sortedN l) := by
  intro v e ds S
  simp only [Option.bind_eq_some_iff] at e
  obtain ⟨l, e1, e2⟩ := e
  unfold sortedN at e2
  split at e2
  · rename_i hl
    cases e2
    obtain ⟨rs, d1, k1, S1, q1⟩ := (a_c ha a_n) [enc l] (by rw [e1]; rfl) ds S
    obtain ⟨d2, k2, S2⟩ := frzs_of S1 q1
    refine ⟨d2, ?_, S2⟩
    have g : gSorted [enc l] = some ((sortI l).map enc) := by
      show (if yes (SortOk (l.map enc)) = true then some (sortD (l.map enc)) else none) = _
      rw [if_pos (yes_of (sortOk_rows hl)), sortD_rows]
    simp only [fNew, k1, k2, bindSome, g, Option.map_some]
  · cases e2
theorem v_min2 {ma mb : Option Int} (ha : ExS ps fa ma) (hb : ExS ps fb mb) : ExC ps (fCa (g2I fun i j => if j < i then j else i) (fCons fa (fCons fb fNil))) (ma.bind fun a => mb.bind fun b => some (if b < a then b else a)) := v_ca2 (fun a b => some (if b < a then b else a)) (fun a b v h => by cases h; rfl) ha hb
theorem v_max2 {ma mb : Option Int} (ha : ExS ps fa ma) (hb : ExS ps fb mb) : ExC ps (fCa (g2I fun i j => if j > i then j else i) (fCons fa (fCons fb fNil))) (ma.bind fun a => mb.bind fun b => some (if a < b then b else a)) := v_ca2 (fun a b => some (if a < b then b else a)) (fun a b v h => by cases h; rfl) ha hb
theorem v_chain {f f' : Int → Int → Bool} {ma mb mc : Option Int} (ha : ExS ps fa ma) (hb : ExS ps fb mb) (hc : ExS ps fc mc) : ExC ps (fCh f f' fa fb fc) (ma.bind fun a => mb.bind fun b => if f a b = true then mc.bind fun c => some (f' b c) else some false) := by
  intro v e ds S
  simp only [Option.bind_eq_some_iff] at e
  obtain ⟨a, e1, b, e2, e3⟩ := e
  obtain ⟨r1, d1, k1, S1, q1⟩ := ha a e1 ds S
  obtain ⟨r2, d2, k2, S2, q2⟩ := hb b e2 d1 S1
  have s1 : see r1 d2 = some (.int a) := see_of q1 S2
  have s2 : see r2 d2 = some (.int b) := see_of q2 S2
  split at e3
  · rename_i hf
    simp only [Option.bind_eq_some_iff] at e3
    obtain ⟨c, e4, e5⟩ := e3
    cases e5
    obtain ⟨r3, d3, k3, S3, q3⟩ := hc c e4 d2 S2
    have s3 : see r3 d3 = some (.int c) := see_of q3 S3
    exact ⟨d3, by simp only [fCh, k1, k2, k3, bindSome, s1, s2, s3, hf, if_true]; rfl, S3⟩
  · rename_i hf
    cases e3
    exact ⟨d2, by simp only [fCh, k1, k2, bindSome, s1, s2]; rw [if_neg hf]; rfl, S2⟩
variable {α : Type} [Enc α]
theorem v_unoptV {m : Option (Option α)} (h : ExV ps fa m) : ExV ps fa (m.bind fun o => o) := by
  intro v e ds S
  simp only [Option.bind_eq_some_iff] at e
  obtain ⟨o, e1, e2⟩ := e
  subst e2
  exact h (some v) e1 ds S
theorem v_unoptS {m : Option (Option α)} (h : ExS ps fa m) : ExS ps fa (m.bind fun o => o) := by
  intro v e ds S
  simp only [Option.bind_eq_some_iff] at e
  obtain ⟨o, e1, e2⟩ := e
  subst e2
  exact h (some v) e1 ds S
/-- is None, of what is None by its type, or never -/
theorem v_isNU {ma : Option Unit} (ha : ExS ps fa ma) : ExC ps (fOp gIsN2 fa (fC .none)) (ma.bind fun _ => some true) := by
  have h := v_op (mb := some ()) (g := gIsN2) (fun (_ : Unit) (_ : Unit) => some true) (fun a b v h => by cases h; rfl) ha (v_c (v := ()) (d := .none)).s
  exact h
theorem v_notNU {ma : Option Unit} (ha : ExS ps fa ma) : ExC ps (fOp gNotN2 fa (fC .none)) (ma.bind fun _ => some false) := by
  have h := v_op (mb := some ()) (g := gNotN2) (fun (_ : Unit) (_ : Unit) => some false) (fun a b v h => by cases h; rfl) ha (v_c (v := ()) (d := .none)).s
  exact h
theorem v_isNS [NoNone α] {ma : Option α} (ha : ExS ps fa ma) : ExC ps (fOp gIsN2 fa (fC .none)) (ma.bind fun _ => some false) := by
  have h := v_op (mb := some ()) (g := gIsN2) (fun (_ : α) (_ : Unit) => some false) (fun a b v h => by
    cases h
    show some (PyData.bool (isNd (enc a))) = _
    rw [NoNone.no a]; rfl) ha (v_c (v := ()) (d := .none)).s
  exact h
theorem v_notNS [NoNone α] {ma : Option α} (ha : ExS ps fa ma) : ExC ps (fOp gNotN2 fa (fC .none)) (ma.bind fun _ => some true) := by
  have h := v_op (mb := some ()) (g := gNotN2) (fun (_ : α) (_ : Unit) => some true) (fun a b v h => by
    cases h
    show some (PyData.bool (!(isNd (enc a)))) = _
    rw [NoNone.no a]; rfl) ha (v_c (v := ()) (d := .none)).s
  exact h
end
theorem W_sorted {l : List (List Int)} {Q : List (List Int) → Prop} : W (sortedN l) Q ↔ l.length ≤ 1000000 ∧ Q (sortI l) := by
  unfold sortedN; rw [W_ite, W_some, W_none]; split <;> simp [*]
end Ty
set_option Elab.async false
set_option linter.all false
set_option maxRecDepth 100000
/-! Ty: owned trees. -/
namespace Ty
open PySem PySem.Spec L2 Fx
/-- wholly owned -/
def ow (d : D) : SP := fun x => x = some (nrm d)
section
variable {α β γ τ σ ρ ν μ : Type} [Enc α] [Enc β] [Enc γ] [Enc τ] [Enc σ] [Enc ρ]
variable {ps ps' : List SP} {f fa fb fc fe fk : DS → Option (RV × DS)} {ft : DS → Option (Bool × DS)} {fr : DS → Option (List RV × DS)} {g : DS → Option Out} {gd : DS → Option DR}
def RtO (r : ρ) (o : OV) : Prop := o = nrm (enc r)
theorem all_isSc [Sca α] (v : List α) : (v.map enc).all isSc = true := by
  rw [List.all_map, List.all_eq_true]
  intro a _
  exact Sca.sc a
theorem nrm_fl [Sca α] (v : List α) : nrm (enc v) = .flat (v.map enc) := by
  show nrm (.list (v.map enc)) = _
  rw [nrm_list, if_pos (all_isSc v)]
theorem ow_fl [Sca α] (v : List α) : ow (enc v) = fl (v.map enc) := by
  unfold ow fl
  rw [nrm_fl]
theorem le_fo : ∀ x, fl (([] : List α).map enc) x → ow (enc ([] : List α)) x := fun _ h => h
theorem le_ow {d : D} : ∀ x, ow d x → vw d x := fun _ h => ⟨_, h, nrm_view d⟩
theorem rtO_own (v : ρ) (o : OV) (h : RtO v o) : o.own?.isSome = true := by
  have h : o = nrm (enc v) := h
  rw [h, nrm_own]; rfl
theorem rtC_own [Sca ρ] (v : ρ) (o : OV) (h : RtC v o) : o.own?.isSome = true := by
  have h : o = .sh (enc v) := h
  rw [h]
  show (if isSc (enc v) then some (enc v) else none).isSome = true
  rw [if_pos (Sca.sc v)]; rfl
/-- an expression that gives something wholly owned -/
def ExM (ps ps' : List SP) (f : DS → Option (RV × DS)) (m : Option τ) : Prop := ∀ v, m = some v → ∀ ds, Ss ps ds → ∃ ds', f ds = some (.ov (nrm (enc v)), ds') ∧ Ss ps' ds'
variable {Jn : ν → List SP} {J : β → List SP} {Jx : List SP}
theorem ExM.s {m : Option τ} (h : ExM ps ps f m) : ExS ps f m := fun v e ds S => let ⟨d, a, b⟩ := h v e ds S; ⟨_, d, a, b, .inl ⟨_, rfl, nrm_view _⟩⟩
theorem ExM.v {m : Option τ} (h : ExM ps ps f m) : ExV ps f m := fun v e ds S => let ⟨d, a, b⟩ := h v e ds S; ⟨_, d, a, b, .inl ⟨_, rfl, nrm_view _⟩⟩
theorem v_nilO : ExM ps ps (fLst fNil) (some ([] : List τ)) := by
  intro v e ds S
  cases e
  exact ⟨ds, rfl, S⟩
theorem rtF_own [Sca α] (v : List α) (o : OV) (h : RtF v o) : o.own?.isSome = true := by
  have h : o = .flat (v.map enc) := h
  rw [h]
  show (if (v.map enc).all isSc then some (PyData.list (v.map enc)) else none).isSome = true
  rw [if_pos (all_isSc v)]; rfl
theorem b_setO (i : Nat) {R : σ → OV → Prop} {me : Option τ} {k : τ → Option (TO ν β σ)} (he : ExM ps ps' fe me) (hg : ∀ v, Bk (ps'.set i (ow (enc v))) g (k v) Jn J Jx R) : Bk ps (fSeq (fSet i fe) g) (me.bind k) Jn J Jx R := by
  intro o e ds S
  simp only [Option.bind_eq_some_iff] at e
  obtain ⟨v, e1, e2⟩ := e
  obtain ⟨d1, k1, S1⟩ := he v e1 ds S
  obtain ⟨out, k3, rl⟩ := hg v o e2 _ (S1.set i (x := some (nrm (enc v))) rfl)
  exact ⟨out, by simp only [fSeq, fSet, k1, bindSome, k3], rl⟩
theorem b_retO {m : Option τ} (h : ExM ps ps' f m) : Bk ps (fRet f) (m.bind fun v => some (.ret v)) Jn J Jx RtO := by
  intro o e ds S
  simp only [Option.bind_eq_some_iff] at e
  obtain ⟨v, e1, e2⟩ := e
  cases e2
  obtain ⟨d1, k1, S1⟩ := h v e1 ds S
  exact ⟨.ret _ d1, by simp only [fRet, k1, bindSome, mov, Option.map_some], rfl⟩
theorem var_ow {i : Nat} {v : List τ} {ds : DS} (e : ds[i]? = some (some (nrm (enc v)))) : fVar i ds = some (.loc i, ds) := by
  have e2 : nrm (enc v) = if (v.map enc).all isSc = true then OV.flat (v.map enc) else OV.tree (.list (v.map enc)) := rfl
  unfold fVar
  rw [e, e2]
  split
  · rename_i h
    split at h
    · cases h
    · cases h
  · rfl
  · rename_i h1 h2
    split at h2 <;> simp_all
theorem b_retOv (i : Nat) {v : List τ} (h : ps[i]? = some (ow (enc v)) := by rfl) : Bk ps (fRet (fVar i)) (some (.ret v)) Jn J Jx RtO := by
  intro o e ds S
  cases e
  obtain ⟨x, e, ho⟩ := S.get h
  have ho : x = some (nrm (enc v)) := ho
  subst ho
  exact ⟨.ret _ (ds.set i none), by simp only [fRet, var_ow e, bindSome, mov, e, Option.map_some], rfl⟩
/-! calls -/
theorem v_callGO {n : Nat} {mr : Option (List D)} {m : Option ρ} (ha : ArS ps fr mr) (hm : ∀ v, m = some v → ∃ l, mr = some l ∧ l.length = n ∧ ∃ d, gd (shs l) = some (.ret (nrm (enc v)) d)) : ExM ps ps (fCall n gd fr) m := by
  intro v e ds S
  obtain ⟨l, h1, h2, dd, h3⟩ := hm v e
  obtain ⟨rs, d1, k1, S1, q1⟩ := ha l h1 ds S
  have s1 := sees_of S1 q1
  have ho : (nrm (enc v)).own?.isSome = true := by rw [nrm_own]; rfl
  refine ⟨d1, ?_, S1⟩
  simp only [fCall, k1, bindSome, s1, h3]
  rw [if_pos h2, if_pos ho]
theorem v_callO1 {ma : Option α} {m : α → Option ρ} (T : ∀ a v, m a = some v → DRel RtO v (gd (shs [enc a]))) (ha : ExS ps fa ma) : ExM ps ps (fCall 1 gd (fCons fa fNil)) (ma.bind fun a => m a) :=
  v_callGO (a_cS ha a_nS) fun v e => by
    simp only [Option.bind_eq_some_iff] at e
    obtain ⟨a, ea, e⟩ := e
    obtain ⟨o, d, h1, h2⟩ := T a v e
    have h2 : o = _ := h2
    subst h2
    exact ⟨[enc a], by rw [ea]; rfl, rfl, d, h1⟩
theorem v_callO2 {ma : Option α} {mb : Option β} {m : α → β → Option ρ} (T : ∀ a b v, m a b = some v → DRel RtO v (gd (shs [enc a, enc b]))) (ha : ExS ps fa ma) (hb : ExS ps fb mb) : ExM ps ps (fCall 2 gd (fCons fa (fCons fb fNil))) (ma.bind fun a => mb.bind fun b => m a b) :=
  v_callGO (a_cS ha (a_cS hb a_nS)) fun v e => by
    simp only [Option.bind_eq_some_iff] at e
    obtain ⟨a, ea, b, eb, e⟩ := e
    obtain ⟨o, d, h1, h2⟩ := T a b v e
    have h2 : o = _ := h2
    subst h2
    exact ⟨[enc a, enc b], by rw [ea, eb]; rfl, rfl, d, h1⟩
theorem v_callO3 {ma : Option α} {mb : Option β} {mc : Option γ} {m : α → β → γ → Option ρ} (T : ∀ a b c v, m a b c = some v → DRel RtO v (gd (shs [enc a, enc b, enc c]))) (ha : ExS ps fa ma) (hb : ExS ps fb mb) (hc : ExS ps fc mc) : ExM ps ps (fCall 3 gd (fCons fa (fCons fb (fCons fc fNil)))) (ma.bind fun a => mb.bind fun b => mc.bind fun c => m a b c) :=
  v_callGO (a_cS ha (a_cS hb (a_cS hc a_nS))) fun v e => by
    simp only [Option.bind_eq_some_iff] at e
    obtain ⟨a, ea, b, eb, c, ec, e⟩ := e
    obtain ⟨o, d, h1, h2⟩ := T a b c v e
    have h2 : o = _ := h2
    subst h2
    exact ⟨[enc a, enc b, enc c], by rw [ea, eb, ec]; rfl, rfl, d, h1⟩
/-! x.append(y), both owned -/
theorem b_appT (i j : Nat) {R : σ → OV → Prop} {l : List (List τ)} {v : List τ} {k : List (List τ) → Option (TO ν β σ)} (hg : ∀ r : List (List τ), Bk ((ps.set j isN).set i (ow (enc r))) g (k r) Jn J Jx R) (hi : ps[i]? = some (ow (enc l)) := by rfl) (hj : ps[j]? = some (ow (enc v)) := by rfl) (hij : j ≠ i := by decide) : Bk ps (fSeq (fAppT i (fVar j)) g) ((appN l v).bind k) Jn J Jx R := by
  intro o e ds S
  simp only [Option.bind_eq_some_iff] at e
  obtain ⟨l', e2, e3⟩ := e
  unfold appN at e2
  split at e2
  · rename_i hl
    cases e2
    obtain ⟨x, x1, x2⟩ := S.get hi
    have x2 : x = some (nrm (enc l)) := x2
    subst x2
    obtain ⟨y, y1, y2⟩ := S.get hj
    have y2 : y = some (nrm (enc v)) := y2
    subst y2
    have el : (nrm (enc l)).own? = some (.list (l.map enc)) := nrm_own _
    have S2 := (S.set j (x := none) (p := isN) rfl).set i (x := some (nrm (enc (l ++ [v])))) (p := ow (enc (l ++ [v]))) rfl
    obtain ⟨out, k4, rl⟩ := hg _ o e3 _ S2
    refine ⟨out, ?_, rl⟩
    have z1 : (ds.set j none)[i]? = some (some (nrm (enc l))) := by rw [List.getElem?_set_ne hij]; exact x1
    have hl' : (l.map enc).length ≤ 1000000 := by rw [List.length_map]; exact hl
    have en : (PyData.list (l.map enc ++ [enc v])) = enc (l ++ [v]) := by
      show _ = PyData.list ((l ++ [v]).map enc)
      rw [List.map_append]; rfl
    simp only [fSeq, fAppT, x1, el, var_ow y1, bindSome, ownR, y1, nrm_own, Option.map_some, z1]
    rw [if_pos hl', en]
    exact k4
  · cases e2
theorem b_appTF [Sca τ] (i j : Nat) {R : σ → OV → Prop} {l : List (List τ)} {v : List τ} {k : List (List τ) → Option (TO ν β σ)} (hg : ∀ r : List (List τ), Bk ((ps.set j isN).set i (ow (enc r))) g (k r) Jn J Jx R) (hi : ps[i]? = some (ow (enc l)) := by rfl) (hj : ps[j]? = some (fl (v.map enc)) := by rfl) (hij : j ≠ i := by decide) : Bk ps (fSeq (fAppT i (fVar j)) g) ((appN l v).bind k) Jn J Jx R :=
  b_appT i j hg hi (by rw [ow_fl]; exact hj) hij
/-! comprehensions that use up -/
def ElO (ps : List SP) (vs : List Nat) (q : List SP) (fe : DS → Option (RV × DS)) (m : Option τ) : Prop := ∀ v, m = some v → ∀ ds, Ss ps ds → ∃ r ds1 ds2, fe ds = some (r, ds1) ∧ ownR r ds1 = some (enc v, ds2) ∧ Ss q (wipeD ds2 vs)
theorem lcO_ok {k : Nat} {vs : List Nat} {q : List SP} {t : α → Option Bool} {e : α → Option τ} (hw : ∀ v : α, wipeP (q.set k (ow (enc v))) vs = q) (ht : ∀ v, Te (q.set k (ow (enc v))) ft (t v)) (he : ∀ v, ElO (q.set k (ow (enc v))) vs q fe (e v)) :
    ∀ (l : List α) (r : List τ) (w : DS) (acc : List D), compN l t e = some r → Ss q w → ∃ w', lcF (turnO k ft fe vs) (l.map enc) w acc = some (acc ++ r.map enc, w') ∧ Ss q w'
  | [], r, w, acc, h, S => by
    cases h
    exact ⟨w, by simp [lcF], S⟩
  | v :: l, r, w, acc, h, S => by
    simp only [compN, Option.bind_eq_some_iff] at h
    obtain ⟨c, h1, h2⟩ := h
    have S1 := S.set k (x := some (nrm (enc v))) (p := ow (enc v)) rfl
    obtain ⟨d2, e2, S2⟩ := ht v c h1 _ S1
    cases c with
    | true =>
      simp only [if_true, Option.bind_eq_some_iff] at h2
      obtain ⟨y, h3, r', h4, h5⟩ := h2
      cases h5
      obtain ⟨rv, d3, d4, e3, e4, S4⟩ := he v y h3 d2 S2
      obtain ⟨w', e5, S5⟩ := lcO_ok hw ht he l r' _ (acc ++ [enc y]) h4 S4
      refine ⟨w', ?_, S5⟩
      simp only [List.map_cons, lcF, turnO, e2, bindSome, if_true, e3, e4, Option.map_some, Option.toList_some]
      rw [e5, List.append_assoc]; rfl
    | false =>
      simp only [Bool.false_eq_true, if_false] at h2
      have S3 := S2.wipe vs
      rw [hw v] at S3
      obtain ⟨w', e5, S5⟩ := lcO_ok hw ht he l r _ acc h2 S3
      refine ⟨w', ?_, S5⟩
      simp only [List.map_cons, lcF, turnO, e2, bindSome, Bool.false_eq_true, if_false, Option.toList_none, List.append_nil]
      exact e5
theorem v_lcCT (j k : Nat) {l : List α} {vs : List Nat} {t : α → Option Bool} {e : α → Option τ} (hn : Nfs (ps.set j isN) vs) (ht : ∀ v, Te ((wipeP (ps.set j isN) vs).set k (ow (enc v))) ft (t v)) (he : ∀ v, ElO ((wipeP (ps.set j isN) vs).set k (ow (enc v))) vs (wipeP (ps.set j isN) vs) fe (e v)) (hj : ps[j]? = some (ow (enc l)) := by rfl) (hw : ∀ v : α, wipeP ((wipeP (ps.set j isN) vs).set k (ow (enc v))) vs = wipeP (ps.set j isN) vs := by intro _; rfl) :
    ExM ps (ps.set j isN) (fLcC j k ft fe vs) ((lenN l).bind fun l => compN l t e) := by
  intro r h ds S
  simp only [Option.bind_eq_some_iff] at h
  obtain ⟨l', h2, h3⟩ := h
  unfold lenN at h2
  split at h2
  · rename_i hl
    cases h2
    obtain ⟨x, e0, k0⟩ := S.get hj
    have k0 : x = some (nrm (enc l)) := k0
    subst k0
    have S1 := S.set j (x := none) (p := isN) rfl
    obtain ⟨w', e1, S2⟩ := lcO_ok hw ht he l r _ [] h3 (S1.wipe vs)
    have S3 := S1.mended S2
    have el : (nrm (enc l)).own? = some (.list (l.map enc)) := nrm_own _
    refine ⟨_, ?_, S3⟩
    have hl' : decide ((l.map enc).length ≤ 1000000) = true := by rw [List.length_map]; exact decide_eq_true hl
    simp only [fLcC, e0, el, hn.all S1, hl', Bool.and_self, if_true, e1, Option.map_some, List.nil_append]
    rfl
  · cases h2
theorem v_lcC (j k : Nat) {l : List α} {vs : List Nat} {e : α → Option τ} (hn : Nfs (ps.set j isN) vs) (he : ∀ v, ElO ((wipeP (ps.set j isN) vs).set k (ow (enc v))) vs (wipeP (ps.set j isN) vs) fe (e v)) (hj : ps[j]? = some (ow (enc l)) := by rfl) (hw : ∀ v : α, wipeP ((wipeP (ps.set j isN) vs).set k (ow (enc v))) vs = wipeP (ps.set j isN) vs := by intro _; rfl) :
    ExM ps (ps.set j isN) (fLcC j k fYes fe vs) ((lenN l).bind fun l => mapN l e) := by
  have h := v_lcCT (l := l) (t := fun _ => some true) j k hn (fun v => t_yes) he hj hw
  simpa only [mapN_comp] using h
/-- no item is the thing of slot k -/
theorem kvs_no {k : Nat} : ∀ {l : List D} {rs : List RV}, Kvs (kS (ps.set k an)) l rs → Kvs (kS (ps.set k isN)) l rs
  | _, _, .nil => .nil
  | _, _, .cons h t => .cons (by
    rcases h with h | ⟨i, rfl, h⟩
    · exact .inl h
    · refine .inr ⟨i, rfl, ?_⟩
      by_cases hi : k = i
      · subst hi
        rcases h with h | ⟨m, h, hm⟩
        · have hl : k < ps.length := by
            have := (List.getElem?_eq_some_iff.mp h).1
            rwa [List.length_set] at this
          rw [List.getElem?_set_self hl] at h
          have h : an = vw _ := Option.some.inj h
          have : vw _ (none : Option OV) := cast (congrFun h none) True.intro
          obtain ⟨o, z, _⟩ := this
          cases z
        · have hl : k < ps.length := by
            have := (List.getElem?_eq_some_iff.mp h).1
            rwa [List.length_set] at this
          rw [List.getElem?_set_self hl] at h
          have h : an = fl m := Option.some.inj h
          have : fl m (none : Option OV) := cast (congrFun h none) True.intro
          cases this
      · rw [List.getElem?_set_ne hi] at h ⊢
        exact h) (kvs_no t)
/-- f(v, a, b), v the item -/
theorem el_callN2 {n k : Nat} {vs : List Nat} {q : List SP} {gd : DS → Option DR} [Sca γ] {x : List γ} {ρ' : Type} [Enc ρ'] [Sca ρ'] {ma : Option α} {mb : Option β} {m : List γ → α → β → Option (List ρ')} (T : ∀ v a b r, m v a b = some r → DRel RtF r (gd (some (.flat (v.map enc)) :: shs [enc a, enc b])))
    (ha : ArS ps fr (ma.bind fun a => (mb.bind fun b => (some []).bind fun l => some (enc b :: l)).bind fun l => some (enc a :: l))) (ha' : ArS (ps.set k an) fr (ma.bind fun a => (mb.bind fun b => (some []).bind fun l => some (enc b :: l)).bind fun l => some (enc a :: l))) (hk : ps[k]? = some (ow (enc x)) := by rfl) (hq : wipeP (ps.set k isN) vs = q := by rfl) (hn : n = 3 := by rfl) :
    ElO ps vs q (fCallN n gd k fr) (ma.bind fun a => mb.bind fun b => m x a b) := by
  intro r e ds S
  simp only [Option.bind_eq_some_iff] at e
  obtain ⟨a, e1, b, e2, e3⟩ := e
  obtain ⟨o, dd, g1, g2⟩ := T x a b r e3
  have g2 : o = .flat (r.map enc) := g2
  subst g2
  subst hn
  have ml : (ma.bind fun a => (mb.bind fun b => (some []).bind fun l => some (enc b :: l)).bind fun l => some (enc a :: l)) = some [enc a, enc b] := by rw [e1, e2]; rfl
  obtain ⟨y, y1, y2⟩ := S.get hk
  have y2 : y = some (nrm (enc x)) := y2
  subst y2
  obtain ⟨rs, d1, k1, S1, q1⟩ := ha _ ml ds S
  have Sa : Ss (ps.set k an) ds := by
    have := S.set k (x := some (nrm (enc x))) (p := an) True.intro
    have e5 : ds.set k (some (nrm (enc x))) = ds := by
      refine List.ext_getElem? fun i => ?_
      by_cases hi : k = i
      · subst hi
        rw [y1]
        exact List.getElem?_set_self (List.getElem?_eq_some_iff.mp y1).1
      · exact List.getElem?_set_ne hi
    rwa [e5] at this
  obtain ⟨rs', d1', k1', _, q1'⟩ := ha' _ ml ds Sa
  rw [k1] at k1'
  cases k1'
  obtain ⟨z, z1, z2⟩ := S1.get hk
  have z2 : z = some (nrm (enc x)) := z2
  subst z2
  have S2 := S1.set k (x := none) (p := isN) rfl
  have s1 := sees_of S2 (kvs_no q1')
  have ho : (OV.flat (r.map enc)).own? = some (enc r) := by
    show (if (r.map enc).all isSc then some (PyData.list (r.map enc)) else none) = _
    rw [if_pos (all_isSc r)]; rfl
  refine ⟨.ov (.flat (r.map enc)), d1.set k none, d1.set k none, ?_, by simp only [ownR, ho, Option.map_some], ?_⟩
  · simp only [fCallN, y1, k1, bindSome, z1, s1]
    rw [if_pos (show [enc a, enc b].length + 1 = 3 from rfl), nrm_fl]
    have g1' : gd (some (OV.flat (x.map enc)) :: shs [enc a, enc b]) = _ := g1
    rw [g1']
    simp only [bindSome, ho, Option.isSome_some, if_true]
  · rw [← hq]
    exact S2.wipe vs
/-- the item itself -/
theorem el_var {k : Nat} {vs : List Nat} {q : List SP} {x : List γ} (hk : ps[k]? = some (ow (enc x)) := by rfl) (hq : wipeP (ps.set k isN) vs = q := by rfl) : ElO ps vs q (fVar k) (some x) := by
  intro r e ds S
  cases e
  obtain ⟨y, y1, y2⟩ := S.get hk
  have y2 : y = some (nrm (enc x)) := y2
  subst y2
  refine ⟨.loc k, ds, ds.set k none, var_ow y1, by simp only [ownR, y1, nrm_own, Option.map_some], ?_⟩
  rw [← hq]
  exact (S.set k (x := none) (p := isN) rfl).wipe vs
/-! reading -/
theorem v_lenO (i : Nat) {l : List α} (h : ps[i]? = some (ow (enc l)) := by rfl) : ExC ps (fCa gLen (fCons (fVar i) fNil)) (some (l.length : Int)) := by
  intro v e ds S
  cases e
  obtain ⟨x, x1, x2⟩ := S.get h
  have x2 : x = some (nrm (enc l)) := x2
  subst x2
  refine ⟨ds, ?_, S⟩
  have hs : see (.loc i) ds = some (.list (l.map enc)) := by
    simp only [see, x1]
    rw [nrm_view]; rfl
  have hg : gLen [.list (l.map enc)] = some (PyData.int (l.map enc).length) := rfl
  simp only [fCa, fCons, fNil, var_ow x1, bindSome, Option.map_some, sees, hs, hg, List.length_map]
  rfl
/-! x[k].append(v) -/
def appI (l : List (List τ)) (k : Int) (v : τ) : Option (List (List τ)) := (ixN l.length k).bind fun j => (l[j]?).bind fun m => if m.length ≤ 1000000 then some (l.set j (m ++ [v])) else none
theorem b_appP (i : Nat) {R : σ → OV → Prop} {fm : DS → Option D} {l : List (List τ)} {v : τ} {mk : Option Int} {k : List (List τ) → Option (TO ν β σ)} (hk : ExS ps fk mk) (hm : ∀ ds, Ss ps ds → fm ds = some (enc v)) (hg : ∀ r : List (List τ), Bk (ps.set i (ow (enc r))) g (k r) Jn J Jx R) (hi : ps[i]? = some (ow (enc l)) := by rfl) : Bk ps (fSeq (fAppP i fk fm) g) (mk.bind fun j => (appI l j v).bind k) Jn J Jx R := by
  intro o e ds S
  simp only [Option.bind_eq_some_iff] at e
  obtain ⟨j, e1, l', e2, e3⟩ := e
  simp only [appI, Option.bind_eq_some_iff] at e2
  obtain ⟨n, e4, m, e5, e6⟩ := e2
  split at e6
  · rename_i hl
    cases e6
    obtain ⟨x, x1, x2⟩ := S.get hi
    have x2 : x = some (nrm (enc l)) := x2
    subst x2
    obtain ⟨r, d1, k1, S1, q1⟩ := hk j e1 ds S
    have s1 := see_of q1 S1
    obtain ⟨y, y1, y2⟩ := S1.get hi
    have y2 : y = some (nrm (enc l)) := y2
    subst y2
    have el : (nrm (enc l)).own? = some (.list (l.map enc)) := nrm_own _
    obtain ⟨out, k4, rl⟩ := hg _ o e3 _ (S1.set i (x := some (nrm (enc (l.set n (m ++ [v]))))) (p := ow (enc (l.set n (m ++ [v])))) rfl)
    refine ⟨out, ?_, rl⟩
    have ix : ixN (l.map enc).length j = some n := by rw [List.length_map]; exact e4
    have g5 : (l.map enc)[n]? = some (.list (m.map enc)) := by rw [List.getElem?_map, e5]; rfl
    have hl' : (m.map enc).length ≤ 1000000 := by rw [List.length_map]; exact hl
    have en : (PyData.list ((l.map enc).set n (.list (m.map enc ++ [enc v])))) = enc (l.set n (m ++ [v])) := by
      show _ = PyData.list ((l.set n (m ++ [v])).map enc)
      rw [List.map_set]
      congr 2
      show _ = PyData.list ((m ++ [v]).map enc)
      rw [List.map_append]; rfl
    simp only [fSeq, fAppP, x1, k1, bindSome, s1, y1, el]
    have s2 : enc j = PyData.int j := rfl
    simp only [s2, el, ix, bindSome, g5, hm d1 S1]
    rw [if_pos hl', en]
    exact k4
  · cases e6
theorem sim_v (j : Nat) [Sca τ] {v : τ} (h : ps[j]? = some (sh (enc v)) := by rfl) : ∀ ds, Ss ps ds → fSimV j ds = some (enc v) := by
  intro ds S
  obtain ⟨x, x1, x2⟩ := S.get h
  have x2 : x = some (.sh (enc v)) := x2
  subst x2
  unfold fSimV
  rw [x1]
  exact if_pos (Sca.sc v)
/-! sorted -/
theorem v_sortKT (j : Nat) {js : List Nat} {cv : List D} {l : List α} {mk : α → Option Int} (hc : Caps (ps.set j isN) js cv) (hb : ∀ a, ExC ((enc a :: cv).map sh) fb (mk a)) (hj : ps[j]? = some (ow (enc l)) := by rfl) : ExM ps (ps.set j isN) (fSortKT j js fb) ((mapN l mk).bind fun ks => sortN ks l) := by
  intro v e ds S
  simp only [Option.bind_eq_some_iff] at e
  obtain ⟨ks, e2, e3⟩ := e
  unfold sortN at e3
  split at e3
  · rename_i hg
    cases e3
    obtain ⟨x, x1, x2⟩ := S.get hj
    have x2 : x = some (nrm (enc l)) := x2
    subst x2
    have S1 := S.set j (x := none) (p := isN) rfl
    have el : (nrm (enc l)).own? = some (.list (l.map enc)) := nrm_own _
    refine ⟨ds.set j none, ?_, S1⟩
    have hc2 := hc.ok S1
    have hk := keysF_ok hb e2
    simp only [fSortKT, x1, el, hc2, bindSome, hk]
    rw [if_pos ⟨by rw [List.length_map]; exact hg.1, hg.2⟩, sortBy_map ks l hg.2 (mapN_len e2)]
    rfl
  · cases e3
end
/-! ### lending -/
inductive Kd where
  | sh (d : D)
  | shS (d : D) (h : isSc d = true)
  | flS (l : List D) (h : l.all isSc = true)
  | ow (d : D)
  | n
def Kd.sp : Kd → SP
  | .sh d => Ty.sh d
  | .shS d _ => Ty.sh d
  | .flS l _ => fl l
  | .ow d => Ty.ow d
  | .n => isN
def Kd.vl : Kd → Option OV
  | .sh d => some (.sh d)
  | .shS d _ => some (.sh d)
  | .flS l _ => some (.flat l)
  | .ow d => some (nrm d)
  | .n => none
def Kd.cl : Kd → Bool
  | .sh _ => false
  | _ => true
theorem Kd.ok (k : Kd) : ∀ x, k.sp x → x = k.vl := fun x h => by
  cases k <;> exact h
theorem kds_ok : ∀ {ks : List Kd} {ds : DS}, Ss (ks.map Kd.sp) ds → ds = ks.map Kd.vl
  | [], [], _ => rfl
  | k :: ks, x :: xs, h => by rw [List.map_cons, Kd.ok k x h.1, kds_ok h.2]
  | [], _ :: _, h => h.elim
  | _ :: _, [], h => h.elim
/-- behind the statement nothing is left of what was lent -/
inductive Cl (T : List Nat) (i : Nat) : Nat → List Kd → List Kd → Prop
  | nil {j : Nat} : Cl T i j [] []
  | c {j : Nat} {k k' : Kd} {ks ks' : List Kd} : k'.cl = true → Cl T i (j + 1) ks ks' → Cl T i j (k :: ks) (k' :: ks')
  | k {j : Nat} {d : D} {ks ks' : List Kd} : j ∉ T → Cl T i (j + 1) ks ks' → Cl T i j (.sh d :: ks) (.sh d :: ks')
  | i {j : Nat} {k k' : Kd} {ks ks' : List Kd} : j = i → Cl T i (j + 1) ks ks' → Cl T i j (k :: ks) (k' :: ks')
theorem Cl.ok {T : List Nat} {i : Nat} : ∀ {j : Nat} {ks ks' : List Kd}, Cl T i j ks ks' → ∀ (m : Nat) (o : OV), j + m ≠ i → (ks'.map Kd.vl)[m]? = some (some o) → o.own?.isSome = true ∨ (j + m ∉ T ∧ (ks.map Kd.vl)[m]? = some (some o) ∧ ∃ d, o = .sh d)
  | _, _, _, .nil, m, o, _, e => by simp at e
  | j, _, _, .c (k' := k') h t, 0, o, _, e => by
    simp at e
    cases k' with
    | sh d => cases h
    | shS d hd =>
      have e : OV.sh d = o := by simpa [Kd.vl] using e
      subst e
      left
      show (if isSc d then some d else none).isSome = true
      rw [if_pos hd]; rfl
    | flS l hl =>
      have e : OV.flat l = o := by simpa [Kd.vl] using e
      subst e
      left
      show (if l.all isSc then some (PyData.list l) else none).isSome = true
      rw [if_pos hl]; rfl
    | ow d =>
      have e : nrm d = o := by simpa [Kd.vl] using e
      subst e
      left
      rw [nrm_own]; rfl
    | n => simp [Kd.vl] at e
  | j, _, _, .k (d := d) h t, 0, o, _, e => by
    have e : OV.sh d = o := by simpa [Kd.vl] using e
    subst e
    exact .inr ⟨h, by simp [Kd.vl], d, rfl⟩
  | j, _, _, .i h t, 0, o, n, e => absurd h n
  | j, _, _, .c h t, m + 1, o, n, e => by
    have := Cl.ok t m o (by omega) (by simpa using e)
    have e1 : j + 1 + m = j + (m + 1) := by omega
    rw [e1] at this
    simpa using this
  | j, _, _, .k h t, m + 1, o, n, e => by
    have := Cl.ok t m o (by omega) (by simpa using e)
    have e1 : j + 1 + m = j + (m + 1) := by omega
    rw [e1] at this
    simpa using this
  | j, _, _, .i h t, m + 1, o, n, e => by
    have := Cl.ok t m o (by omega) (by simpa using e)
    have e1 : j + 1 + m = j + (m + 1) := by omega
    rw [e1] at this
    simpa using this
def setL (ps : List SP) : List (Nat × D) → List SP
  | [] => ps
  | p :: r => (setL ps r).set p.1 (sh p.2)
inductive Fzs (ps : List SP) : List (Nat × D) → Prop
  | nil : Fzs ps []
  | cons {j : Nat} {d : D} {r : List (Nat × D)} {p : SP} : (setL ps r)[j]? = some p → (∀ x, p x → vw d x) → Fzs ps r → Fzs ps ((j, d) :: r)
theorem Fzs.ok {ps : List SP} {ds : DS} (S : Ss ps ds) : ∀ {r : List (Nat × D)}, Fzs ps r → Ss (setL ps r) (frzL ds (r.map Prod.fst))
  | _, .nil => S
  | _, .cons (j := j) (d := d) e h t => by
    have S1 := t.ok S
    obtain ⟨x, x1, x2⟩ := S1.get e
    obtain ⟨o, rfl, ho⟩ := h x x2
    show Ss ((setL ps _).set j (sh d)) (frzL ds (j :: _))
    unfold frzL
    rw [x1]
    exact S1.set j (by rw [ho]; rfl)
def borT {μ α ρ : Type} (m : Option (TO μ α ρ)) : Option (TO μ α ρ) := m.bind fun o => match o with
  | .nx b => some (.nx b)
  | .ret r => some (.ret r)
  | _ => none
section
variable {α ρ ν μ : Type} {ps : List SP} {g f : DS → Option Out} {Jn : ν → List SP} {J J' : α → List SP} {Jx Jx' : List SP} {R : ρ → OV → Prop}
theorem b_bor {fz fg fo T : List Nat} {d : D} {Jm : μ → List SP} {m1 : Option (TO μ α ρ)} {k : μ → Option (TO ν α ρ)} (i : Nat) (fzs : List (Nat × D)) (kds : List Kd) (kds' : μ → List Kd) (hz : Fzs ps fzs) (h : Bk ((kds.map Kd.sp).set i (sh d)) f m1 Jm J' Jx' R) (hcl : ∀ b, Cl T i 0 kds (kds' b)) (hR : ∀ v o, R v o → o.own?.isSome = true) (hg : ∀ b, Bk (((kds' b).map Kd.sp).set i (ow d)) g (k b) Jn J Jx R)
    (hk : wipeP (setL ps fzs) fg = kds.map Kd.sp := by rfl) (hi : kds[i]? = some (.ow d) := by rfl) (hk' : ∀ b, wipeP (Jm b) fo = (kds' b).map Kd.sp := by intro _; rfl) (hfz : fzs.map Prod.fst = fz := by rfl) :
    Bk ps (fSeq (fBorS i fz fg fo T f) g) (seqT (borT m1) k) Jn J Jx R := by
  intro o e ds S
  subst hfz
  have SN := (hz.ok S).wipe fg
  rw [hk] at SN
  have eN := kds_ok SN
  have gi : (wipeD (frzL ds (fzs.map Prod.fst)) fg)[i]? = some (some (nrm d)) := by
    rw [eN, List.getElem?_map, hi]; rfl
  simp only [seqT, borT, Option.bind_eq_some_iff] at e
  obtain ⟨o1, ⟨o2, e1, e2⟩, e3⟩ := e
  obtain ⟨out, k1, rl⟩ := h o2 e1 _ (SN.set i (x := some (.sh d)) (p := sh d) rfl)
  cases o2 with
  | nx b =>
    cases e2
    cases out with
    | nx d' =>
      have Sb := Ss.wipe (rl : Ss (Jm b) d') fo
      rw [hk' b] at Sb
      have eb := kds_ok Sb
      have hy : yes (∀ j, j ≠ i → cl T (wipeD (frzL ds (fzs.map Prod.fst)) fg) (wipeD d' fo) j) = true := yes_of fun j hj => by
        unfold cl
        rw [eN, eb]
        split
        · rename_i o ho
          have := (hcl b).ok j o (by simpa using hj) ho
          simpa using this
        · trivial
      obtain ⟨out2, k2, rl2⟩ := hg b o e3 _ (Sb.set i (x := some (nrm d)) (p := ow d) rfl)
      refine ⟨out2, ?_, rl2⟩
      simp only [fSeq, fBorS, gi, nrm_own, k1, bindSome, borEnd]
      rw [if_pos hy]
      exact k2
    | _ => exact rl.elim
  | ret r =>
    cases e2
    cases e3
    cases out with
    | ret ro d' =>
      refine ⟨.ret ro ((wipeD d' (List.range d'.length)).set i (some (nrm d))), ?_, rl⟩
      simp only [fSeq, fBorS, gi, nrm_own, k1, bindSome, borEnd]
      rw [if_pos (hR r ro rl)]
      rfl
    | _ => exact rl.elim
  | ct _ => cases e2
  | bk _ => cases e2
  | ex _ => cases e2
theorem W_borT {m : Option (TO μ α ρ)} {Q : TO μ α ρ → Prop} : W (borT m) Q ↔ W m fun o => match o with
    | .nx b => Q (.nx b)
    | .ret r => Q (.ret r)
    | _ => False := by
  unfold borT
  rw [W_bind]
  constructor
  · refine fun h => W_mono h fun o q => ?_
    cases o with
    | nx b => exact (W_some (Q := Q)).mp q
    | ret b => exact (W_some (Q := Q)).mp q
    | _ => exact (W_none (Q := Q)).mp q
  · refine fun h => W_mono h fun o q => ?_
    cases o with
    | nx b => exact (W_some (Q := Q)).mpr q
    | ret b => exact (W_some (Q := Q)).mpr q
    | _ => exact q.elim
end
end Ty
set_option Elab.async false
set_option linter.all false
set_option maxRecDepth 100000
set_option maxHeartbeats 4000000
/-! what each def of the linked text computes (printed by gen.py) -/
namespace Lw
open PySem PySem.Spec L2 Fx
def topS (i : Nat) : Stmt := PySem.Challenge.pw_floodmark_k03_rows_in_echelon_form.main.body.getD i (.Pass ⟨0, 0, 0, 0⟩)
abbrev s_law_draws : Stmt := topS 11
abbrev nm_law_draws : List Str := ["_law_cell_here", "_law_limits", "_law_found", "_law_rest", "_law_state", "_law_free", "_law_limit"]
theorem sc_law_draws : FnScope nm_law_draws ["_law_cell_here", "_law_limits"] (defScope s_law_draws) := ⟨rfl, rfl, rfl, by decide +kernel, rfl, by decide +kernel, by decide +kernel⟩
abbrev s_pivot_of : Stmt := topS 5
abbrev nm_pivot_of : List Str := ["vector", "column"]
theorem sc_pivot_of : FnScope nm_pivot_of ["vector"] (defScope s_pivot_of) := ⟨rfl, rfl, rfl, by decide +kernel, rfl, by decide +kernel, by decide +kernel⟩
abbrev s_common_divisor : Stmt := topS 2
abbrev nm_common_divisor : List Str := ["vector", "divisor", "item"]
theorem sc_common_divisor : FnScope nm_common_divisor ["vector"] (defScope s_common_divisor) := ⟨rfl, rfl, rfl, by decide +kernel, rfl, by decide +kernel, by decide +kernel⟩
abbrev s_primitive : Stmt := topS 3
abbrev nm_primitive : List Str := ["vector", "divisor", "item"]
theorem sc_primitive : FnScope nm_primitive ["vector"] (defScope s_primitive) := ⟨rfl, rfl, rfl, by decide +kernel, rfl, by decide +kernel, by decide +kernel⟩
abbrev s_combined : Stmt := topS 4
abbrev nm_combined : List Str := ["first", "vector", "second", "other", "a", "b"]
theorem sc_combined : FnScope nm_combined ["first", "vector", "second", "other"] (defScope s_combined) := ⟨rfl, rfl, rfl, by decide +kernel, rfl, by decide +kernel, by decide +kernel⟩
abbrev s_cleared : Stmt := topS 6
abbrev nm_cleared : List Str := ["vector", "row", "column"]
theorem sc_cleared : FnScope nm_cleared ["vector", "row", "column"] (defScope s_cleared) := ⟨rfl, rfl, rfl, by decide +kernel, rfl, by decide +kernel, by decide +kernel⟩
abbrev s_echelon : Stmt := topS 7
abbrev nm_echelon : List Str := ["rows", "found", "row", "rest", "known", "column", "size", "item"]
theorem sc_echelon : FnScope nm_echelon ["rows"] (defScope s_echelon) := ⟨rfl, rfl, rfl, by decide +kernel, rfl, by decide +kernel, by decide +kernel⟩
abbrev s_law_cell : Stmt := topS 10
abbrev nm_law_cell : List Str := ["_law_script", "_law_k"]
theorem sc_law_cell : FnScope nm_law_cell ["_law_script", "_law_k"] (defScope s_law_cell) := ⟨rfl, rfl, rfl, by decide +kernel, rfl, by decide +kernel, by decide +kernel⟩
abbrev s_law_vector : Stmt := topS 20
abbrev nm_law_vector : List Str := ["_law_cell_here", "_law_size", "_law_draws_here", "_law_k"]
theorem sc_law_vector : FnScope nm_law_vector ["_law_cell_here", "_law_size"] (defScope s_law_vector) := ⟨rfl, rfl, rfl, by decide +kernel, rfl, by decide +kernel, by decide +kernel⟩
abbrev s_law_sum : Stmt := topS 15
abbrev nm_law_sum : List Str := ["_law_first", "_law_vector_here", "_law_second", "_law_other", "_law_k"]
theorem sc_law_sum : FnScope nm_law_sum ["_law_first", "_law_vector_here", "_law_second", "_law_other"] (defScope s_law_sum) := ⟨rfl, rfl, rfl, by decide +kernel, rfl, by decide +kernel, by decide +kernel⟩
abbrev s_law_pivot : Stmt := topS 16
abbrev nm_law_pivot : List Str := ["_law_vector_here", "_law_column"]
theorem sc_law_pivot : FnScope nm_law_pivot ["_law_vector_here"] (defScope s_law_pivot) := ⟨rfl, rfl, rfl, by decide +kernel, rfl, by decide +kernel, by decide +kernel⟩
abbrev s_law_gcd : Stmt := topS 12
abbrev nm_law_gcd : List Str := ["_law_a", "_law_b", "_law_k", "_law_rest"]
theorem sc_law_gcd : FnScope nm_law_gcd ["_law_a", "_law_b"] (defScope s_law_gcd) := ⟨rfl, rfl, rfl, by decide +kernel, rfl, by decide +kernel, by decide +kernel⟩
abbrev s_law_primitive : Stmt := topS 13
abbrev nm_law_primitive : List Str := ["_law_vector_here", "_law_common", "_law_item"]
theorem sc_law_primitive : FnScope nm_law_primitive ["_law_vector_here"] (defScope s_law_primitive) := ⟨rfl, rfl, rfl, by decide +kernel, rfl, by decide +kernel, by decide +kernel⟩
abbrev s_law_is_echelon : Stmt := topS 21
abbrev nm_law_is_echelon : List Str := ["_law_rows", "_law_size", "_law_last", "_law_pivots", "_law_row", "_law_pivot_here", "_law_rank", "_law_k", "_law_j"]
theorem sc_law_is_echelon : FnScope nm_law_is_echelon ["_law_rows", "_law_size"] (defScope s_law_is_echelon) := ⟨rfl, rfl, rfl, by decide +kernel, rfl, by decide +kernel, by decide +kernel⟩
abbrev s_law_echelon : Stmt := topS 17
abbrev nm_law_echelon : List Str := ["_law_rows", "_law_found", "_law_left", "_law_columns", "_law_column", "_law_chosen", "_law_row", "_law_k", "_law_item", "_law_other"]
theorem sc_law_echelon : FnScope nm_law_echelon ["_law_rows"] (defScope s_law_echelon) := ⟨rfl, rfl, rfl, by decide +kernel, rfl, by decide +kernel, by decide +kernel⟩
abbrev s_reduced : Stmt := topS 8
abbrev nm_reduced : List Str := ["vector", "rows", "rest", "row"]
theorem sc_reduced : FnScope nm_reduced ["vector", "rows"] (defScope s_reduced) := ⟨rfl, rfl, rfl, by decide +kernel, rfl, by decide +kernel, by decide +kernel⟩
abbrev s_law : Stmt := topS 22
abbrev nm_law : List Str := ["_law_script", "_law_k", "_law_draws_here", "_law_size", "_law_rows", "_law_kept", "_law_actual", "_law_row", "_law_other", "_law_j", "_law_item"]
theorem sc_law : FnScope nm_law ["_law_script"] (defScope s_law) := ⟨rfl, rfl, rfl, by decide +kernel, rfl, by decide +kernel, by decide +kernel⟩
structure Tx (K : PySem.W.Frag) (mg : Str → Option Value) (ct : Addr) : Prop where
  m_abs : mg "abs" = none
  m_any : mg "any" = none
  m_int : mg "int" = none
  m_isinstance : mg "isinstance" = none
  m_len : mg "len" = none
  m_list : mg "list" = none
  m_range : mg "range" = none
  m_repr : mg "repr" = none
  m_reversed : mg "reversed" = none
  m_sorted : mg "sorted" = none
  m_zip : mg "zip" = none
  m_gcd : mg "gcd" = some (.builtin "math.gcd")
  F_law_draws : ∃ f fd, L2.Fun K "_law_draws" "_law_draws" s_law_draws f fd ∧ mg "_law_draws" = some (.ref f) ∧ Binds K fd ["_law_cell_here", "_law_limits"] []
  F_pivot_of : ∃ f fd, L2.Fun K "pivot_of" "pivot_of" s_pivot_of f fd ∧ mg "pivot_of" = some (.ref f) ∧ Binds K fd ["vector"] []
  F_common_divisor : ∃ f fd, L2.Fun K "common_divisor" "common_divisor" s_common_divisor f fd ∧ mg "common_divisor" = some (.ref f) ∧ Binds K fd ["vector"] []
  F_primitive : ∃ f fd, L2.Fun K "primitive" "primitive" s_primitive f fd ∧ mg "primitive" = some (.ref f) ∧ Binds K fd ["vector"] []
  F_combined : ∃ f fd, L2.Fun K "combined" "combined" s_combined f fd ∧ mg "combined" = some (.ref f) ∧ Binds K fd ["first", "vector", "second", "other"] []
  F_cleared : ∃ f fd, L2.Fun K "cleared" "cleared" s_cleared f fd ∧ mg "cleared" = some (.ref f) ∧ Binds K fd ["vector", "row", "column"] []
  F_echelon : ∃ f fd, L2.Fun K "echelon" "echelon" s_echelon f fd ∧ mg "echelon" = some (.ref f) ∧ Binds K fd ["rows"] [] ∧ fd.code = .ref ct
  F_law_cell : ∃ f fd, L2.Fun K "_law_cell" "_law_cell" s_law_cell f fd ∧ mg "_law_cell" = some (.ref f) ∧ Binds K fd ["_law_script", "_law_k"] []
  F_law_vector : ∃ f fd, L2.Fun K "_law_vector" "_law_vector" s_law_vector f fd ∧ mg "_law_vector" = some (.ref f) ∧ Binds K fd ["_law_cell_here", "_law_size"] []
  F_law_sum : ∃ f fd, L2.Fun K "_law_sum" "_law_sum" s_law_sum f fd ∧ mg "_law_sum" = some (.ref f) ∧ Binds K fd ["_law_first", "_law_vector_here", "_law_second", "_law_other"] []
  F_law_pivot : ∃ f fd, L2.Fun K "_law_pivot" "_law_pivot" s_law_pivot f fd ∧ mg "_law_pivot" = some (.ref f) ∧ Binds K fd ["_law_vector_here"] []
  F_law_gcd : ∃ f fd, L2.Fun K "_law_gcd" "_law_gcd" s_law_gcd f fd ∧ mg "_law_gcd" = some (.ref f) ∧ Binds K fd ["_law_a", "_law_b"] []
  F_law_primitive : ∃ f fd, L2.Fun K "_law_primitive" "_law_primitive" s_law_primitive f fd ∧ mg "_law_primitive" = some (.ref f) ∧ Binds K fd ["_law_vector_here"] []
  F_law_is_echelon : ∃ f fd, L2.Fun K "_law_is_echelon" "_law_is_echelon" s_law_is_echelon f fd ∧ mg "_law_is_echelon" = some (.ref f) ∧ Binds K fd ["_law_rows", "_law_size"] []
  F_law_echelon : ∃ f fd, L2.Fun K "_law_echelon" "_law_echelon" s_law_echelon f fd ∧ mg "_law_echelon" = some (.ref f) ∧ Binds K fd ["_law_rows"] []
  F_reduced : ∃ f fd, L2.Fun K "reduced" "reduced" s_reduced f fd ∧ mg "reduced" = some (.ref f) ∧ Binds K fd ["vector", "rows"] []
  F_law : ∃ f fd, L2.Fun K "law" "law" s_law f fd ∧ mg "law" = some (.ref f) ∧ Binds K fd ["_law_script"] []
theorem r65 {k : Nat} {A : Around} (r : Room k A) : A.units + 65 < cLine := by have := r.un; omega
noncomputable def fb_law_draws : DS → Option Out := (fSeq (fSet 2 (fLst fNil)) (fSeq (fSet 3 (fCa (g1I fun i => .int (if i < 0 then -i else i)) (fCons (fCa gInt (fCons (fVar 0) fNil)) fNil))) (fSeq (fSet 4 (fOp (gI cNz fun i j => .int (i.fmod j)) (fCa gInt (fCons (fVar 3) fNil)) (fC (.int 2147483647)))) (fSeq (fSet 5 (fOrV (fOp (gCmp fun i j => decide (i < j)) (fVar 0) (fC (.int 0))) (fOp (gCmp fun i j => decide (j ≤ i)) (fVar 0) (fOp (gI cPow fun i j => .int (i ^ j.toNat)) (fC (.int 10)) (fC (.int 18)))))) (fSeq (fFor (fiList (fVar 1)) (fgName 6) (fIfS (fAndT (fTru (fVar 5)) (fBool (fOp (gCmp fun i j => decide (j < i)) (fVar 3) (fC (.int 1))))) (fSeq (fApp 2 (fOp (gI cNz fun i j => .int (i.fmod j)) (fCa gInt (fCons (fVar 3) fNil)) (fVar 6))) (fSet 3 (fOp (gI cNz fun i j => .int (i.fdiv j)) (fVar 3) (fVar 6)))) (fSeq (fSet 4 (fOp (gI cNz fun i j => .int (i.fmod j)) (fCa gInt (fCons (fAdd (fMul (fVar 4) (fC (.int 48271))) (fC (.int 11))) fNil)) (fC (.int 2147483647)))) (fSeq (fSet 4 (fOp (gI cNz fun i j => .int (i.fmod j)) (fCa gInt (fCons (fAdd (fMul (fVar 4) (fC (.int 69621))) (fC (.int 7))) fNil)) (fC (.int 2147483647)))) (fApp 2 (fOp (gI cNz fun i j => .int (i.fmod j)) (fCa gInt (fCons (fOp (gI cNz fun i j => .int (i.fdiv j)) (fVar 4) (fC (.int 13))) fNil)) (fVar 6))))))) (fRet (fVar 2)))))))
noncomputable def g_law_draws : DS → Option DR := funO [] 2 7 fb_law_draws
noncomputable def fb_pivot_of : DS → Option Out := (fSeq (fFor (fiR2 (fCons (fC (.int 1)) (fCons (fCa gLen (fCons (fVar 0) fNil)) fNil))) (fgName 1) (fIfS (fBool (fOp gNeX (fIx (fVar 0) (fVar 1)) (fC (.int 0)))) (fRet (fVar 1)) fNext)) (fSeq (fIfS (fAndT (fBool (fOp (gCmp fun i j => decide (j < i)) (fCa gLen (fCons (fVar 0) fNil)) (fC (.int 0)))) (fBool (fOp gNeX (fIx (fVar 0) (fC (.int 0))) (fC (.int 0))))) (fRet (fC (.int 0))) fNext) (fRet (fC .none))))
noncomputable def g_pivot_of : DS → Option DR := funO [] 1 2 fb_pivot_of
noncomputable def fb_common_divisor : DS → Option Out := (fSeq (fSet 1 (fC (.int 0))) (fSeq (fFor (fiList (fVar 0)) (fgName 2) (fSet 1 (fCa gGcd (fCons (fVar 1) (fCons (fVar 2) fNil))))) (fRet (fVar 1))))
noncomputable def g_common_divisor : DS → Option DR := funO [] 1 3 fb_common_divisor
noncomputable def fb_primitive : DS → Option Out := (fSeq (fSet 1 (fCall 1 g_common_divisor (fCons (fVar 0) fNil))) (fSeq (fIfS (fBool (fOp (gCmp fun i j => decide (i ≤ j)) (fVar 1) (fC (.int 1)))) (fRet (fListOf (fCons (fVar 0) fNil))) fNext) (fRet (fLc (fiList (fVar 0)) (fgName 2) fYes (fOp (gI cNz fun i j => .int (i.fdiv j)) (fVar 2) (fVar 1)) [2]))))
noncomputable def g_primitive : DS → Option DR := funO [] 1 3 fb_primitive
noncomputable def fb_combined : DS → Option Out := (fRet (fLc (fiZip (fCons (fVar 1) (fCons (fVar 3) fNil))) (fgTup 2 (fgCons (fgName 4) (fgCons (fgName 5) fgNil))) fYes (fAdd (fMul (fVar 0) (fVar 4)) (fMul (fVar 2) (fVar 5))) [4, 5]))
noncomputable def g_combined : DS → Option DR := funO [] 4 6 fb_combined
noncomputable def fb_cleared : DS → Option Out := (fSeq (fIfS (fBool (fOp gEqX (fIx (fVar 0) (fVar 2)) (fC (.int 0)))) (fRet (fVar 0)) fNext) (fRet (fCall 1 g_primitive (fCons (fCall 4 g_combined (fCons (fIx (fVar 1) (fVar 2)) (fCons (fVar 0) (fCons (fUn gNeg (fIx (fVar 0) (fVar 2))) (fCons (fVar 1) fNil))))) fNil))))
noncomputable def g_cleared : DS → Option DR := funO [] 3 3 fb_cleared
noncomputable def fb_echelon : DS → Option Out := (fSeq (fSet 1 (fLst fNil)) (fSeq (fFor (fiList (fVar 0)) (fgName 2) (fSeq (fSet 3 (fListOf (fCons (fVar 2) fNil))) (fSeq (fBorS 1 [] [4, 5] [4] [4, 3] (fFor (fiList (fVar 1)) (fgName 4) (fSet 3 (fCallM 3 g_cleared 3 (fCons (fVar 4) (fCons (fCall 1 g_pivot_of (fCons (fVar 4) fNil)) fNil)))))) (fSeq (fSet 5 (fCall 1 g_pivot_of (fCons (fVar 3) fNil))) (fIfS (fBool (fOp gNotN2 (fVar 5) (fC .none))) (fSeq (fSet 3 (fCall 1 g_primitive (fCons (fVar 3) fNil))) (fSeq (fIfS (fBool (fOp (gCmp fun i j => decide (i < j)) (fIx (fVar 3) (fVar 5)) (fC (.int 0)))) (fSet 3 (fLc (fiList (fVar 3)) (fgName 7) fYes (fUn gNeg (fVar 7)) [7])) fNext) (fSeq (fSet 1 (fLcC 1 4 fYes (fCallN 3 g_cleared 4 (fCons (fVar 3) (fCons (fVar 5) fNil))) [4])) (fAppT 1 (fVar 3))))) fNext))))) (fSeq (fBorS 1 [] [2, 3, 4, 5] [] [6] (fSet 6 (fIf (fTru (fVar 1)) (fCa gLen (fCons (fIx (fVar 1) (fC (.int 0))) fNil)) (fC (.int 0))))) (fRet (fSortKT 1 [6] (fOp (gI cNz fun i j => .int (i.fmod j)) (fOp (gI cT fun i j => .int (i - j)) (fCall 1 g_pivot_of (fCons (fVar 0) fNil)) (fC (.int 1))) (fVar 1)))))))
noncomputable def g_echelon : DS → Option DR := funO [] 1 8 fb_echelon
noncomputable def fb_law_cell : DS → Option Out := (fSeq (fIfS (fBool (fOp (gCmp fun i j => decide (i < j)) (fVar 1) (fCa gLen (fCons (fVar 0) fNil)))) (fRet (fCa gInt (fCons (fIx (fVar 0) (fVar 1)) fNil))) fNext) (fRet (fC (.int 0))))
noncomputable def g_law_cell : DS → Option DR := funO [] 2 2 fb_law_cell
noncomputable def fb_law_vector : DS → Option Out := (fSeq (fSet 2 (fCall 2 g_law_draws (fCons (fVar 0) (fCons (fAdd (fAdd (fLst (fCons (fC (.int 6)) fNil)) (fMul (fLst (fCons (fC (.int 2000001)) fNil)) (fVar 1))) (fMul (fLst (fCons (fC (.int 7)) fNil)) (fVar 1))) fNil)))) (fSeq (fIfS (fBool (fOp gEqX (fIx (fVar 2) (fC (.int 0))) (fC (.int 0)))) (fRet (fLc (fiR1 (fCons (fVar 1) fNil)) (fgName 3) fYes (fOp (gI cT fun i j => .int (i - j)) (fIx (fVar 2) (fAdd (fC (.int 1)) (fVar 3))) (fC (.int 1000000))) [3])) fNext) (fSeq (fIfS (fBool (fOp gEqX (fIx (fVar 2) (fC (.int 0))) (fC (.int 1)))) (fRet (fLc (fiR1 (fCons (fVar 1) fNil)) (fgName 3) fYes (fMul (fOp (gI cT fun i j => .int (i - j)) (fIx (fVar 2) (fAdd (fAdd (fC (.int 1)) (fVar 1)) (fVar 3))) (fC (.int 3))) (fC (.int 6))) [3])) fNext) (fSeq (fIfS (fBool (fOp gEqX (fIx (fVar 2) (fC (.int 0))) (fC (.int 2)))) (fRet (fLc (fiR1 (fCons (fVar 1) fNil)) (fgName 3) fYes (fMul (fCa gInt (fCons (fOp gEqX (fIx (fVar 2) (fAdd (fAdd (fC (.int 1)) (fVar 1)) (fVar 3))) (fC (.int 3))) fNil)) (fAdd (fC (.int 1)) (fIx (fVar 2) (fAdd (fC (.int 1)) (fVar 3))))) [3])) fNext) (fRet (fLc (fiR1 (fCons (fVar 1) fNil)) (fgName 3) fYes (fOp (gI cT fun i j => .int (i - j)) (fIx (fVar 2) (fAdd (fAdd (fC (.int 1)) (fVar 1)) (fVar 3))) (fC (.int 3))) [3]))))))
noncomputable def g_law_vector : DS → Option DR := funO [] 2 4 fb_law_vector
noncomputable def fb_law_sum : DS → Option Out := (fRet (fLc (fiR1 (fCons (fCa gLen (fCons (fVar 1) fNil)) fNil)) (fgName 4) fYes (fAdd (fMul (fVar 0) (fIx (fVar 1) (fVar 4))) (fMul (fVar 2) (fIx (fVar 3) (fVar 4)))) [4]))
noncomputable def g_law_sum : DS → Option DR := funO [] 4 5 fb_law_sum
noncomputable def fb_law_pivot : DS → Option Out := (fSeq (fFor (fiR2 (fCons (fC (.int 1)) (fCons (fCa gLen (fCons (fVar 0) fNil)) fNil))) (fgName 1) (fIfS (fBool (fOp gNeX (fIx (fVar 0) (fVar 1)) (fC (.int 0)))) (fRet (fVar 1)) fNext)) (fSeq (fIfS (fAndT (fBool (fOp (gCmp fun i j => decide (j < i)) (fCa gLen (fCons (fVar 0) fNil)) (fC (.int 0)))) (fBool (fOp gNeX (fIx (fVar 0) (fC (.int 0))) (fC (.int 0))))) (fRet (fC (.int 0))) fNext) (fRet (fC .none))))
noncomputable def g_law_pivot : DS → Option DR := funO [] 1 2 fb_law_pivot
noncomputable def fb_law_gcd : DS → Option Out := (fSeq (fSet 0 (fCa (g1I fun i => .int (if i < 0 then -i else i)) (fCons (fVar 0) fNil))) (fSeq (fSet 1 (fCa (g1I fun i => .int (if i < 0 then -i else i)) (fCons (fVar 1) fNil))) (fSeq (fFor (fiR1 (fCons (fAdd (fAdd (fUn gBits (fVar 0)) (fUn gBits (fVar 1))) (fC (.int 4))) fNil)) (fgName 2) (fSeq (fIfS (fBool (fOp gEqX (fVar 1) (fC (.int 0)))) (fRet (fVar 0)) fNext) (fSeq (fSet 3 (fOp (gI cNz fun i j => .int (i.fmod j)) (fCa gInt (fCons (fVar 0) fNil)) (fVar 1))) (fSeq (fSet 0 (fVar 1)) (fSet 1 (fVar 3)))))) (fRet (fVar 0)))))
noncomputable def g_law_gcd : DS → Option DR := funO [] 2 4 fb_law_gcd
noncomputable def fb_law_primitive : DS → Option Out := (fSeq (fSet 1 (fC (.int 0))) (fSeq (fFor (fiList (fVar 0)) (fgName 2) (fSet 1 (fCall 2 g_law_gcd (fCons (fVar 1) (fCons (fVar 2) fNil))))) (fSeq (fIfS (fBool (fOp gEqX (fVar 1) (fC (.int 0)))) (fRet (fListOf (fCons (fVar 0) fNil))) fNext) (fRet (fLc (fiList (fVar 0)) (fgName 2) fYes (fOp (gI cNz fun i j => .int (i.fdiv j)) (fVar 2) (fVar 1)) [2])))))
noncomputable def g_law_primitive : DS → Option DR := funO [] 1 3 fb_law_primitive
noncomputable def fb_law_is_echelon : DS → Option Out := (fSeq (fSet 2 (fC (.int 0))) (fSeq (fSet 3 (fLst fNil)) (fSeq (fFor (fiList (fVar 0)) (fgName 4) (fSeq (fIfS (fOrT (fNotT (fTru (fIsi "list" (fVar 4)))) (fOrT (fBool (fOp gNeX (fCa gLen (fCons (fVar 4) fNil)) (fVar 1))) (fOrT (fBool (fOp gNeX (fVar 4) (fCall 1 g_law_primitive (fCons (fVar 4) fNil)))) (fBool (fOp gIsN2 (fCall 1 g_law_pivot (fCons (fVar 4) fNil)) (fC .none)))))) (fRet (fC (.bool false))) fNext) (fSeq (fSet 5 (fCall 1 g_law_pivot (fCons (fVar 4) fNil))) (fSeq (fSet 6 (fVar 5)) (fSeq (fIfS (fBool (fOp gEqX (fVar 5) (fC (.int 0)))) (fSet 6 (fVar 1)) fNext) (fSeq (fIfS (fOrT (fBool (fOp (gCmp fun i j => decide (i ≤ j)) (fIx (fVar 4) (fVar 5)) (fC (.int 0)))) (fBool (fOp (gCmp fun i j => decide (i ≤ j)) (fVar 6) (fVar 2)))) (fRet (fC (.bool false))) fNext) (fSeq (fSet 2 (fVar 6)) (fApp 3 (fVar 5))))))))) (fSeq (fFor (fiR1 (fCons (fCa gLen (fCons (fVar 0) fNil)) fNil)) (fgName 7) (fFor (fiR1 (fCons (fCa gLen (fCons (fVar 0) fNil)) fNil)) (fgName 8) (fIfS (fAndT (fBool (fOp gNeX (fVar 8) (fVar 7))) (fBool (fOp gNeX (fIx (fIx (fVar 0) (fVar 7)) (fIx (fVar 3) (fVar 8))) (fC (.int 0))))) (fRet (fC (.bool false))) fNext))) (fRet (fC (.bool true)))))))
noncomputable def g_law_is_echelon : DS → Option DR := funO [] 2 9 fb_law_is_echelon
noncomputable def fb_law_echelon : DS → Option Out := (fSeq (fSet 1 (fLst fNil)) (fSeq (fSet 2 (fLc (fiList (fVar 0)) (fgName 6) fYes (fCall 1 g_law_primitive (fCons (fVar 6) fNil)) [6])) (fSeq (fSet 3 (fLst fNil)) (fSeq (fIfS (fBool (fOp (gCmp fun i j => decide (j < i)) (fCa gLen (fCons (fVar 0) fNil)) (fC (.int 0)))) (fSet 3 (fAdd (fLc (fiR2 (fCons (fC (.int 1)) (fCons (fCa gLen (fCons (fIx (fVar 0) (fC (.int 0))) fNil)) fNil))) (fgName 7) fYes (fVar 7) [7]) (fLst (fCons (fC (.int 0)) fNil)))) fNext) (fSeq (fFor (fiList (fVar 3)) (fgName 4) (fSeq (fSet 5 (fLc (fiR1 (fCons (fCa gLen (fCons (fVar 2) fNil)) fNil)) (fgName 7) (fBool (fOp gNeX (fIx (fIx (fVar 2) (fVar 7)) (fVar 4)) (fC (.int 0)))) (fVar 7) [7])) (fIfS (fBool (fOp (gCmp fun i j => decide (j < i)) (fCa gLen (fCons (fVar 5) fNil)) (fC (.int 0)))) (fSeq (fSet 6 (fIx (fVar 2) (fIx (fVar 5) (fC (.int 0))))) (fSeq (fIfS (fBool (fOp (gCmp fun i j => decide (i < j)) (fIx (fVar 6) (fVar 4)) (fC (.int 0)))) (fSet 6 (fLc (fiList (fVar 6)) (fgName 8) fYes (fUn gNeg (fVar 8)) [8])) fNext) (fSeq (fSet 2 (fAdd (fSl (fVar 2) fNoPart (fPart (fIx (fVar 5) (fC (.int 0))))) (fSl (fVar 2) (fPart (fAdd (fIx (fVar 5) (fC (.int 0))) (fC (.int 1)))) fNoPart))) (fSeq (fSet 2 (fLc (fiList (fVar 2)) (fgName 9) fYes (fCall 1 g_law_primitive (fCons (fCall 4 g_law_sum (fCons (fIx (fVar 6) (fVar 4)) (fCons (fVar 9) (fCons (fUn gNeg (fIx (fVar 9) (fVar 4))) (fCons (fVar 6) fNil))))) fNil)) [9])) (fSet 1 (fAdd (fLc (fiList (fVar 1)) (fgName 9) fYes (fCall 1 g_law_primitive (fCons (fCall 4 g_law_sum (fCons (fIx (fVar 6) (fVar 4)) (fCons (fVar 9) (fCons (fUn gNeg (fIx (fVar 9) (fVar 4))) (fCons (fVar 6) fNil))))) fNil)) [9]) (fLst (fCons (fVar 6) fNil)))))))) fNext))) (fRet (fVar 1)))))))
noncomputable def g_law_echelon : DS → Option DR := funO [] 1 10 fb_law_echelon
noncomputable def fb_reduced : DS → Option Out := (fSeq (fSet 2 (fCall 1 g_primitive (fCons (fVar 0) fNil))) (fSeq (fFor (fiList (fVar 1)) (fgName 3) (fSet 2 (fCallM 3 g_cleared 2 (fCons (fVar 3) (fCons (fCall 1 g_pivot_of (fCons (fVar 3) fNil)) fNil))))) (fRet (fVar 2))))
noncomputable def g_reduced : DS → Option DR := funO [] 2 4 fb_reduced
noncomputable def fb_law : DS → Option Out := (fSeq (fFor (fiR3 (fCons (fC (.int 0)) (fCons (fAdd (fCa gLen (fCons (fVar 0) fNil)) (fC (.int 8))) (fCons (fC (.int 8)) fNil)))) (fgName 1) (fSeq (fSet 2 (fCall 2 g_law_draws (fCons (fCall 2 g_law_cell (fCons (fVar 0) (fCons (fVar 1) fNil))) (fCons (fLst (fCons (fC (.int 6)) (fCons (fC (.int 5)) (fCons (fC (.int 5)) (fCons (fC (.int 5)) (fCons (fC (.int 7)) (fCons (fC (.int 7)) fNil))))))) fNil)))) (fSeq (fSet 3 (fAdd (fC (.int 1)) (fIx (fVar 2) (fC (.int 1))))) (fSeq (fSet 4 (fLc (fiR1 (fCons (fIx (fVar 2) (fC (.int 0))) fNil)) (fgName 9) fYes (fCall 2 g_law_vector (fCons (fCall 2 g_law_cell (fCons (fVar 0) (fCons (fAdd (fAdd (fVar 1) (fC (.int 1))) (fVar 9)) fNil))) (fCons (fVar 3) fNil))) [9])) (fSeq (fIfS (fAndT (fBool (fOp (gCmp fun i j => decide (j < i)) (fCa gLen (fCons (fVar 4) fNil)) (fC (.int 1)))) (fBool (fOp gEqX (fIx (fVar 2) (fC (.int 2))) (fC (.int 0))))) (fApp 4 (fCall 4 g_law_sum (fCons (fOp (gI cT fun i j => .int (i - j)) (fIx (fVar 2) (fC (.int 4))) (fC (.int 3))) (fCons (fIx (fVar 4) (fC (.int 0))) (fCons (fOp (gI cT fun i j => .int (i - j)) (fIx (fVar 2) (fC (.int 5))) (fC (.int 3))) (fCons (fIx (fVar 4) (fC (.int 1))) fNil)))))) fNext) (fSeq (fSet 5 (fCa gRepr (fCons (fVar 4) fNil))) (fSeq (fSet 6 (fCall 1 g_echelon (fCons (fVar 4) fNil))) (fSeq (fBorS 6 [4] [7, 8, 9] [] [] (fIfS (fOrT (fNotT (fTru (fIsi "list" (fVar 6)))) (fOrT (fNotT (fTru (fCall 2 g_law_is_echelon (fCons (fVar 6) (fCons (fVar 3) fNil))))) (fOrT (fBool (fOp gNeX (fVar 6) (fCall 1 g_law_echelon (fCons (fVar 4) fNil)))) (fBool (fOp gNeX (fCa gRepr (fCons (fVar 4) fNil)) (fVar 5)))))) (fRet (fC (.bool false))) fNext)) (fSeq (fFor (fiList (fVar 4)) (fgName 7) (fBorS 6 [] [] [] [] (fIfS (fTru (fCa gAny (fCons (fCall 2 g_reduced (fCons (fVar 7) (fCons (fVar 6) fNil))) fNil))) (fRet (fC (.bool false))) fNext))) (fSeq (fSet 8 (fLc (fi1 List.reverse (fCons (fVar 4) fNil)) (fgName 7) fYes (fLc (fiList (fVar 7)) (fgName 10) fYes (fMul (fOp (gI cT fun i j => .int (i - j)) (fIx (fVar 2) (fC (.int 3))) (fC (.int 5))) (fVar 10)) [10]) [7])) (fSeq (fIfS (fBool (fOp (gCmp fun i j => decide (j < i)) (fCa gLen (fCons (fVar 4) fNil)) (fC (.int 1)))) (fApp 8 (fCall 4 g_law_sum (fCons (fC (.int 3)) (fCons (fIx (fVar 4) (fC (.int 0))) (fCons (fUn gNeg (fC (.int 2))) (fCons (fIx (fVar 4) (fUn gNeg (fC (.int 1)))) fNil)))))) fNext) (fSeq (fBorS 6 [8] [7] [] [] (fIfS (fOrT (fBool (fOp gNeX (fCall 1 g_echelon (fCons (fVar 8) fNil)) (fVar 6))) (fBool (fOp gNeX (fCall 1 g_echelon (fCons (fVar 6) fNil)) (fVar 6)))) (fRet (fC (.bool false))) fNext)) (fSeq (fFor (fiR1 (fCons (fCa gLen (fCons (fVar 6) fNil)) fNil)) (fgName 9) (fAppP 6 (fVar 9) (fSimV 9))) (fBorS 6 [] [9] [] [] (fIfS (fOrT (fBool (fOp gNeX (fCa gRepr (fCons (fVar 4) fNil)) (fVar 5))) (fBool (fOp gNeX (fLc (fiList (fVar 6)) (fgName 7) fYes (fIx (fVar 7) (fUn gNeg (fC (.int 1)))) [7]) (fLc (fiR1 (fCons (fCa gLen (fCons (fVar 6) fNil)) fNil)) (fgName 9) fYes (fVar 9) [9])))) (fRet (fC (.bool false))) fNext))))))))))))))) (fRet (fC (.bool true))))
noncomputable def g_law : DS → Option DR := funO [] 1 11 fb_law
section
variable {P : Program} {w : World} {K : PySem.W.Frag} {mg : Str → Option Value} {base : Heap} {ct Pt : Addr}
theorem d_law_draws (T : Tx K mg ct) (B : Bl P base mg ct Pt) : Dk P w K [(Pt, "echelon.<locals>.<lambda>")] mg base 41 "_law_draws" 2 g_law_draws := by
  obtain ⟨f, fd, F, hm, hb⟩ := T.F_law_draws
  exact def_ok F hm hb sc_law_draws (by decide) (fun cdv A outer s H E hr => ⟨_, (b_cons (s_set 2 sc_law_draws.nd (j_lst a_nil)) (b_cons (s_set 3 sc_law_draws.nd (j_abs T.m_abs (a_cons (j_intc T.m_int (a_cons (jv 0) a_nil)) a_nil))) (b_cons (s_set 4 sc_law_draws.nd (j_mod (j_intc T.m_int (a_cons (jv 3) a_nil)) j_int)) (b_cons (s_set 5 sc_law_draws.nd (j_or (j_lt (jv 0) j_int) (j_one (j_ge (jv 0) (j_pow j_int j_int))))) (b_cons (s_for rfl (i_list (jv 1)) (g_name 6 sc_law_draws.nd) (b_one (s_if (k_w (w_and (k_tru (jv 5)) (w_and1 (k_gt (jv 3) j_int)))) (b_cons (s_app 2 (j_mod (j_intc T.m_int (a_cons (jv 3) a_nil)) (jv 6))) (b_one (s_set 3 sc_law_draws.nd (j_fdivP B.b hr (jv 3) (jv 6))))) (b_cons (s_set 4 sc_law_draws.nd (j_mod (j_intc T.m_int (a_cons (j_add (j_mul (jv 4) j_int) j_int) a_nil)) j_int)) (b_cons (s_set 4 sc_law_draws.nd (j_mod (j_intc T.m_int (a_cons (j_add (j_mul (jv 4) j_int) j_int) a_nil)) j_int)) (b_one (s_app 2 (j_mod (j_intc T.m_int (a_cons (j_fdivP B.b hr (jv 4) j_int) a_nil)) (jv 6))))))))) (b_one (s_ret (jv 2))))))))⟩) (fun _ h => nomatch h)
theorem d_pivot_of (T : Tx K mg ct) (B : Bl P base mg ct Pt) : Dk P w K [(Pt, "echelon.<locals>.<lambda>")] mg base 41 "pivot_of" 1 g_pivot_of := by
  obtain ⟨f, fd, F, hm, hb⟩ := T.F_pivot_of
  exact def_ok F hm hb sc_pivot_of (by decide) (fun cdv A outer s H E hr => ⟨_, (b_cons (s_for rfl (i_r2 T.m_range (a_cons j_int (a_cons (j_len T.m_len (a_cons (jv 0) a_nil)) a_nil))) (g_name 1 sc_pivot_of.nd) (b_one (s_if (k_ne hr.units (j_ix (jv 0) (jv 1)) j_int) (b_one (s_ret (jv 1))) b_nil))) (b_cons (s_if (k_w (w_and (k_gt (j_len T.m_len (a_cons (jv 0) a_nil)) j_int) (w_and1 (k_ne hr.units (j_ix (jv 0) j_int) j_int)))) (b_one (s_ret j_int)) b_nil) (b_one (s_ret j_non))))⟩) (fun _ h => nomatch h)
theorem d_common_divisor (T : Tx K mg ct) (B : Bl P base mg ct Pt) : Dk P w K [(Pt, "echelon.<locals>.<lambda>")] mg base 41 "common_divisor" 1 g_common_divisor := by
  obtain ⟨f, fd, F, hm, hb⟩ := T.F_common_divisor
  exact def_ok F hm hb sc_common_divisor (by decide) (fun cdv A outer s H E hr => ⟨_, (b_cons (s_set 1 sc_common_divisor.nd j_int) (b_cons (s_for rfl (i_list (jv 0)) (g_name 2 sc_common_divisor.nd) (b_one (s_set 1 sc_common_divisor.nd (j_gcd T.m_gcd (a_cons (jv 1) (a_cons (jv 2) a_nil)))))) (b_one (s_ret (jv 1)))))⟩) (fun _ h => nomatch h)
theorem d_primitive (T : Tx K mg ct) (B : Bl P base mg ct Pt) : Dk P w K [(Pt, "echelon.<locals>.<lambda>")] mg base 42 "primitive" 1 g_primitive := by
  obtain ⟨f, fd, F, hm, hb⟩ := T.F_primitive
  exact def_ok F hm hb sc_primitive (by decide) (fun cdv A outer s H E hr => ⟨_, (b_cons (s_set 1 sc_primitive.nd (j_call (d_common_divisor T B) (hr.mono (by decide)) (a_cons (jv 0) a_nil))) (b_cons (s_if (k_le (jv 1) j_int) (b_one (s_ret (j_list T.m_list (a_cons (jv 0) a_nil)))) b_nil) (b_one (s_ret (j_lc (own := [("item", 2)]) (T := [2]) rfl sc_primitive.nd (i_list (jv 0)) (blkOk_by (own := [("item", 2)]) (N := nm_primitive) (sc := defScope s_primitive) (by decide +kernel)) (fun _ _ _ _ _ => (g_name 2 sc_primitive.nd)) (fun _ _ _ _ _ => s_nil) (fun _ _ _ _ _ => (j_fdivP B.b hr (jv 2) (jv 1))) (by decide) s H)))))⟩) (fun _ h => nomatch h)
theorem d_combined (T : Tx K mg ct) (B : Bl P base mg ct Pt) : Dk P w K [(Pt, "echelon.<locals>.<lambda>")] mg base 41 "combined" 4 g_combined := by
  obtain ⟨f, fd, F, hm, hb⟩ := T.F_combined
  exact def_ok F hm hb sc_combined (by decide) (fun cdv A outer s H E hr => ⟨_, (b_one (s_ret (j_lc (own := [("a", 4), ("b", 5)]) (T := [4, 5]) rfl sc_combined.nd (i_zip T.m_zip (a_cons (jv 1) (a_cons (jv 3) a_nil))) (blkOk_by (own := [("a", 4), ("b", 5)]) (N := nm_combined) (sc := defScope s_combined) (by decide +kernel)) (fun _ _ _ _ _ => (g_tup rfl (gs_cons (g_name 4 sc_combined.nd) (gs_cons (g_name 5 sc_combined.nd) gs_nil)))) (fun _ _ _ _ _ => s_nil) (fun _ _ _ _ _ => (j_add (j_mul (jv 0) (jv 4)) (j_mul (jv 2) (jv 5)))) (by decide) s H)))⟩) (fun _ h => nomatch h)
theorem d_cleared (T : Tx K mg ct) (B : Bl P base mg ct Pt) : Dk P w K [(Pt, "echelon.<locals>.<lambda>")] mg base 43 "cleared" 3 g_cleared := by
  obtain ⟨f, fd, F, hm, hb⟩ := T.F_cleared
  exact def_ok F hm hb sc_cleared (by decide) (fun cdv A outer s H E hr => ⟨_, (b_cons (s_if (k_eq hr.units (j_ix (jv 0) (jv 2)) j_int) (b_one (s_ret (jv 0))) b_nil) (b_one (s_ret (j_call (d_primitive T B) (hr.mono (by decide)) (a_cons (j_call (d_combined T B) (hr.mono (by decide)) (a_cons (j_ix (jv 1) (jv 2)) (a_cons (jv 0) (a_cons (j_neg (j_ix (jv 0) (jv 2))) (a_cons (jv 1) a_nil))))) a_nil)))))⟩) (fun _ h => nomatch h)
theorem d_echelon (T : Tx K mg ct) (B : Bl P base mg ct Pt) : Dk P w K [(Pt, "echelon.<locals>.<lambda>")] mg base 47 "echelon" 1 g_echelon := by
  obtain ⟨f, fd, F, hm, hb, hcode⟩ := T.F_echelon
  exact def_okC F hcode hm hb sc_echelon (by decide) (fun A outer s H E hr => ⟨_, (b_cons (s_set 1 sc_echelon.nd (j_lst a_nil)) (b_cons (s_for rfl (i_list (jv 0)) (g_name 2 sc_echelon.nd) (b_cons (s_set 3 sc_echelon.nd (j_list T.m_list (a_cons (jv 2) a_nil))) (b_cons (s_bor 1 [] [4, 5] [4] (s_for rfl (i_list (jv 1)) (g_name 4 sc_echelon.nd) (b_one (s_set 3 sc_echelon.nd (j_callM 3 (d_cleared T B) (hr.mono (by decide)) (a_cons (jv 4) (a_cons (j_call (d_pivot_of T B) (hr.mono (by decide)) (a_cons (jv 4) a_nil)) a_nil))))))) (b_cons (s_set 5 sc_echelon.nd (j_call (d_pivot_of T B) (hr.mono (by decide)) (a_cons (jv 3) a_nil))) (b_one (s_if (k_notN (jv 5) j_non) (b_cons (s_set 3 sc_echelon.nd (j_call (d_primitive T B) (hr.mono (by decide)) (a_cons (jv 3) a_nil))) (b_cons (s_if (k_lt (j_ix (jv 3) (jv 5)) j_int) (b_one (s_set 3 sc_echelon.nd (j_lc (own := [("item", 7)]) (T := [7]) rfl sc_echelon.nd (i_list (jv 3)) (blkOk_by (own := [("item", 7)]) (N := nm_echelon) (sc := defScope s_echelon) (by decide +kernel)) (fun _ _ _ _ _ => (g_name 7 sc_echelon.nd)) (fun _ _ _ _ _ => s_nil) (fun _ _ _ _ _ => (j_neg (jv 7))) (by decide) s H))) b_nil) (b_cons (s_setLcC 1 1 4 (own := [("known", 4)]) rfl sc_echelon.nd (sw_true rfl rfl rfl (by decide +kernel)) (blkOk_by (own := [("known", 4)]) (N := nm_echelon) (sc := defScope s_echelon) (by decide +kernel)) (fun _ _ _ _ _ => (g_name 4 sc_echelon.nd)) (fun _ _ _ _ _ => s_nil) (fun _ _ _ _ _ => (j_callN 4 (d_cleared T B) (hr.mono (by decide)) (a_cons (jv 3) (a_cons (jv 5) a_nil)))) s H) (b_one (s_appT 1 (jv 3)))))) b_nil)))))) (b_cons (s_bor 1 [] [2, 3, 4, 5] [] (s_set 6 sc_echelon.nd (j_if (k_tru (jv 1)) (j_len T.m_len (a_cons (j_ix (jv 1) j_int) a_nil)) j_int))) (b_one (s_ret (j_sortKT 1 (k := 43) [("size", 6)] T.m_sorted B.t hr (lamP_by (a := "known") (N := nm_echelon) (sc := defScope s_echelon) (by decide +kernel)) (fun s1 H1 f1 c1 hr => (j_mod (j_sub (j_call (d_pivot_of T B) (hr.mono (by decide)) (a_cons (jv 0) a_nil)) j_int) (jv 1))) (List.mem_singleton.mpr rfl) (fun p hp _ => by obtain rfl := List.mem_singleton.mp hp; rfl)))))))⟩) (fun _ h => nomatch h)
theorem d_law_cell (T : Tx K mg ct) (B : Bl P base mg ct Pt) : Dk P w K [(Pt, "echelon.<locals>.<lambda>")] mg base 41 "_law_cell" 2 g_law_cell := by
  obtain ⟨f, fd, F, hm, hb⟩ := T.F_law_cell
  exact def_ok F hm hb sc_law_cell (by decide) (fun cdv A outer s H E hr => ⟨_, (b_cons (s_if (k_lt (jv 1) (j_len T.m_len (a_cons (jv 0) a_nil))) (b_one (s_ret (j_intc T.m_int (a_cons (j_ix (jv 0) (jv 1)) a_nil)))) b_nil) (b_one (s_ret j_int)))⟩) (fun _ h => nomatch h)
theorem d_law_vector (T : Tx K mg ct) (B : Bl P base mg ct Pt) : Dk P w K [(Pt, "echelon.<locals>.<lambda>")] mg base 42 "_law_vector" 2 g_law_vector := by
  obtain ⟨f, fd, F, hm, hb⟩ := T.F_law_vector
  exact def_ok F hm hb sc_law_vector (by decide) (fun cdv A outer s H E hr => ⟨_, (b_cons (s_set 2 sc_law_vector.nd (j_call (d_law_draws T B) (hr.mono (by decide)) (a_cons (jv 0) (a_cons (j_add (j_add (j_lst (a_cons j_int a_nil)) (j_mul (j_lst (a_cons j_int a_nil)) (jv 1))) (j_mul (j_lst (a_cons j_int a_nil)) (jv 1))) a_nil)))) (b_cons (s_if (k_eq hr.units (j_ix (jv 2) j_int) j_int) (b_one (s_ret (j_lc (own := [("_law_k", 3)]) (T := [3]) rfl sc_law_vector.nd (i_r1 T.m_range (a_cons (jv 1) a_nil)) (blkOk_by (own := [("_law_k", 3)]) (N := nm_law_vector) (sc := defScope s_law_vector) (by decide +kernel)) (fun _ _ _ _ _ => (g_name 3 sc_law_vector.nd)) (fun _ _ _ _ _ => s_nil) (fun _ _ _ _ _ => (j_sub (j_ix (jv 2) (j_add j_int (jv 3))) j_int)) (by decide) s H))) b_nil) (b_cons (s_if (k_eq hr.units (j_ix (jv 2) j_int) j_int) (b_one (s_ret (j_lc (own := [("_law_k", 3)]) (T := [3]) rfl sc_law_vector.nd (i_r1 T.m_range (a_cons (jv 1) a_nil)) (blkOk_by (own := [("_law_k", 3)]) (N := nm_law_vector) (sc := defScope s_law_vector) (by decide +kernel)) (fun _ _ _ _ _ => (g_name 3 sc_law_vector.nd)) (fun _ _ _ _ _ => s_nil) (fun _ _ _ _ _ => (j_mul (j_sub (j_ix (jv 2) (j_add (j_add j_int (jv 1)) (jv 3))) j_int) j_int)) (by decide) s H))) b_nil) (b_cons (s_if (k_eq hr.units (j_ix (jv 2) j_int) j_int) (b_one (s_ret (j_lc (own := [("_law_k", 3)]) (T := [3]) rfl sc_law_vector.nd (i_r1 T.m_range (a_cons (jv 1) a_nil)) (blkOk_by (own := [("_law_k", 3)]) (N := nm_law_vector) (sc := defScope s_law_vector) (by decide +kernel)) (fun _ _ _ _ _ => (g_name 3 sc_law_vector.nd)) (fun _ _ _ _ _ => s_nil) (fun _ _ _ _ _ => (j_mul (j_intc T.m_int (a_cons (j_eq hr.units (j_ix (jv 2) (j_add (j_add j_int (jv 1)) (jv 3))) j_int) a_nil)) (j_add j_int (j_ix (jv 2) (j_add j_int (jv 3)))))) (by decide) s H))) b_nil) (b_one (s_ret (j_lc (own := [("_law_k", 3)]) (T := [3]) rfl sc_law_vector.nd (i_r1 T.m_range (a_cons (jv 1) a_nil)) (blkOk_by (own := [("_law_k", 3)]) (N := nm_law_vector) (sc := defScope s_law_vector) (by decide +kernel)) (fun _ _ _ _ _ => (g_name 3 sc_law_vector.nd)) (fun _ _ _ _ _ => s_nil) (fun _ _ _ _ _ => (j_sub (j_ix (jv 2) (j_add (j_add j_int (jv 1)) (jv 3))) j_int)) (by decide) s H)))))))⟩) (fun _ h => nomatch h)
theorem d_law_sum (T : Tx K mg ct) (B : Bl P base mg ct Pt) : Dk P w K [(Pt, "echelon.<locals>.<lambda>")] mg base 41 "_law_sum" 4 g_law_sum := by
  obtain ⟨f, fd, F, hm, hb⟩ := T.F_law_sum
  exact def_ok F hm hb sc_law_sum (by decide) (fun cdv A outer s H E hr => ⟨_, (b_one (s_ret (j_lc (own := [("_law_k", 4)]) (T := [4]) rfl sc_law_sum.nd (i_r1 T.m_range (a_cons (j_len T.m_len (a_cons (jv 1) a_nil)) a_nil)) (blkOk_by (own := [("_law_k", 4)]) (N := nm_law_sum) (sc := defScope s_law_sum) (by decide +kernel)) (fun _ _ _ _ _ => (g_name 4 sc_law_sum.nd)) (fun _ _ _ _ _ => s_nil) (fun _ _ _ _ _ => (j_add (j_mul (jv 0) (j_ix (jv 1) (jv 4))) (j_mul (jv 2) (j_ix (jv 3) (jv 4))))) (by decide) s H)))⟩) (fun _ h => nomatch h)
theorem d_law_pivot (T : Tx K mg ct) (B : Bl P base mg ct Pt) : Dk P w K [(Pt, "echelon.<locals>.<lambda>")] mg base 41 "_law_pivot" 1 g_law_pivot := by
  obtain ⟨f, fd, F, hm, hb⟩ := T.F_law_pivot
  exact def_ok F hm hb sc_law_pivot (by decide) (fun cdv A outer s H E hr => ⟨_, (b_cons (s_for rfl (i_r2 T.m_range (a_cons j_int (a_cons (j_len T.m_len (a_cons (jv 0) a_nil)) a_nil))) (g_name 1 sc_law_pivot.nd) (b_one (s_if (k_ne hr.units (j_ix (jv 0) (jv 1)) j_int) (b_one (s_ret (jv 1))) b_nil))) (b_cons (s_if (k_w (w_and (k_gt (j_len T.m_len (a_cons (jv 0) a_nil)) j_int) (w_and1 (k_ne hr.units (j_ix (jv 0) j_int) j_int)))) (b_one (s_ret j_int)) b_nil) (b_one (s_ret j_non))))⟩) (fun _ h => nomatch h)
theorem d_law_gcd (T : Tx K mg ct) (B : Bl P base mg ct Pt) : Dk P w K [(Pt, "echelon.<locals>.<lambda>")] mg base 41 "_law_gcd" 2 g_law_gcd := by
  obtain ⟨f, fd, F, hm, hb⟩ := T.F_law_gcd
  exact def_ok F hm hb sc_law_gcd (by decide) (fun cdv A outer s H E hr => ⟨_, (b_cons (s_set 0 sc_law_gcd.nd (j_abs T.m_abs (a_cons (jv 0) a_nil))) (b_cons (s_set 1 sc_law_gcd.nd (j_abs T.m_abs (a_cons (jv 1) a_nil))) (b_cons (s_for rfl (i_r1 T.m_range (a_cons (j_add (j_add (j_bits (jv 0)) (j_bits (jv 1))) j_int) a_nil)) (g_name 2 sc_law_gcd.nd) (b_cons (s_if (k_eq hr.units (jv 1) j_int) (b_one (s_ret (jv 0))) b_nil) (b_cons (s_set 3 sc_law_gcd.nd (j_mod (j_intc T.m_int (a_cons (jv 0) a_nil)) (jv 1))) (b_cons (s_set 0 sc_law_gcd.nd (jv 1)) (b_one (s_set 1 sc_law_gcd.nd (jv 3))))))) (b_one (s_ret (jv 0))))))⟩) (fun _ h => nomatch h)
theorem d_law_primitive (T : Tx K mg ct) (B : Bl P base mg ct Pt) : Dk P w K [(Pt, "echelon.<locals>.<lambda>")] mg base 42 "_law_primitive" 1 g_law_primitive := by
  obtain ⟨f, fd, F, hm, hb⟩ := T.F_law_primitive
  exact def_ok F hm hb sc_law_primitive (by decide) (fun cdv A outer s H E hr => ⟨_, (b_cons (s_set 1 sc_law_primitive.nd j_int) (b_cons (s_for rfl (i_list (jv 0)) (g_name 2 sc_law_primitive.nd) (b_one (s_set 1 sc_law_primitive.nd (j_call (d_law_gcd T B) (hr.mono (by decide)) (a_cons (jv 1) (a_cons (jv 2) a_nil)))))) (b_cons (s_if (k_eq hr.units (jv 1) j_int) (b_one (s_ret (j_list T.m_list (a_cons (jv 0) a_nil)))) b_nil) (b_one (s_ret (j_lc (own := [("_law_item", 2)]) (T := [2]) rfl sc_law_primitive.nd (i_list (jv 0)) (blkOk_by (own := [("_law_item", 2)]) (N := nm_law_primitive) (sc := defScope s_law_primitive) (by decide +kernel)) (fun _ _ _ _ _ => (g_name 2 sc_law_primitive.nd)) (fun _ _ _ _ _ => s_nil) (fun _ _ _ _ _ => (j_fdivP B.b hr (jv 2) (jv 1))) (by decide) s H))))))⟩) (fun _ h => nomatch h)
theorem d_law_is_echelon (T : Tx K mg ct) (B : Bl P base mg ct Pt) : Dk P w K [(Pt, "echelon.<locals>.<lambda>")] mg base 43 "_law_is_echelon" 2 g_law_is_echelon := by
  obtain ⟨f, fd, F, hm, hb⟩ := T.F_law_is_echelon
  exact def_ok F hm hb sc_law_is_echelon (by decide) (fun cdv A outer s H E hr => ⟨_, (b_cons (s_set 2 sc_law_is_echelon.nd j_int) (b_cons (s_set 3 sc_law_is_echelon.nd (j_lst a_nil)) (b_cons (s_for rfl (i_list (jv 0)) (g_name 4 sc_law_is_echelon.nd) (b_cons (s_if (k_w (w_or (k_not (k_tru (j_isi (n := "list") T.m_isinstance T.m_list (jv 4)))) (w_or (k_ne hr.units (j_len T.m_len (a_cons (jv 4) a_nil)) (jv 1)) (w_or (k_ne hr.units (jv 4) (j_call (d_law_primitive T B) (hr.mono (by decide)) (a_cons (jv 4) a_nil))) (w_or1 (k_isN (j_call (d_law_pivot T B) (hr.mono (by decide)) (a_cons (jv 4) a_nil)) j_non)))))) (b_one (s_ret j_bl)) b_nil) (b_cons (s_set 5 sc_law_is_echelon.nd (j_call (d_law_pivot T B) (hr.mono (by decide)) (a_cons (jv 4) a_nil))) (b_cons (s_set 6 sc_law_is_echelon.nd (jv 5)) (b_cons (s_if (k_eq hr.units (jv 5) j_int) (b_one (s_set 6 sc_law_is_echelon.nd (jv 1))) b_nil) (b_cons (s_if (k_w (w_or (k_le (j_ix (jv 4) (jv 5)) j_int) (w_or1 (k_le (jv 6) (jv 2))))) (b_one (s_ret j_bl)) b_nil) (b_cons (s_set 2 sc_law_is_echelon.nd (jv 6)) (b_one (s_app 3 (jv 5)))))))))) (b_cons (s_for rfl (i_r1 T.m_range (a_cons (j_len T.m_len (a_cons (jv 0) a_nil)) a_nil)) (g_name 7 sc_law_is_echelon.nd) (b_one (s_for rfl (i_r1 T.m_range (a_cons (j_len T.m_len (a_cons (jv 0) a_nil)) a_nil)) (g_name 8 sc_law_is_echelon.nd) (b_one (s_if (k_w (w_and (k_ne hr.units (jv 8) (jv 7)) (w_and1 (k_ne hr.units (j_ix (j_ix (jv 0) (jv 7)) (j_ix (jv 3) (jv 8))) j_int)))) (b_one (s_ret j_bl)) b_nil))))) (b_one (s_ret j_bl))))))⟩) (fun _ h => nomatch h)
theorem d_law_echelon (T : Tx K mg ct) (B : Bl P base mg ct Pt) : Dk P w K [(Pt, "echelon.<locals>.<lambda>")] mg base 43 "_law_echelon" 1 g_law_echelon := by
  obtain ⟨f, fd, F, hm, hb⟩ := T.F_law_echelon
  exact def_ok F hm hb sc_law_echelon (by decide) (fun cdv A outer s H E hr => ⟨_, (b_cons (s_set 1 sc_law_echelon.nd (j_lst a_nil)) (b_cons (s_set 2 sc_law_echelon.nd (j_lc (own := [("_law_row", 6)]) (T := [6]) rfl sc_law_echelon.nd (i_list (jv 0)) (blkOk_by (own := [("_law_row", 6)]) (N := nm_law_echelon) (sc := defScope s_law_echelon) (by decide +kernel)) (fun _ _ _ _ _ => (g_name 6 sc_law_echelon.nd)) (fun _ _ _ _ _ => s_nil) (fun _ _ _ _ _ => (j_call (d_law_primitive T B) (hr.mono (by decide)) (a_cons (jv 6) a_nil))) (by decide) s H)) (b_cons (s_set 3 sc_law_echelon.nd (j_lst a_nil)) (b_cons (s_if (k_gt (j_len T.m_len (a_cons (jv 0) a_nil)) j_int) (b_one (s_set 3 sc_law_echelon.nd (j_add (j_lc (own := [("_law_k", 7)]) (T := [7]) rfl sc_law_echelon.nd (i_r2 T.m_range (a_cons j_int (a_cons (j_len T.m_len (a_cons (j_ix (jv 0) j_int) a_nil)) a_nil))) (blkOk_by (own := [("_law_k", 7)]) (N := nm_law_echelon) (sc := defScope s_law_echelon) (by decide +kernel)) (fun _ _ _ _ _ => (g_name 7 sc_law_echelon.nd)) (fun _ _ _ _ _ => s_nil) (fun _ _ _ _ _ => (jv 7)) (by decide) s H) (j_lst (a_cons j_int a_nil))))) b_nil) (b_cons (s_for rfl (i_list (jv 3)) (g_name 4 sc_law_echelon.nd) (b_cons (s_setLc (own := [("_law_k", 7)]) (T := [7]) 5 rfl sc_law_echelon.nd (sw_true rfl rfl rfl (by decide +kernel)) (i_r1 T.m_range (a_cons (j_len T.m_len (a_cons (jv 2) a_nil)) a_nil)) (blkOk_by (own := [("_law_k", 7)]) (N := nm_law_echelon) (sc := defScope s_law_echelon) (by decide +kernel)) (fun _ _ _ _ _ => (g_name 7 sc_law_echelon.nd)) (fun _ _ _ _ _ => (s_one (k_ne hr.units (j_ix (j_ix (jv 2) (jv 7)) (jv 4)) j_int))) (fun _ _ _ _ _ => (jv 7)) (by decide) s H) (b_one (s_if (k_gt (j_len T.m_len (a_cons (jv 5) a_nil)) j_int) (b_cons (s_set 6 sc_law_echelon.nd (j_ix (jv 2) (j_ix (jv 5) j_int))) (b_cons (s_if (k_lt (j_ix (jv 6) (jv 4)) j_int) (b_one (s_set 6 sc_law_echelon.nd (j_lc (own := [("_law_item", 8)]) (T := [8]) rfl sc_law_echelon.nd (i_list (jv 6)) (blkOk_by (own := [("_law_item", 8)]) (N := nm_law_echelon) (sc := defScope s_law_echelon) (by decide +kernel)) (fun _ _ _ _ _ => (g_name 8 sc_law_echelon.nd)) (fun _ _ _ _ _ => s_nil) (fun _ _ _ _ _ => (j_neg (jv 8))) (by decide) s H))) b_nil) (b_cons (s_set 2 sc_law_echelon.nd (j_add (j_sl (jv 2) o_none (o_some (j_ix (jv 5) j_int))) (j_sl (jv 2) (o_some (j_add (j_ix (jv 5) j_int) j_int)) o_none))) (b_cons (s_set 2 sc_law_echelon.nd (j_lc (own := [("_law_other", 9)]) (T := [9]) rfl sc_law_echelon.nd (i_list (jv 2)) (blkOk_by (own := [("_law_other", 9)]) (N := nm_law_echelon) (sc := defScope s_law_echelon) (by decide +kernel)) (fun _ _ _ _ _ => (g_name 9 sc_law_echelon.nd)) (fun _ _ _ _ _ => s_nil) (fun _ _ _ _ _ => (j_call (d_law_primitive T B) (hr.mono (by decide)) (a_cons (j_call (d_law_sum T B) (hr.mono (by decide)) (a_cons (j_ix (jv 6) (jv 4)) (a_cons (jv 9) (a_cons (j_neg (j_ix (jv 9) (jv 4))) (a_cons (jv 6) a_nil))))) a_nil))) (by decide) s H)) (b_one (s_set 1 sc_law_echelon.nd (j_add (j_lc (own := [("_law_other", 9)]) (T := [9]) rfl sc_law_echelon.nd (i_list (jv 1)) (blkOk_by (own := [("_law_other", 9)]) (N := nm_law_echelon) (sc := defScope s_law_echelon) (by decide +kernel)) (fun _ _ _ _ _ => (g_name 9 sc_law_echelon.nd)) (fun _ _ _ _ _ => s_nil) (fun _ _ _ _ _ => (j_call (d_law_primitive T B) (hr.mono (by decide)) (a_cons (j_call (d_law_sum T B) (hr.mono (by decide)) (a_cons (j_ix (jv 6) (jv 4)) (a_cons (jv 9) (a_cons (j_neg (j_ix (jv 9) (jv 4))) (a_cons (jv 6) a_nil))))) a_nil))) (by decide) s H) (j_lst (a_cons (jv 6) a_nil))))))))) b_nil)))) (b_one (s_ret (jv 1))))))))⟩) (fun _ h => nomatch h)
theorem d_reduced (T : Tx K mg ct) (B : Bl P base mg ct Pt) : Dk P w K [(Pt, "echelon.<locals>.<lambda>")] mg base 44 "reduced" 2 g_reduced := by
  obtain ⟨f, fd, F, hm, hb⟩ := T.F_reduced
  exact def_ok F hm hb sc_reduced (by decide) (fun cdv A outer s H E hr => ⟨_, (b_cons (s_set 2 sc_reduced.nd (j_call (d_primitive T B) (hr.mono (by decide)) (a_cons (jv 0) a_nil))) (b_cons (s_for rfl (i_list (jv 1)) (g_name 3 sc_reduced.nd) (b_one (s_set 2 sc_reduced.nd (j_callM 2 (d_cleared T B) (hr.mono (by decide)) (a_cons (jv 3) (a_cons (j_call (d_pivot_of T B) (hr.mono (by decide)) (a_cons (jv 3) a_nil)) a_nil)))))) (b_one (s_ret (jv 2)))))⟩) (fun _ h => nomatch h)
theorem d_law (T : Tx K mg ct) (B : Bl P base mg ct Pt) (f : Addr) (cdv : Value) (A : Around) (outer : List Env) (s : Shared) (H : Hp) (E : XK) (hr : Room 47 (A.deeper (PyProof.Rows.envOfC "law" (defScope s_law) s.heap.objs.size f cdv))) (hA : (A.deeper (PyProof.Rows.envOfC "law" (defScope s_law) s.heap.objs.size f cdv)).guards = some []) :
  ∃ t T, JB ⟨K, [(Pt, "echelon.<locals>.<lambda>")], none, nm_law.length, none⟩ (cxOf CX0 P w K mg base nm_law "law" (defScope s_law) f cdv A outer s H E).nox (Zf mg) T (defBody s_law) t fb_law := by
  exact ⟨_, _, (b_cons (s_for rfl (i_r3 T.m_range (a_cons j_int (a_cons (j_add (j_len T.m_len (a_cons (jv 0) a_nil)) j_int) (a_cons j_int a_nil)))) (g_name 1 sc_law.nd) (b_cons (s_set 2 sc_law.nd (j_call (d_law_draws T B) (hr.mono (by decide)) (a_cons (j_call (d_law_cell T B) (hr.mono (by decide)) (a_cons (jv 0) (a_cons (jv 1) a_nil))) (a_cons (j_lst (a_cons j_int (a_cons j_int (a_cons j_int (a_cons j_int (a_cons j_int (a_cons j_int a_nil))))))) a_nil)))) (b_cons (s_set 3 sc_law.nd (j_add j_int (j_ix (jv 2) j_int))) (b_cons (s_setLc (own := [("_law_j", 9)]) (T := [9]) 4 rfl sc_law.nd (sw_true rfl rfl rfl (by decide +kernel)) (i_r1 T.m_range (a_cons (j_ix (jv 2) j_int) a_nil)) (blkOk_by (own := [("_law_j", 9)]) (N := nm_law) (sc := defScope s_law) (by decide +kernel)) (fun _ _ _ _ _ => (g_name 9 sc_law.nd)) (fun _ _ _ _ _ => s_nil) (fun _ _ _ _ _ => (j_call (d_law_vector T B) (hr.mono (by decide)) (a_cons (j_call (d_law_cell T B) (hr.mono (by decide)) (a_cons (jv 0) (a_cons (j_add (j_add (jv 1) j_int) (jv 9)) a_nil))) (a_cons (jv 3) a_nil)))) (by decide) s H) (b_cons (s_if (k_w (w_and (k_gt (j_len T.m_len (a_cons (jv 4) a_nil)) j_int) (w_and1 (k_eq hr.units (j_ix (jv 2) j_int) j_int)))) (b_one (s_app 4 (j_call (d_law_sum T B) (hr.mono (by decide)) (a_cons (j_sub (j_ix (jv 2) j_int) j_int) (a_cons (j_ix (jv 4) j_int) (a_cons (j_sub (j_ix (jv 2) j_int) j_int) (a_cons (j_ix (jv 4) j_int) a_nil))))))) b_nil) (b_cons (s_set 5 sc_law.nd (j_repr hA hr.units T.m_repr (a_cons (jv 4) a_nil))) (b_cons (s_set 6 sc_law.nd (j_call (d_echelon T B) (hr.mono (by decide)) (a_cons (jv 4) a_nil))) (b_cons (s_bor 6 [4] [7, 8, 9] [] (s_if (k_w (w_or (k_not (k_tru (j_isi (n := "list") T.m_isinstance T.m_list (jv 6)))) (w_or (k_not (k_tru (j_call (d_law_is_echelon T B) (hr.mono (by decide)) (a_cons (jv 6) (a_cons (jv 3) a_nil))))) (w_or (k_ne hr.units (jv 6) (j_call (d_law_echelon T B) (hr.mono (by decide)) (a_cons (jv 4) a_nil))) (w_or1 (k_ne hr.units (j_repr hA hr.units T.m_repr (a_cons (jv 4) a_nil)) (jv 5))))))) (b_one (s_ret j_bl)) b_nil)) (b_cons (s_for rfl (i_list (jv 4)) (g_name 7 sc_law.nd) (b_one (s_bor 6 [] [] [] (s_if (k_tru (j_any rfl T.m_any (a_cons (j_call (d_reduced T B) (hr.mono (by decide)) (a_cons (jv 7) (a_cons (jv 6) a_nil))) a_nil))) (b_one (s_ret j_bl)) b_nil)))) (b_cons (s_setLc (own := [("_law_row", 7)]) (T := [7]) 8 rfl sc_law.nd (sw_true rfl rfl rfl (by decide +kernel)) (i_rev T.m_reversed (a_cons (jv 4) a_nil)) (blkOk_by (own := [("_law_row", 7)]) (N := nm_law) (sc := defScope s_law) (by decide +kernel)) (fun _ _ _ _ _ => (g_name 7 sc_law.nd)) (fun _ _ _ _ _ => s_nil) (fun _ _ _ _ _ => (j_lc (own := [("_law_item", 10)]) (T := [10]) rfl sc_law.nd (i_list (jv 7)) (blkOk_by (own := [("_law_item", 10)]) (by rfl)) (fun _ _ _ _ _ => (g_name 10 sc_law.nd)) (fun _ _ _ _ _ => s_nil) (fun _ _ _ _ _ => (j_mul (j_sub (j_ix (jv 2) j_int) j_int) (jv 10))) (by decide) s H)) (by decide) s H) (b_cons (s_if (k_gt (j_len T.m_len (a_cons (jv 4) a_nil)) j_int) (b_one (s_app 8 (j_call (d_law_sum T B) (hr.mono (by decide)) (a_cons j_int (a_cons (j_ix (jv 4) j_int) (a_cons (j_neg j_int) (a_cons (j_ix (jv 4) (j_neg j_int)) a_nil))))))) b_nil) (b_cons (s_bor 6 [8] [7] [] (s_if (k_w (w_or (k_ne hr.units (j_call (d_echelon T B) (hr.mono (by decide)) (a_cons (jv 8) a_nil)) (jv 6)) (w_or1 (k_ne hr.units (j_call (d_echelon T B) (hr.mono (by decide)) (a_cons (jv 6) a_nil)) (jv 6))))) (b_one (s_ret j_bl)) b_nil)) (b_cons (s_for rfl (i_r1 T.m_range (a_cons (j_len T.m_len (a_cons (jv 6) a_nil)) a_nil)) (g_name 9 sc_law.nd) (b_one (s_appP 6 (jv 9) (m_var 9)))) (b_one (s_bor 6 [] [9] [] (s_if (k_w (w_or (k_ne hr.units (j_repr hA hr.units T.m_repr (a_cons (jv 4) a_nil)) (jv 5)) (w_or1 (k_ne hr.units (j_lc (own := [("_law_row", 7)]) (T := [7]) rfl sc_law.nd (i_list (jv 6)) (blkOk_by (own := [("_law_row", 7)]) (N := nm_law) (sc := defScope s_law) (by decide +kernel)) (fun _ _ _ _ _ => (g_name 7 sc_law.nd)) (fun _ _ _ _ _ => s_nil) (fun _ _ _ _ _ => (j_ix (jv 7) (j_neg j_int))) (by decide) s H) (j_lc (own := [("_law_j", 9)]) (T := [9]) rfl sc_law.nd (i_r1 T.m_range (a_cons (j_len T.m_len (a_cons (jv 6) a_nil)) a_nil)) (blkOk_by (own := [("_law_j", 9)]) (N := nm_law) (sc := defScope s_law) (by decide +kernel)) (fun _ _ _ _ _ => (g_name 9 sc_law.nd)) (fun _ _ _ _ _ => s_nil) (fun _ _ _ _ _ => (jv 9)) (by decide) s H))))) (b_one (s_ret j_bl)) b_nil)))))))))))))))) (b_one (s_ret j_bl)))⟩
end
end Lw
set_option Elab.async false
set_option linter.all false
set_option maxRecDepth 100000
set_option maxHeartbeats 4000000
/-! typed mirrors (printed by gen2.py) -/
namespace Lw
open PySem PySem.Spec L2 Fx Ty
noncomputable def mb_law_draws (cell_here_a : Int) (limits_a : List Int) : Option (TO Unit Unit (List Int)) := ((some ([] : List Int)).bind fun found_ => (((some cell_here_a).bind fun a => some (a.natAbs : Int)).bind fun rest_ => (((some rest_).bind fun a => (some (2147483647 : Int)).bind fun b => modN a b).bind fun state_ => ((((some cell_here_a).bind fun a => (some (0 : Int)).bind fun b => some (decide (a < b))).bind fun a => if a = true then some true else ((some cell_here_a).bind fun a => ((some (10 : Int)).bind fun a => (some (18 : Int)).bind fun b => powN a b).bind fun b => some (decide (b ≤ a)))).bind fun free_ => ((some limits_a).bind fun l => seqT (forT l (fun (limit_ : Int) (s_ : (List Int) × Int × Int) => (((some free_).bind fun a => if a = true then ((some s_.2.1).bind fun a => (some (1 : Int)).bind fun b => some (decide (b < a))) else some false).bind fun t => if t = true then (((some s_.2.1).bind fun a => (some limit_).bind fun b => modN a b).bind fun v => (appN s_.1 v).bind fun found_1 => (((some s_.2.1).bind fun a => (some limit_).bind fun b => fdivZ a b).bind fun rest_1 => (some (.nx (found_1, rest_1, s_.2.2))))) else (((((some s_.2.2).bind fun a => (some (48271 : Int)).bind fun b => mulN a b).bind fun a => (some (11 : Int)).bind fun b => some (a + b)).bind fun a => (some (2147483647 : Int)).bind fun b => modN a b).bind fun state_1 => (((((some state_1).bind fun a => (some (69621 : Int)).bind fun b => mulN a b).bind fun a => (some (7 : Int)).bind fun b => some (a + b)).bind fun a => (some (2147483647 : Int)).bind fun b => modN a b).bind fun state_2 => ((((some state_2).bind fun a => (some (13 : Int)).bind fun b => fdivZ a b).bind fun a => (some limit_).bind fun b => modN a b).bind fun v => (appN s_.1 v).bind fun found_2 => (some (.nx (found_2, s_.2.1, state_2)))))))) (found_, rest_, state_)) fun s_ : (List Int) × Int × Int => (some (.ret s_.1)))))))
noncomputable def m_law_draws (cell_here_a : Int) (limits_a : List Int) : Option (List Int) := retT (mb_law_draws cell_here_a limits_a)
theorem t_law_draws (cell_here_a : Int) (limits_a : List Int) (v : List Int) (e : m_law_draws cell_here_a limits_a = some v) : DRel RtF v (g_law_draws (shs [enc cell_here_a, enc limits_a])) :=
  def_of (io := []) (n := 7) (p := 2) (fb := fb_law_draws) (l := [enc cell_here_a, enc limits_a]) (m := mb_law_draws cell_here_a limits_a) (Jn := Ja 7) (J := Ja 7) (Jx := Jxa 7) (R := RtF)
    (b_setF 2 (v_lst (as_n (α := Int))) fun found_ => (b_setC 3 (v_abs (v_int (v_sh 0 (v := cell_here_a)).s).s) fun rest_ => (b_setC 4 (v_mod (v_int (v_sh 3 (v := rest_)).s).s (v_c (v := (2147483647 : Int))).s) fun state_ => (b_setC 5 (v_or (v_cmp (v_sh 0 (v := cell_here_a)).s (v_c (v := (0 : Int))).s) (v_cmp (v_sh 0 (v := cell_here_a)).s (v_pow (v_c (v := (10 : Int))).s (v_c (v := (18 : Int))).s).s)) fun free_ => (b_for (fun s_ : (List Int) × Int × Int => [sh (enc cell_here_a), sh (enc limits_a), fl (s_.1.map enc), sh (enc s_.2.1), sh (enc s_.2.2), sh (enc free_), nf]) (found_, rest_, state_) (le_c le_id (le_c le_id (le_c le_id (le_c le_id (le_c le_id (le_c le_id (le_c le_none le_n))))))) (i_lst (v_sh 1 (v := limits_a)).v) (fun (limit_ : Int) (s_ : (List Int) × Int × Int) => (tg_n 6)) (fun (limit_ : Int) (s_ : (List Int) × Int × Int) => (b_ifL (t_and (t_truB (v_sh 5 (v := free_)).s) (t_b (v_cmp (v_sh 3 (v := s_.2.1)).s (v_c (v := (1 : Int))).s))) (b_app 2 (v_mod (v_int (v_sh 3 (v := s_.2.1)).s).s (v_sh 6 (v := limit_)).s).v fun found_1 => (b_last (b_setC 3 (v_fdivZ (v_sh 3 (v := s_.2.1)).s (v_sh 6 (v := limit_)).s) fun rest_1 => (b_nx (le_c le_id (le_c le_id (le_c le_id (le_c le_id (le_c le_id (le_c le_id (le_c le_sn le_n))))))))))) (b_setC 4 (v_mod (v_int (v_add (v_mul (v_sh 4 (v := s_.2.2)).s (v_c (v := (48271 : Int))).s).s (v_c (v := (11 : Int))).s).s).s (v_c (v := (2147483647 : Int))).s) fun state_1 => (b_setC 4 (v_mod (v_int (v_add (v_mul (v_sh 4 (v := state_1)).s (v_c (v := (69621 : Int))).s).s (v_c (v := (7 : Int))).s).s).s (v_c (v := (2147483647 : Int))).s) fun state_2 => (b_last (b_app 2 (v_mod (v_int (v_fdivZ (v_sh 4 (v := state_2)).s (v_c (v := (13 : Int))).s).s).s (v_sh 6 (v := limit_)).s).v fun found_2 => (b_nx (le_c le_id (le_c le_id (le_c le_id (le_c le_id (le_c le_id (le_c le_id (le_c le_sn le_n)))))))))))))) fun s_ : (List Int) × Int × Int => (b_retFv 2 (v := s_.1))))))) rfl v e
noncomputable def mb_pivot_of (vector_a : List Int) : Option (TO Unit Unit (Option Int)) := (((some (1 : Int)).bind fun i => ((some vector_a).bind fun a => some (a.length : Int)).bind fun j => range2N i j).bind fun l => seqT (forT l (fun (column_ : Int) (s_ : Unit) => ((((some vector_a).bind fun a => (some column_).bind fun b => atI a b).bind fun a => (some (0 : Int)).bind fun b => neN a b).bind fun t => if t = true then (((some column_).bind fun x => some (some x)).bind fun v => some (.ret v)) else (some (.nx ())))) ()) fun s_ : Unit => (((((some vector_a).bind fun a => some (a.length : Int)).bind fun a => (some (0 : Int)).bind fun b => some (decide (b < a))).bind fun a => if a = true then (((some vector_a).bind fun a => (some (0 : Int)).bind fun b => atI a b).bind fun a => (some (0 : Int)).bind fun b => neN a b) else some false).bind fun t => if t = true then (((some (0 : Int)).bind fun x => some (some x)).bind fun v => some (.ret v)) else ((some (none : Option Int)).bind fun v => some (.ret v))))
noncomputable def m_pivot_of (vector_a : List Int) : Option (Option Int) := retT (mb_pivot_of vector_a)
theorem t_pivot_of (vector_a : List Int) (v : Option Int) (e : m_pivot_of vector_a = some v) : DRel RtC v (g_pivot_of (shs [enc vector_a])) :=
  def_of (io := []) (n := 2) (p := 1) (fb := fb_pivot_of) (l := [enc vector_a]) (m := mb_pivot_of vector_a) (Jn := Ja 2) (J := Ja 2) (Jx := Jxa 2) (R := RtC)
    (b_for (fun s_ : Unit => [sh (enc vector_a), nf]) () (le_c le_id (le_c le_none le_n)) (i_rg2 (v_c (v := (1 : Int))).s (v_len (v_sh 0 (v := vector_a)).s).s) (fun (column_ : Int) (s_ : Unit) => (tg_n 1)) (fun (column_ : Int) (s_ : Unit) => (b_ifL (t_b (v_ne (v_ix (v_sh 0 (v := vector_a)).s (v_sh 1 (v := column_)).s).s (v_c (v := (0 : Int))).s)) (b_retC (v_someC (v_sh 1 (v := column_)))) (b_nx (le_c le_id (le_c le_sn le_n))))) fun s_ : Unit => (b_ifT (t_and (t_b (v_cmp (v_len (v_sh 0 (v := vector_a)).s).s (v_c (v := (0 : Int))).s)) (t_b (v_ne (v_ix (v_sh 0 (v := vector_a)).s (v_c (v := (0 : Int))).s).s (v_c (v := (0 : Int))).s))) (b_retC (v_someC (v_c (v := (0 : Int))))) nn_ret (b_skip (b_retC (v_c (v := (none : Option Int)) (d := .none)))))) rfl v e
noncomputable def mb_common_divisor (vector_a : List Int) : Option (TO Unit Unit Int) := ((some (0 : Int)).bind fun divisor_ => ((some vector_a).bind fun l => seqT (forT l (fun (item_ : Int) (s_ : Int) => (((some s_).bind fun a => (some item_).bind fun b => some ((Nat.gcd a.natAbs b.natAbs : Nat) : Int)).bind fun divisor_1 => (some (.nx divisor_1)))) divisor_) fun s_ : Int => ((some s_).bind fun v => some (.ret v))))
noncomputable def m_common_divisor (vector_a : List Int) : Option Int := retT (mb_common_divisor vector_a)
theorem t_common_divisor (vector_a : List Int) (v : Int) (e : m_common_divisor vector_a = some v) : DRel RtC v (g_common_divisor (shs [enc vector_a])) :=
  def_of (io := []) (n := 3) (p := 1) (fb := fb_common_divisor) (l := [enc vector_a]) (m := mb_common_divisor vector_a) (Jn := Ja 3) (J := Ja 3) (Jx := Jxa 3) (R := RtC)
    (b_setC 1 (v_c (v := (0 : Int))) fun divisor_ => (b_for (fun s_ : Int => [sh (enc vector_a), sh (enc s_), nf]) divisor_ (le_c le_id (le_c le_id (le_c le_none le_n))) (i_lst (v_sh 0 (v := vector_a)).v) (fun (item_ : Int) (s_ : Int) => (tg_n 2)) (fun (item_ : Int) (s_ : Int) => (b_last (b_setC 1 (v_gcd (v_sh 1 (v := s_)).s (v_sh 2 (v := item_)).s) fun divisor_1 => (b_nx (le_c le_id (le_c le_id (le_c le_sn le_n))))))) fun s_ : Int => (b_retC (v_sh 1 (v := s_))))) rfl v e
noncomputable def mb_primitive (vector_a : List Int) : Option (TO Unit Unit (List Int)) := (((some vector_a).bind fun x0 => m_common_divisor x0).bind fun divisor_ => (((some divisor_).bind fun a => (some (1 : Int)).bind fun b => some (decide (a ≤ b))).bind fun t => if t = true then ((some vector_a).bind fun v => some (.ret v)) else (((some vector_a).bind fun l => (lenN l).bind fun l => mapN l fun item_ : Int => ((some item_).bind fun a => (some divisor_).bind fun b => fdivZ a b)).bind fun v => some (.ret v))))
noncomputable def m_primitive (vector_a : List Int) : Option (List Int) := retT (mb_primitive vector_a)
theorem t_primitive (vector_a : List Int) (v : List Int) (e : m_primitive vector_a = some v) : DRel RtF v (g_primitive (shs [enc vector_a])) :=
  def_of (io := []) (n := 3) (p := 1) (fb := fb_primitive) (l := [enc vector_a]) (m := mb_primitive vector_a) (Jn := Ja 3) (J := Ja 3) (Jx := Jxa 3) (R := RtF)
    (b_setC 1 (v_callC1 t_common_divisor (v_sh 0 (v := vector_a)).s) fun divisor_ => (b_ifT (t_b (v_cmp (v_sh 1 (v := divisor_)).s (v_c (v := (1 : Int))).s)) (b_retF (v_listOf (v_sh 0 (v := vector_a)).s)) nn_ret (b_skip (b_retF (v_lc (nfs_c le_none nfs_n) (i_lst (v_sh 0 (v := vector_a)).v) (fun item_ : Int => (tg_n 2)) (fun item_ : Int => (v_fdivZ (v_sh 2 (v := item_)).s (v_sh 1 (v := divisor_)).s).v)))))) rfl v e
noncomputable def mb_combined (first_a : Int) (vector_a : List Int) (second_a : Int) (other_a : List Int) : Option (TO Unit Unit (List Int)) := ((((some vector_a).bind fun a => (some other_a).bind fun b => some (zipN a b)).bind fun l => (lenN l).bind fun l => mapN l fun p_ : T2 Int Int => (((some first_a).bind fun a => (some p_.a).bind fun b => mulN a b).bind fun a => ((some second_a).bind fun a => (some p_.b).bind fun b => mulN a b).bind fun b => some (a + b))).bind fun v => some (.ret v))
noncomputable def m_combined (first_a : Int) (vector_a : List Int) (second_a : Int) (other_a : List Int) : Option (List Int) := retT (mb_combined first_a vector_a second_a other_a)
theorem t_combined (first_a : Int) (vector_a : List Int) (second_a : Int) (other_a : List Int) (v : List Int) (e : m_combined first_a vector_a second_a other_a = some v) : DRel RtF v (g_combined (shs [enc first_a, enc vector_a, enc second_a, enc other_a])) :=
  def_of (io := []) (n := 6) (p := 4) (fb := fb_combined) (l := [enc first_a, enc vector_a, enc second_a, enc other_a]) (m := mb_combined first_a vector_a second_a other_a) (Jn := Ja 6) (J := Ja 6) (Jx := Jxa 6) (R := RtF)
    (b_retF (v_lc (nfs_c le_none (nfs_c le_none nfs_n)) (i_zp (v_sh 1 (v := vector_a)).v (v_sh 3 (v := other_a)).v) (fun p_ : T2 Int Int => (tg_t (tgs_c (tg_n 4) (tgs_c (tg_n 5) tgs_n)))) (fun p_ : T2 Int Int => (v_add (v_mul (v_sh 0 (v := first_a)).s (v_sh 4 (v := p_.a)).s).s (v_mul (v_sh 2 (v := second_a)).s (v_sh 5 (v := p_.b)).s).s).v))) rfl v e
noncomputable def mb_cleared (vector_a : List Int) (row_a : List Int) (column_a : Int) : Option (TO Unit Unit (List Int)) := ((((some vector_a).bind fun a => (some column_a).bind fun b => atI a b).bind fun a => (some (0 : Int)).bind fun b => eqN a b).bind fun t => if t = true then ((some vector_a).bind fun v => some (.ret v)) else (((((some row_a).bind fun a => (some column_a).bind fun b => atI a b).bind fun x0 => (some vector_a).bind fun x1 => (((some vector_a).bind fun a => (some column_a).bind fun b => atI a b).bind fun a => some (-a)).bind fun x2 => (some row_a).bind fun x3 => m_combined x0 x1 x2 x3).bind fun x0 => m_primitive x0).bind fun v => some (.ret v)))
noncomputable def m_cleared (vector_a : List Int) (row_a : List Int) (column_a : Int) : Option (List Int) := retT (mb_cleared vector_a row_a column_a)
theorem t_cleared (vector_a : List Int) (row_a : List Int) (column_a : Int) (v : List Int) (e : m_cleared vector_a row_a column_a = some v) : DRel RtV v (g_cleared (shs [enc vector_a, enc row_a, enc column_a])) :=
  def_of (io := []) (n := 3) (p := 3) (fb := fb_cleared) (l := [enc vector_a, enc row_a, enc column_a]) (m := mb_cleared vector_a row_a column_a) (Jn := Ja 3) (J := Ja 3) (Jx := Jxa 3) (R := RtV)
    (b_ifT (t_b (v_eq (v_ix (v_sh 0 (v := vector_a)).s (v_sh 2 (v := column_a)).s).s (v_c (v := (0 : Int))).s)) (b_retV (v_sh 0 (v := vector_a)).s) nn_ret (b_skip (b_retV (v_callS1 t_primitive (v_callS4 t_combined (v_ix (v_sh 1 (v := row_a)).s (v_sh 2 (v := column_a)).s).s (v_sh 0 (v := vector_a)).s (v_neg (v_ix (v_sh 0 (v := vector_a)).s (v_sh 2 (v := column_a)).s).s).s (v_sh 1 (v := row_a)).s).s).s))) rfl v e
noncomputable def mMb_cleared (vector_a : List Int) (row_a : List Int) (column_a : Int) : Option (TO Unit Unit (List Int)) := ((((some vector_a).bind fun a => (some column_a).bind fun b => atI a b).bind fun a => (some (0 : Int)).bind fun b => eqN a b).bind fun t => if t = true then (some (.ret vector_a)) else (((((some row_a).bind fun a => (some column_a).bind fun b => atI a b).bind fun x0 => (some vector_a).bind fun x1 => (((some vector_a).bind fun a => (some column_a).bind fun b => atI a b).bind fun a => some (-a)).bind fun x2 => (some row_a).bind fun x3 => m_combined x0 x1 x2 x3).bind fun x0 => m_primitive x0).bind fun v => some (.ret v)))
noncomputable def mM_cleared (vector_a : List Int) (row_a : List Int) (column_a : Int) : Option (List Int) := retT (mMb_cleared vector_a row_a column_a)
theorem tM_cleared (vector_a : List Int) (row_a : List Int) (column_a : Int) (v : List Int) (e : mM_cleared vector_a row_a column_a = some v) : DRel RtF v (g_cleared (some (.flat (vector_a.map enc)) :: shs [enc row_a, enc column_a])) :=
  def_ofM (io := []) (n := 3) (p := 3) (fb := fb_cleared) (v := vector_a) (l := [enc row_a, enc column_a]) (m := mMb_cleared vector_a row_a column_a) (Jn := Ja 3) (J := Ja 3) (Jx := Jxa 3) (R := RtF)
    (b_ifT (t_b (v_eq (v_ix (v_fl 0 (v := vector_a)) (v_sh 2 (v := column_a)).s).s (v_c (v := (0 : Int))).s)) (b_retFv 0 (v := vector_a)) nn_ret (b_skip (b_retF (v_callS1 t_primitive (v_callS4 t_combined (v_ix (v_sh 1 (v := row_a)).s (v_sh 2 (v := column_a)).s).s (v_fl 0 (v := vector_a)) (v_neg (v_ix (v_fl 0 (v := vector_a)) (v_sh 2 (v := column_a)).s).s).s (v_sh 1 (v := row_a)).s).s)))) rfl v e
noncomputable def mb_echelon (rows_a : List (List Int)) : Option (TO Unit Unit (List (List Int))) := ((some ([] : List (List Int))).bind fun found_ => ((some rows_a).bind fun l => seqT (forT l (fun (row_1 : List Int) (s_1 : List (List Int)) => ((some row_1).bind fun rest_ => (seqT (borT ((some s_1).bind fun l => seqT (forT l (fun (known_ : List Int) (s_2 : List Int) => (((some known_).bind fun x0 => (((some known_).bind fun x0 => m_pivot_of x0).bind fun o => o).bind fun x1 => mM_cleared s_2 x0 x1).bind fun rest_1 => (some (.nx rest_1)))) rest_) fun s_2 : List Int => (some (.nx s_2)))) fun j_ : List Int => (((some j_).bind fun x0 => m_pivot_of x0).bind fun column_ => (match column_ with | none => (some (.nx s_1)) | some column_1 => (((some j_).bind fun x0 => m_primitive x0).bind fun rest_2 => (seqT ((((some rest_2).bind fun a => (some column_1).bind fun b => atI a b).bind fun a => (some (0 : Int)).bind fun b => some (decide (a < b))).bind fun t => if t = true then (((some rest_2).bind fun l => (lenN l).bind fun l => mapN l fun item_ : Int => ((some item_).bind fun a => some (-a))).bind fun rest_3 => (some (.nx rest_3))) else (some (.nx rest_2))) fun j_1 : List Int => (((lenN s_1).bind fun l => mapN l fun known_1 : List Int => ((some j_1).bind fun x0 => (some column_1).bind fun x1 => mM_cleared known_1 x0 x1)).bind fun found_1 => ((appN found_1 j_1).bind fun found_2 => (some (.nx found_2))))))))))) found_) fun s_1 : List (List Int) => (seqT (borT ((((some s_1).bind fun l => some (!l.isEmpty)).bind fun c => if c = true then (((some s_1).bind fun a => (some (0 : Int)).bind fun b => atI a b).bind fun a => some (a.length : Int)) else (some (0 : Int))).bind fun size_ => (some (.nx size_)))) fun j_2 : Int => (((mapN s_1 fun known_2 : List Int => (((((some known_2).bind fun x0 => m_pivot_of x0).bind fun o => o).bind fun a => (some (1 : Int)).bind fun b => subN a b).bind fun a => (some j_2).bind fun b => modN a b)).bind fun ks => sortN ks s_1).bind fun v => some (.ret v)))))
noncomputable def m_echelon (rows_a : List (List Int)) : Option (List (List Int)) := retT (mb_echelon rows_a)
theorem t_echelon (rows_a : List (List Int)) (v : List (List Int)) (e : m_echelon rows_a = some v) : DRel RtO v (g_echelon (shs [enc rows_a])) :=
  def_of (io := []) (n := 8) (p := 1) (fb := fb_echelon) (l := [enc rows_a]) (m := mb_echelon rows_a) (Jn := Ja 8) (J := Ja 8) (Jx := Jxa 8) (R := RtO)
    (b_setO 1 v_nilO fun found_ => (b_for (fun s_1 : List (List Int) => [sh (enc rows_a), ow (enc s_1), nf, an, nf, nf, isN, isN]) found_ (le_c le_id (le_c le_id (le_c le_none (le_c le_an (le_c le_none (le_c le_none (le_c le_id (le_c le_id le_n)))))))) (i_lst (v_sh 0 (v := rows_a)).v) (fun (row_1 : List Int) (s_1 : List (List Int)) => (tg_n 2)) (fun (row_1 : List Int) (s_1 : List (List Int)) => (b_setF 3 (v_listOf (v_sh 2 (v := row_1)).s) fun rest_ => (b_bor 1 (J' := fun _ => []) (Jx' := Jxa 8) [] [.sh (enc rows_a), .ow (enc s_1), .sh (enc row_1), .flS (rest_.map enc) (all_isSc rest_), .n, .n, .n, .n] (fun j_ : List Int => [.sh (enc rows_a), .sh (enc s_1), .sh (enc row_1), .flS (j_.map enc) (all_isSc j_), .n, .n, .n, .n]) (Jm := fun j_ : List Int => [sh (enc rows_a), sh (enc s_1), sh (enc row_1), fl (j_.map enc), an, isN, isN, isN]) Fzs.nil (b_last (b_for (fun s_2 : List Int => [sh (enc rows_a), sh (enc s_1), sh (enc row_1), fl (s_2.map enc), nf, isN, isN, isN]) rest_ (le_c le_id (le_c le_id (le_c le_id (le_c le_id (le_c le_none (le_c le_id (le_c le_id (le_c le_id le_n)))))))) (i_lst (v_sh 1 (v := s_1)).v) (fun (known_ : List Int) (s_2 : List Int) => (tg_n 4)) (fun (known_ : List Int) (s_2 : List Int) => (b_last (b_setM2 3 tM_cleared (v_sh 4 (v := known_)).v (v_unopt (v_callC1 t_pivot_of (v_sh 4 (v := known_)).s)).v fun rest_1 => (b_nx (le_c le_id (le_c le_id (le_c le_id (le_c le_id (le_c le_sn (le_c le_id (le_c le_id (le_c le_id le_n)))))))))))) fun s_2 : List Int => (b_nx (le_c le_id (le_c le_id (le_c le_id (le_c le_id (le_c le_an (le_c le_id (le_c le_id (le_c le_id le_n))))))))))) (fun j_ : List Int => by repeat (first | exact .nil | refine .c rfl ?_ | refine .k (by decide) ?_ | refine .i rfl ?_)) rtO_own fun j_ : List Int => (b_setC 5 (v_callC1 t_pivot_of (v_fl 3 (v := j_))) fun column_ => (match column_ with | none => (b_last (b_ifNo (t_b (v_notN (v_sh 5 (v := (none : Option Int))).s)) (b_skip0 (b_nx (le_c le_id (le_c le_id (le_c le_sn (le_c le_an (le_c le_none (le_c le_sn (le_c le_id (le_c le_id le_n)))))))))))) | some column_1 => (b_last (b_ifYes (t_b (v_notN (v_sh 5 (v := (some column_1))).s)) (b_lastI (b_setF 3 (v_callS1 t_primitive (v_fl 3 (v := j_))) fun rest_2 => (b_seq (Jm := fun j_1 : List Int => [sh (enc rows_a), ow (enc s_1), sh (enc row_1), fl (j_1.map enc), isN, sh (enc column_1), isN, isN]) (b_ifL (t_b (v_cmp (v_ix (v_fl 3 (v := rest_2)) (v_sh 5 (v := column_1)).s).s (v_c (v := (0 : Int))).s)) (b_weak (le_c le_id (le_c le_id (le_c le_id (le_c le_fv (le_c le_id (le_c le_id (le_c le_id (le_c le_id le_n)))))))) (b_last (b_setF 3 (v_lc (nfs_c le_none nfs_n) (i_lst (v_var 3 (v := rest_2))) (fun item_ : Int => (tg_n 7)) (fun item_ : Int => (v_neg (v_sh 7 (v := item_)).s).v)) fun rest_3 => (b_nx (le_c le_id (le_c le_id (le_c le_id (le_c le_id (le_c le_id (le_c le_id (le_c le_id (le_c le_id le_n)))))))))))) (b_nx (le_c le_id (le_c le_id (le_c le_id (le_c le_id (le_c le_id (le_c le_id (le_c le_id (le_c le_id le_n)))))))))) fun j_1 : List Int => (b_setO 1 (v_lcC 1 4 (l := s_1) (nfs_c le_none nfs_n) (fun known_1 : List Int => (el_callN2 (x := known_1) (m := mM_cleared) tM_cleared (a_cS (v_fl 3 (v := j_1)) (a_cS (v_sh 5 (v := column_1)).s a_nS)) (a_cS (v_fl 3 (v := j_1)) (a_cS (v_sh 5 (v := column_1)).s a_nS))))) fun found_1 => (b_last (b_appTF 1 3 (l := found_1) (v := j_1) fun found_2 => (b_nx (le_c le_id (le_c le_id (le_c le_sn (le_c le_an (le_c le_none (le_c le_sn (le_c le_id (le_c le_id le_n)))))))))))))))))))))) fun s_1 : List (List Int) => (b_bor 1 (J' := fun _ => []) (Jx' := Jxa 8) [] [.sh (enc rows_a), .ow (enc s_1), .n, .n, .n, .n, .n, .n] (fun j_2 : Int => [.sh (enc rows_a), .sh (enc s_1), .n, .n, .n, .n, .shS (enc j_2) (Sca.sc j_2), .n]) (Jm := fun j_2 : Int => [sh (enc rows_a), sh (enc s_1), isN, isN, isN, isN, sh (enc j_2), isN]) Fzs.nil (b_last (b_setC 6 (v_ifC (t_truL (v_sh 1 (v := s_1)).s) (v_len (v_ix (v_sh 1 (v := s_1)).s (v_c (v := (0 : Int))).s).s) (v_c (v := (0 : Int)))) fun size_ => (b_nx (le_c le_id (le_c le_id (le_c le_id (le_c le_id (le_c le_id (le_c le_id (le_c le_id (le_c le_id le_n))))))))))) (fun j_2 : Int => by repeat (first | exact .nil | refine .c rfl ?_ | refine .k (by decide) ?_ | refine .i rfl ?_)) rtO_own fun j_2 : Int => (b_retO (v_sortKT 1 (l := s_1) (cv := [enc j_2]) (.cons rfl Caps.nil) (fun known_2 : List Int => (v_mod (v_sub (v_unopt (v_callC1 t_pivot_of (v_sh 0 (v := known_2)).s)).s (v_c (v := (1 : Int))).s).s (v_sh 1 (v := j_2)).s))))))) rfl v e
noncomputable def mb_law_cell (script_a : List Int) (k_a : Int) : Option (TO Unit Unit Int) := (((some k_a).bind fun a => ((some script_a).bind fun a => some (a.length : Int)).bind fun b => some (decide (a < b))).bind fun t => if t = true then (((some script_a).bind fun a => (some k_a).bind fun b => atI a b).bind fun v => some (.ret v)) else ((some (0 : Int)).bind fun v => some (.ret v)))
noncomputable def m_law_cell (script_a : List Int) (k_a : Int) : Option Int := retT (mb_law_cell script_a k_a)
theorem t_law_cell (script_a : List Int) (k_a : Int) (v : Int) (e : m_law_cell script_a k_a = some v) : DRel RtC v (g_law_cell (shs [enc script_a, enc k_a])) :=
  def_of (io := []) (n := 2) (p := 2) (fb := fb_law_cell) (l := [enc script_a, enc k_a]) (m := mb_law_cell script_a k_a) (Jn := Ja 2) (J := Ja 2) (Jx := Jxa 2) (R := RtC)
    (b_ifT (t_b (v_cmp (v_sh 1 (v := k_a)).s (v_len (v_sh 0 (v := script_a)).s).s)) (b_retC (v_int (v_ix (v_sh 0 (v := script_a)).s (v_sh 1 (v := k_a)).s).s)) nn_ret (b_skip (b_retC (v_c (v := (0 : Int)))))) rfl v e
noncomputable def mb_law_vector (cell_here_a : Int) (size_a : Int) : Option (TO Unit Unit (List Int)) := (((some cell_here_a).bind fun x0 => ((((some (6 : Int)).bind fun a => (some ([] : List Int)).bind fun l => some (a :: l)).bind fun a => (((some (2000001 : Int)).bind fun a => (some ([] : List Int)).bind fun l => some (a :: l)).bind fun a => (some size_a).bind fun b => repN a b).bind fun b => catN a b).bind fun a => (((some (7 : Int)).bind fun a => (some ([] : List Int)).bind fun l => some (a :: l)).bind fun a => (some size_a).bind fun b => repN a b).bind fun b => catN a b).bind fun x1 => m_law_draws x0 x1).bind fun draws_here_ => ((((some draws_here_).bind fun a => (some (0 : Int)).bind fun b => atI a b).bind fun a => (some (0 : Int)).bind fun b => eqN a b).bind fun t => if t = true then ((((some size_a).bind range1N).bind fun l => (lenN l).bind fun l => mapN l fun k_ : Int => (((some draws_here_).bind fun a => ((some (1 : Int)).bind fun a => (some k_).bind fun b => some (a + b)).bind fun b => atI a b).bind fun a => (some (1000000 : Int)).bind fun b => subN a b)).bind fun v => some (.ret v)) else ((((some draws_here_).bind fun a => (some (0 : Int)).bind fun b => atI a b).bind fun a => (some (1 : Int)).bind fun b => eqN a b).bind fun t => if t = true then ((((some size_a).bind range1N).bind fun l => (lenN l).bind fun l => mapN l fun k_1 : Int => ((((some draws_here_).bind fun a => (((some (1 : Int)).bind fun a => (some size_a).bind fun b => some (a + b)).bind fun a => (some k_1).bind fun b => some (a + b)).bind fun b => atI a b).bind fun a => (some (3 : Int)).bind fun b => subN a b).bind fun a => (some (6 : Int)).bind fun b => mulN a b)).bind fun v => some (.ret v)) else ((((some draws_here_).bind fun a => (some (0 : Int)).bind fun b => atI a b).bind fun a => (some (2 : Int)).bind fun b => eqN a b).bind fun t => if t = true then ((((some size_a).bind range1N).bind fun l => (lenN l).bind fun l => mapN l fun k_2 : Int => (((((some draws_here_).bind fun a => (((some (1 : Int)).bind fun a => (some size_a).bind fun b => some (a + b)).bind fun a => (some k_2).bind fun b => some (a + b)).bind fun b => atI a b).bind fun a => (some (3 : Int)).bind fun b => eqN a b).bind fun a => some (b2i a)).bind fun a => ((some (1 : Int)).bind fun a => ((some draws_here_).bind fun a => ((some (1 : Int)).bind fun a => (some k_2).bind fun b => some (a + b)).bind fun b => atI a b).bind fun b => some (a + b)).bind fun b => mulN a b)).bind fun v => some (.ret v)) else ((((some size_a).bind range1N).bind fun l => (lenN l).bind fun l => mapN l fun k_3 : Int => (((some draws_here_).bind fun a => (((some (1 : Int)).bind fun a => (some size_a).bind fun b => some (a + b)).bind fun a => (some k_3).bind fun b => some (a + b)).bind fun b => atI a b).bind fun a => (some (3 : Int)).bind fun b => subN a b)).bind fun v => some (.ret v))))))
noncomputable def m_law_vector (cell_here_a : Int) (size_a : Int) : Option (List Int) := retT (mb_law_vector cell_here_a size_a)
theorem t_law_vector (cell_here_a : Int) (size_a : Int) (v : List Int) (e : m_law_vector cell_here_a size_a = some v) : DRel RtF v (g_law_vector (shs [enc cell_here_a, enc size_a])) :=
  def_of (io := []) (n := 4) (p := 2) (fb := fb_law_vector) (l := [enc cell_here_a, enc size_a]) (m := mb_law_vector cell_here_a size_a) (Jn := Ja 4) (J := Ja 4) (Jx := Jxa 4) (R := RtF)
    (b_setF 2 (v_callS2 t_law_draws (v_sh 0 (v := cell_here_a)).s (v_cat (v_cat (v_lst (as_c (v_c (v := (6 : Int))).v as_n)).s (v_rep (v_lst (as_c (v_c (v := (2000001 : Int))).v as_n)) (v_sh 1 (v := size_a)).s).s).s (v_rep (v_lst (as_c (v_c (v := (7 : Int))).v as_n)) (v_sh 1 (v := size_a)).s).s).s) fun draws_here_ => (b_ifT (t_b (v_eq (v_ix (v_fl 2 (v := draws_here_)) (v_c (v := (0 : Int))).s).s (v_c (v := (0 : Int))).s)) (b_retF (v_lc (nfs_c le_none nfs_n) (i_rg1 (v_sh 1 (v := size_a)).s) (fun k_ : Int => (tg_n 3)) (fun k_ : Int => (v_sub (v_ix (v_fl 2 (v := draws_here_)) (v_add (v_c (v := (1 : Int))).s (v_sh 3 (v := k_)).s).s).s (v_c (v := (1000000 : Int))).s).v))) nn_ret (b_skip (b_ifT (t_b (v_eq (v_ix (v_fl 2 (v := draws_here_)) (v_c (v := (0 : Int))).s).s (v_c (v := (1 : Int))).s)) (b_retF (v_lc (nfs_c le_none nfs_n) (i_rg1 (v_sh 1 (v := size_a)).s) (fun k_1 : Int => (tg_n 3)) (fun k_1 : Int => (v_mul (v_sub (v_ix (v_fl 2 (v := draws_here_)) (v_add (v_add (v_c (v := (1 : Int))).s (v_sh 1 (v := size_a)).s).s (v_sh 3 (v := k_1)).s).s).s (v_c (v := (3 : Int))).s).s (v_c (v := (6 : Int))).s).v))) nn_ret (b_skip (b_ifT (t_b (v_eq (v_ix (v_fl 2 (v := draws_here_)) (v_c (v := (0 : Int))).s).s (v_c (v := (2 : Int))).s)) (b_retF (v_lc (nfs_c le_none nfs_n) (i_rg1 (v_sh 1 (v := size_a)).s) (fun k_2 : Int => (tg_n 3)) (fun k_2 : Int => (v_mul (v_intB (v_eq (v_ix (v_fl 2 (v := draws_here_)) (v_add (v_add (v_c (v := (1 : Int))).s (v_sh 1 (v := size_a)).s).s (v_sh 3 (v := k_2)).s).s).s (v_c (v := (3 : Int))).s).s).s (v_add (v_c (v := (1 : Int))).s (v_ix (v_fl 2 (v := draws_here_)) (v_add (v_c (v := (1 : Int))).s (v_sh 3 (v := k_2)).s).s).s).s).v))) nn_ret (b_skip (b_retF (v_lc (nfs_c le_none nfs_n) (i_rg1 (v_sh 1 (v := size_a)).s) (fun k_3 : Int => (tg_n 3)) (fun k_3 : Int => (v_sub (v_ix (v_fl 2 (v := draws_here_)) (v_add (v_add (v_c (v := (1 : Int))).s (v_sh 1 (v := size_a)).s).s (v_sh 3 (v := k_3)).s).s).s (v_c (v := (3 : Int))).s).v)))))))))) rfl v e
noncomputable def mb_law_sum (first_a : Int) (vector_here_a : List Int) (second_a : Int) (other_a : List Int) : Option (TO Unit Unit (List Int)) := (((((some vector_here_a).bind fun a => some (a.length : Int)).bind range1N).bind fun l => (lenN l).bind fun l => mapN l fun k_ : Int => (((some first_a).bind fun a => ((some vector_here_a).bind fun a => (some k_).bind fun b => atI a b).bind fun b => mulN a b).bind fun a => ((some second_a).bind fun a => ((some other_a).bind fun a => (some k_).bind fun b => atI a b).bind fun b => mulN a b).bind fun b => some (a + b))).bind fun v => some (.ret v))
noncomputable def m_law_sum (first_a : Int) (vector_here_a : List Int) (second_a : Int) (other_a : List Int) : Option (List Int) := retT (mb_law_sum first_a vector_here_a second_a other_a)
theorem t_law_sum (first_a : Int) (vector_here_a : List Int) (second_a : Int) (other_a : List Int) (v : List Int) (e : m_law_sum first_a vector_here_a second_a other_a = some v) : DRel RtF v (g_law_sum (shs [enc first_a, enc vector_here_a, enc second_a, enc other_a])) :=
  def_of (io := []) (n := 5) (p := 4) (fb := fb_law_sum) (l := [enc first_a, enc vector_here_a, enc second_a, enc other_a]) (m := mb_law_sum first_a vector_here_a second_a other_a) (Jn := Ja 5) (J := Ja 5) (Jx := Jxa 5) (R := RtF)
    (b_retF (v_lc (nfs_c le_none nfs_n) (i_rg1 (v_len (v_sh 1 (v := vector_here_a)).s).s) (fun k_ : Int => (tg_n 4)) (fun k_ : Int => (v_add (v_mul (v_sh 0 (v := first_a)).s (v_ix (v_sh 1 (v := vector_here_a)).s (v_sh 4 (v := k_)).s).s).s (v_mul (v_sh 2 (v := second_a)).s (v_ix (v_sh 3 (v := other_a)).s (v_sh 4 (v := k_)).s).s).s).v))) rfl v e
noncomputable def mb_law_pivot (vector_here_a : List Int) : Option (TO Unit Unit (Option Int)) := (((some (1 : Int)).bind fun i => ((some vector_here_a).bind fun a => some (a.length : Int)).bind fun j => range2N i j).bind fun l => seqT (forT l (fun (column_ : Int) (s_ : Unit) => ((((some vector_here_a).bind fun a => (some column_).bind fun b => atI a b).bind fun a => (some (0 : Int)).bind fun b => neN a b).bind fun t => if t = true then (((some column_).bind fun x => some (some x)).bind fun v => some (.ret v)) else (some (.nx ())))) ()) fun s_ : Unit => (((((some vector_here_a).bind fun a => some (a.length : Int)).bind fun a => (some (0 : Int)).bind fun b => some (decide (b < a))).bind fun a => if a = true then (((some vector_here_a).bind fun a => (some (0 : Int)).bind fun b => atI a b).bind fun a => (some (0 : Int)).bind fun b => neN a b) else some false).bind fun t => if t = true then (((some (0 : Int)).bind fun x => some (some x)).bind fun v => some (.ret v)) else ((some (none : Option Int)).bind fun v => some (.ret v))))
noncomputable def m_law_pivot (vector_here_a : List Int) : Option (Option Int) := retT (mb_law_pivot vector_here_a)
theorem t_law_pivot (vector_here_a : List Int) (v : Option Int) (e : m_law_pivot vector_here_a = some v) : DRel RtC v (g_law_pivot (shs [enc vector_here_a])) :=
  def_of (io := []) (n := 2) (p := 1) (fb := fb_law_pivot) (l := [enc vector_here_a]) (m := mb_law_pivot vector_here_a) (Jn := Ja 2) (J := Ja 2) (Jx := Jxa 2) (R := RtC)
    (b_for (fun s_ : Unit => [sh (enc vector_here_a), nf]) () (le_c le_id (le_c le_none le_n)) (i_rg2 (v_c (v := (1 : Int))).s (v_len (v_sh 0 (v := vector_here_a)).s).s) (fun (column_ : Int) (s_ : Unit) => (tg_n 1)) (fun (column_ : Int) (s_ : Unit) => (b_ifL (t_b (v_ne (v_ix (v_sh 0 (v := vector_here_a)).s (v_sh 1 (v := column_)).s).s (v_c (v := (0 : Int))).s)) (b_retC (v_someC (v_sh 1 (v := column_)))) (b_nx (le_c le_id (le_c le_sn le_n))))) fun s_ : Unit => (b_ifT (t_and (t_b (v_cmp (v_len (v_sh 0 (v := vector_here_a)).s).s (v_c (v := (0 : Int))).s)) (t_b (v_ne (v_ix (v_sh 0 (v := vector_here_a)).s (v_c (v := (0 : Int))).s).s (v_c (v := (0 : Int))).s))) (b_retC (v_someC (v_c (v := (0 : Int))))) nn_ret (b_skip (b_retC (v_c (v := (none : Option Int)) (d := .none)))))) rfl v e
noncomputable def mb_law_gcd (a_a : Int) (b_a : Int) : Option (TO Unit Unit Int) := (((some a_a).bind fun a => some (a.natAbs : Int)).bind fun a_ => (((some b_a).bind fun a => some (a.natAbs : Int)).bind fun b_ => ((((((some a_).bind fun a => some ((Builtin.Int.intBits a : Nat) : Int)).bind fun a => ((some b_).bind fun a => some ((Builtin.Int.intBits a : Nat) : Int)).bind fun b => some (a + b)).bind fun a => (some (4 : Int)).bind fun b => some (a + b)).bind range1N).bind fun l => seqT (forT l (fun (k_ : Int) (s_ : Int × Int) => (((some s_.2).bind fun a => (some (0 : Int)).bind fun b => eqN a b).bind fun t => if t = true then ((some s_.1).bind fun v => some (.ret v)) else (((some s_.1).bind fun a => (some s_.2).bind fun b => modN a b).bind fun rest_ => ((some s_.2).bind fun a_1 => ((some rest_).bind fun b_1 => (some (.nx (a_1, b_1)))))))) (a_, b_)) fun s_ : Int × Int => ((some s_.1).bind fun v => some (.ret v)))))
noncomputable def m_law_gcd (a_a : Int) (b_a : Int) : Option Int := retT (mb_law_gcd a_a b_a)
theorem t_law_gcd (a_a : Int) (b_a : Int) (v : Int) (e : m_law_gcd a_a b_a = some v) : DRel RtC v (g_law_gcd (shs [enc a_a, enc b_a])) :=
  def_of (io := []) (n := 4) (p := 2) (fb := fb_law_gcd) (l := [enc a_a, enc b_a]) (m := mb_law_gcd a_a b_a) (Jn := Ja 4) (J := Ja 4) (Jx := Jxa 4) (R := RtC)
    (b_setC 0 (v_abs (v_sh 0 (v := a_a)).s) fun a_ => (b_setC 1 (v_abs (v_sh 1 (v := b_a)).s) fun b_ => (b_for (fun s_ : Int × Int => [sh (enc s_.1), sh (enc s_.2), nf, nf]) (a_, b_) (le_c le_id (le_c le_id (le_c le_none (le_c le_none le_n)))) (i_rg1 (v_add (v_add (v_bits (v_sh 0 (v := a_)).s).s (v_bits (v_sh 1 (v := b_)).s).s).s (v_c (v := (4 : Int))).s).s) (fun (k_ : Int) (s_ : Int × Int) => (tg_n 2)) (fun (k_ : Int) (s_ : Int × Int) => (b_ifT (t_b (v_eq (v_sh 1 (v := s_.2)).s (v_c (v := (0 : Int))).s)) (b_retC (v_sh 0 (v := s_.1))) nn_ret (b_skip (b_setC 3 (v_mod (v_int (v_sh 0 (v := s_.1)).s).s (v_sh 1 (v := s_.2)).s) fun rest_ => (b_setC 0 (v_sh 1 (v := s_.2)) fun a_1 => (b_last (b_setC 1 (v_sh 3 (v := rest_)) fun b_1 => (b_nx (le_c le_id (le_c le_id (le_c le_sn (le_c le_sn le_n)))))))))))) fun s_ : Int × Int => (b_retC (v_sh 0 (v := s_.1)))))) rfl v e
noncomputable def mb_law_primitive (vector_here_a : List Int) : Option (TO Unit Unit (List Int)) := ((some (0 : Int)).bind fun common_ => ((some vector_here_a).bind fun l => seqT (forT l (fun (item_ : Int) (s_ : Int) => (((some s_).bind fun x0 => (some item_).bind fun x1 => m_law_gcd x0 x1).bind fun common_1 => (some (.nx common_1)))) common_) fun s_ : Int => (((some s_).bind fun a => (some (0 : Int)).bind fun b => eqN a b).bind fun t => if t = true then ((some vector_here_a).bind fun v => some (.ret v)) else (((some vector_here_a).bind fun l => (lenN l).bind fun l => mapN l fun item_1 : Int => ((some item_1).bind fun a => (some s_).bind fun b => fdivZ a b)).bind fun v => some (.ret v)))))
noncomputable def m_law_primitive (vector_here_a : List Int) : Option (List Int) := retT (mb_law_primitive vector_here_a)
theorem t_law_primitive (vector_here_a : List Int) (v : List Int) (e : m_law_primitive vector_here_a = some v) : DRel RtF v (g_law_primitive (shs [enc vector_here_a])) :=
  def_of (io := []) (n := 3) (p := 1) (fb := fb_law_primitive) (l := [enc vector_here_a]) (m := mb_law_primitive vector_here_a) (Jn := Ja 3) (J := Ja 3) (Jx := Jxa 3) (R := RtF)
    (b_setC 1 (v_c (v := (0 : Int))) fun common_ => (b_for (fun s_ : Int => [sh (enc vector_here_a), sh (enc s_), nf]) common_ (le_c le_id (le_c le_id (le_c le_none le_n))) (i_lst (v_sh 0 (v := vector_here_a)).v) (fun (item_ : Int) (s_ : Int) => (tg_n 2)) (fun (item_ : Int) (s_ : Int) => (b_last (b_setC 1 (v_callC2 t_law_gcd (v_sh 1 (v := s_)).s (v_sh 2 (v := item_)).s) fun common_1 => (b_nx (le_c le_id (le_c le_id (le_c le_sn le_n))))))) fun s_ : Int => (b_ifT (t_b (v_eq (v_sh 1 (v := s_)).s (v_c (v := (0 : Int))).s)) (b_retF (v_listOf (v_sh 0 (v := vector_here_a)).s)) nn_ret (b_skip (b_retF (v_lc (nfs_c nf_id nfs_n) (i_lst (v_sh 0 (v := vector_here_a)).v) (fun item_1 : Int => (tg_n 2)) (fun item_1 : Int => (v_fdivZ (v_sh 2 (v := item_1)).s (v_sh 1 (v := s_)).s).v))))))) rfl v e
noncomputable def mb_law_is_echelon (rows_a : List (List Int)) (size_a : Int) : Option (TO Unit Unit Bool) := ((some (0 : Int)).bind fun last_ => ((some ([] : List Int)).bind fun pivots_ => ((some rows_a).bind fun l => seqT (forT l (fun (row_ : List Int) (s_ : Int × (List Int)) => (((((some row_).bind fun _ => some true).bind fun a => some (!a)).bind fun a => if a = true then some true else ((((some row_).bind fun a => some (a.length : Int)).bind fun a => (some size_a).bind fun b => neN a b).bind fun a => if a = true then some true else (((some row_).bind fun a => ((some row_).bind fun x0 => m_law_primitive x0).bind fun b => neN a b).bind fun a => if a = true then some true else (((some row_).bind fun x0 => m_law_pivot x0).bind fun a => some a.isNone)))).bind fun t => if t = true then ((some false).bind fun v => some (.ret v)) else ((((some row_).bind fun x0 => m_law_pivot x0).bind fun o => o).bind fun pivot_here_ => ((some pivot_here_).bind fun rank_ => (seqT (((some pivot_here_).bind fun a => (some (0 : Int)).bind fun b => eqN a b).bind fun t => if t = true then ((some size_a).bind fun rank_1 => (some (.nx rank_1))) else (some (.nx rank_))) fun j_ : Int => (((((some row_).bind fun a => (some pivot_here_).bind fun b => atI a b).bind fun a => (some (0 : Int)).bind fun b => some (decide (a ≤ b))).bind fun a => if a = true then some true else ((some j_).bind fun a => (some s_.1).bind fun b => some (decide (a ≤ b)))).bind fun t => if t = true then ((some false).bind fun v => some (.ret v)) else ((some j_).bind fun last_1 => ((some pivot_here_).bind fun v => (appN s_.2 v).bind fun pivots_1 => (some (.nx (last_1, pivots_1))))))))))) (last_, pivots_)) fun s_ : Int × (List Int) => ((((some rows_a).bind fun a => some (a.length : Int)).bind range1N).bind fun l => seqT (forT l (fun (k_ : Int) (s_1 : Unit) => ((((some rows_a).bind fun a => some (a.length : Int)).bind range1N).bind fun l => seqT (forT l (fun (j_1 : Int) (s_2 : Unit) => ((((some j_1).bind fun a => (some k_).bind fun b => neN a b).bind fun a => if a = true then ((((some rows_a).bind fun a => (some k_).bind fun b => atI a b).bind fun a => ((some s_.2).bind fun a => (some j_1).bind fun b => atI a b).bind fun b => atI a b).bind fun a => (some (0 : Int)).bind fun b => neN a b) else some false).bind fun t => if t = true then ((some false).bind fun v => some (.ret v)) else (some (.nx ())))) ()) fun s_2 : Unit => (some (.nx ())))) ()) fun s_1 : Unit => ((some true).bind fun v => some (.ret v))))))
noncomputable def m_law_is_echelon (rows_a : List (List Int)) (size_a : Int) : Option Bool := retT (mb_law_is_echelon rows_a size_a)
theorem t_law_is_echelon (rows_a : List (List Int)) (size_a : Int) (v : Bool) (e : m_law_is_echelon rows_a size_a = some v) : DRel RtC v (g_law_is_echelon (shs [enc rows_a, enc size_a])) :=
  def_of (io := []) (n := 9) (p := 2) (fb := fb_law_is_echelon) (l := [enc rows_a, enc size_a]) (m := mb_law_is_echelon rows_a size_a) (Jn := Ja 9) (J := Ja 9) (Jx := Jxa 9) (R := RtC)
    (b_setC 2 (v_c (v := (0 : Int))) fun last_ => (b_setF 3 (v_lst (as_n (α := Int))) fun pivots_ => (b_for (fun s_ : Int × (List Int) => [sh (enc rows_a), sh (enc size_a), sh (enc s_.1), fl (s_.2.map enc), nf, nf, nf, isN, isN]) (last_, pivots_) (le_c le_id (le_c le_id (le_c le_id (le_c le_id (le_c le_none (le_c le_none (le_c le_none (le_c le_id (le_c le_id le_n))))))))) (i_lst (v_sh 0 (v := rows_a)).v) (fun (row_ : List Int) (s_ : Int × (List Int)) => (tg_n 4)) (fun (row_ : List Int) (s_ : Int × (List Int)) => (b_ifT (t_or (t_not (t_truB (v_isi (n := "list") (t := "list") (b := true) (fun _ => rfl) (by decide) (v_sh 4 (v := row_)).s).s)) (t_or (t_b (v_ne (v_len (v_sh 4 (v := row_)).s).s (v_sh 1 (v := size_a)).s)) (t_or (t_b (v_ne (v_sh 4 (v := row_)).s (v_callS1 t_law_primitive (v_sh 4 (v := row_)).s).s)) (t_b (v_isN (v_callC1 t_law_pivot (v_sh 4 (v := row_)).s).s))))) (b_retC (v_c (v := false))) nn_ret (b_skip (b_setC 5 (v_unopt (v_callC1 t_law_pivot (v_sh 4 (v := row_)).s)) fun pivot_here_ => (b_setC 6 (v_sh 5 (v := pivot_here_)) fun rank_ => (b_seq (Jm := fun j_ : Int => [sh (enc rows_a), sh (enc size_a), sh (enc s_.1), fl (s_.2.map enc), sh (enc row_), sh (enc pivot_here_), sh (enc j_), isN, isN]) (b_ifL (t_b (v_eq (v_sh 5 (v := pivot_here_)).s (v_c (v := (0 : Int))).s)) (b_last (b_setC 6 (v_sh 1 (v := size_a)) fun rank_1 => (b_nx (le_c le_id (le_c le_id (le_c le_id (le_c le_id (le_c le_id (le_c le_id (le_c le_id (le_c le_id (le_c le_id le_n)))))))))))) (b_nx (le_c le_id (le_c le_id (le_c le_id (le_c le_id (le_c le_id (le_c le_id (le_c le_id (le_c le_id (le_c le_id le_n))))))))))) fun j_ : Int => (b_ifT (t_or (t_b (v_cmp (v_ix (v_sh 4 (v := row_)).s (v_sh 5 (v := pivot_here_)).s).s (v_c (v := (0 : Int))).s)) (t_b (v_cmp (v_sh 6 (v := j_)).s (v_sh 2 (v := s_.1)).s))) (b_retC (v_c (v := false))) nn_ret (b_skip (b_setC 2 (v_sh 6 (v := j_)) fun last_1 => (b_last (b_app 3 (v_sh 5 (v := pivot_here_)).v fun pivots_1 => (b_nx (le_c le_id (le_c le_id (le_c le_id (le_c le_id (le_c le_sn (le_c le_sn (le_c le_sn (le_c le_id (le_c le_id le_n))))))))))))))))))))) fun s_ : Int × (List Int) => (b_for (fun s_1 : Unit => [sh (enc rows_a), sh (enc size_a), sh (enc s_.1), fl (s_.2.map enc), nf, nf, nf, nf, nf]) () (le_c le_id (le_c le_id (le_c le_id (le_c le_id (le_c le_id (le_c le_id (le_c le_id (le_c le_none (le_c le_none le_n))))))))) (i_rg1 (v_len (v_sh 0 (v := rows_a)).s).s) (fun (k_ : Int) (s_1 : Unit) => (tg_n 7)) (fun (k_ : Int) (s_1 : Unit) => (b_last (b_for (fun s_2 : Unit => [sh (enc rows_a), sh (enc size_a), sh (enc s_.1), fl (s_.2.map enc), nf, nf, nf, sh (enc k_), nf]) () (le_c le_id (le_c le_id (le_c le_id (le_c le_id (le_c le_id (le_c le_id (le_c le_id (le_c le_id (le_c le_id le_n))))))))) (i_rg1 (v_len (v_sh 0 (v := rows_a)).s).s) (fun (j_1 : Int) (s_2 : Unit) => (tg_n 8)) (fun (j_1 : Int) (s_2 : Unit) => (b_ifL (t_and (t_b (v_ne (v_sh 8 (v := j_1)).s (v_sh 7 (v := k_)).s)) (t_b (v_ne (v_ix (v_ix (v_sh 0 (v := rows_a)).s (v_sh 7 (v := k_)).s).s (v_ix (v_fl 3 (v := s_.2)) (v_sh 8 (v := j_1)).s).s).s (v_c (v := (0 : Int))).s))) (b_retC (v_c (v := false))) (b_nx (le_c le_id (le_c le_id (le_c le_id (le_c le_id (le_c le_id (le_c le_id (le_c le_id (le_c le_id (le_c le_sn le_n)))))))))))) fun s_2 : Unit => (b_nx (le_c le_id (le_c le_id (le_c le_id (le_c le_id (le_c le_id (le_c le_id (le_c le_id (le_c le_sn (le_c le_id le_n))))))))))))) fun s_1 : Unit => (b_retC (v_c (v := true))))))) rfl v e
noncomputable def mb_law_echelon (rows_a : List (List Int)) : Option (TO Unit Unit (List (List Int))) := ((some ([] : List (List Int))).bind fun found_ => (((some rows_a).bind fun l => (lenN l).bind fun l => mapN l fun row_ : List Int => ((some row_).bind fun x0 => m_law_primitive x0)).bind fun left_ => ((some ([] : List Int)).bind fun columns_ => (seqT ((((some rows_a).bind fun a => some (a.length : Int)).bind fun a => (some (0 : Int)).bind fun b => some (decide (b < a))).bind fun t => if t = true then (((((some (1 : Int)).bind fun i => (((some rows_a).bind fun a => (some (0 : Int)).bind fun b => atI a b).bind fun a => some (a.length : Int)).bind fun j => range2N i j).bind fun l => (lenN l).bind fun l => mapN l fun k_ : Int => (some k_)).bind fun a => ((some (0 : Int)).bind fun a => (some ([] : List Int)).bind fun l => some (a :: l)).bind fun b => catN a b).bind fun columns_1 => (some (.nx columns_1))) else (some (.nx columns_))) fun j_ : List Int => ((some j_).bind fun l => seqT (forT l (fun (column_1 : Int) (s_1 : (List (List Int)) × (List (List Int))) => (((((some s_1.2).bind fun a => some (a.length : Int)).bind range1N).bind fun l => (lenN l).bind fun l => compN l (fun k_1 : Int => ((((some s_1.2).bind fun a => (some k_1).bind fun b => atI a b).bind fun a => (some column_1).bind fun b => atI a b).bind fun a => (some (0 : Int)).bind fun b => neN a b)) fun k_1 : Int => (some k_1)).bind fun chosen_ => ((((some chosen_).bind fun a => some (a.length : Int)).bind fun a => (some (0 : Int)).bind fun b => some (decide (b < a))).bind fun t => if t = true then (((some s_1.2).bind fun a => ((some chosen_).bind fun a => (some (0 : Int)).bind fun b => atI a b).bind fun b => atI a b).bind fun row_1 => (seqT ((((some row_1).bind fun a => (some column_1).bind fun b => atI a b).bind fun a => (some (0 : Int)).bind fun b => some (decide (a < b))).bind fun t => if t = true then (((some row_1).bind fun l => (lenN l).bind fun l => mapN l fun item_ : Int => ((some item_).bind fun a => some (-a))).bind fun row_2 => (some (.nx row_2))) else (some (.nx row_1))) fun j_1 : List Int => ((((some s_1.2).bind fun a => (some none).bind fun lo => (((some chosen_).bind fun a => (some (0 : Int)).bind fun b => atI a b).bind fun a => some (some a)).bind fun hi => some (cutN a lo hi)).bind fun a => ((some s_1.2).bind fun a => ((((some chosen_).bind fun a => (some (0 : Int)).bind fun b => atI a b).bind fun a => (some (1 : Int)).bind fun b => some (a + b)).bind fun a => some (some a)).bind fun lo => (some none).bind fun hi => some (cutN a lo hi)).bind fun b => catN a b).bind fun left_1 => (((some left_1).bind fun l => (lenN l).bind fun l => mapN l fun other_ : List Int => ((((some j_1).bind fun a => (some column_1).bind fun b => atI a b).bind fun x0 => (some other_).bind fun x1 => (((some other_).bind fun a => (some column_1).bind fun b => atI a b).bind fun a => some (-a)).bind fun x2 => (some j_1).bind fun x3 => m_law_sum x0 x1 x2 x3).bind fun x0 => m_law_primitive x0)).bind fun left_2 => ((((some s_1.1).bind fun l => (lenN l).bind fun l => mapN l fun other_1 : List Int => ((((some j_1).bind fun a => (some column_1).bind fun b => atI a b).bind fun x0 => (some other_1).bind fun x1 => (((some other_1).bind fun a => (some column_1).bind fun b => atI a b).bind fun a => some (-a)).bind fun x2 => (some j_1).bind fun x3 => m_law_sum x0 x1 x2 x3).bind fun x0 => m_law_primitive x0)).bind fun a => ((some j_1).bind fun a => (some ([] : List (List Int))).bind fun l => some (a :: l)).bind fun b => catN a b).bind fun found_1 => (some (.nx (found_1, left_2)))))))) else (some (.nx (s_1.1, s_1.2)))))) (found_, left_)) fun s_1 : (List (List Int)) × (List (List Int)) => (some (.ret s_1.1)))))))
noncomputable def m_law_echelon (rows_a : List (List Int)) : Option (List (List Int)) := retT (mb_law_echelon rows_a)
theorem t_law_echelon (rows_a : List (List Int)) (v : List (List Int)) (e : m_law_echelon rows_a = some v) : DRel RtF v (g_law_echelon (shs [enc rows_a])) :=
  def_of (io := []) (n := 10) (p := 1) (fb := fb_law_echelon) (l := [enc rows_a]) (m := mb_law_echelon rows_a) (Jn := Ja 10) (J := Ja 10) (Jx := Jxa 10) (R := RtF)
    (b_setF 1 (v_lst (as_n (α := List Int))) fun found_ => (b_setF 2 (v_lc (nfs_c le_none nfs_n) (i_lst (v_sh 0 (v := rows_a)).v) (fun row_ : List Int => (tg_n 6)) (fun row_ : List Int => (v_callS1 t_law_primitive (v_sh 6 (v := row_)).s).v)) fun left_ => (b_setF 3 (v_lst (as_n (α := Int))) fun columns_ => (b_seq (Jm := fun j_ : List Int => [sh (enc rows_a), fl (found_.map enc), fl (left_.map enc), fl (j_.map enc), isN, isN, isN, isN, isN, isN]) (b_ifL (t_b (v_cmp (v_len (v_sh 0 (v := rows_a)).s).s (v_c (v := (0 : Int))).s)) (b_last (b_setF 3 (v_cat (v_lc (nfs_c le_none nfs_n) (i_rg2 (v_c (v := (1 : Int))).s (v_len (v_ix (v_sh 0 (v := rows_a)).s (v_c (v := (0 : Int))).s).s).s) (fun k_ : Int => (tg_n 7)) (fun k_ : Int => (v_sh 7 (v := k_)).v)).s (v_lst (as_c (v_c (v := (0 : Int))).v as_n)).s) fun columns_1 => (b_nx (le_c le_id (le_c le_id (le_c le_id (le_c le_id (le_c le_id (le_c le_id (le_c le_id (le_c le_id (le_c le_id (le_c le_id le_n))))))))))))) (b_nx (le_c le_id (le_c le_id (le_c le_id (le_c le_id (le_c le_id (le_c le_id (le_c le_id (le_c le_id (le_c le_id (le_c le_id le_n)))))))))))) fun j_ : List Int => (b_weak (le_c le_id (le_c le_id (le_c le_id (le_c le_fv (le_c le_id (le_c le_id (le_c le_id (le_c le_id (le_c le_id (le_c le_id le_n)))))))))) (b_for (fun s_1 : (List (List Int)) × (List (List Int)) => [sh (enc rows_a), fl (s_1.1.map enc), fl (s_1.2.map enc), vw (enc j_), nf, an, an, isN, isN, isN]) (found_, left_) (le_c le_id (le_c le_id (le_c le_id (le_c le_id (le_c le_none (le_c le_an (le_c le_an (le_c le_id (le_c le_id (le_c le_id le_n)))))))))) (i_lst (v_var 3 (v := j_))) (fun (column_1 : Int) (s_1 : (List (List Int)) × (List (List Int))) => (tg_n 4)) (fun (column_1 : Int) (s_1 : (List (List Int)) × (List (List Int))) => (b_setF 5 (v_lcT (nfs_c le_none nfs_n) (i_rg1 (v_len (v_fl 2 (v := s_1.2))).s) (fun k_1 : Int => (tg_n 7)) (fun k_1 : Int => (t_b (v_ne (v_ix (v_ix (v_fl 2 (v := s_1.2)) (v_sh 7 (v := k_1)).s).s (v_sh 4 (v := column_1)).s).s (v_c (v := (0 : Int))).s))) (fun k_1 : Int => (v_sh 7 (v := k_1)).v)) fun chosen_ => (b_ifL (t_b (v_cmp (v_len (v_fl 5 (v := chosen_))).s (v_c (v := (0 : Int))).s)) (b_setC 6 (v_ix (v_fl 2 (v := s_1.2)) (v_ix (v_fl 5 (v := chosen_)) (v_c (v := (0 : Int))).s).s) fun row_1 => (b_seq (Jm := fun j_1 : List Int => [sh (enc rows_a), fl (s_1.1.map enc), fl (s_1.2.map enc), vw (enc j_), sh (enc column_1), fl (chosen_.map enc), vw (enc j_1), isN, isN, isN]) (b_ifL (t_b (v_cmp (v_ix (v_sh 6 (v := row_1)).s (v_sh 4 (v := column_1)).s).s (v_c (v := (0 : Int))).s)) (b_last (b_setF 6 (v_lc (nfs_c le_none nfs_n) (i_lst (v_sh 6 (v := row_1)).v) (fun item_ : Int => (tg_n 8)) (fun item_ : Int => (v_neg (v_sh 8 (v := item_)).s).v)) fun row_2 => (b_nx (le_c le_id (le_c le_id (le_c le_id (le_c le_id (le_c le_id (le_c le_id (le_c le_fv (le_c le_id (le_c le_id (le_c le_id le_n))))))))))))) (b_nx (le_c le_id (le_c le_id (le_c le_id (le_c le_id (le_c le_id (le_c le_id (le_c le_sv (le_c le_id (le_c le_id (le_c le_id le_n)))))))))))) fun j_1 : List Int => (b_setF 2 (v_cat (v_sl (v_fl 2 (v := s_1.2)) po_no (po_so (v_ix (v_fl 5 (v := chosen_)) (v_c (v := (0 : Int))).s).s)).s (v_sl (v_fl 2 (v := s_1.2)) (po_so (v_add (v_ix (v_fl 5 (v := chosen_)) (v_c (v := (0 : Int))).s).s (v_c (v := (1 : Int))).s).s) po_no).s) fun left_1 => (b_weak (le_c le_id (le_c le_id (le_c le_fv (le_c le_id (le_c le_id (le_c le_id (le_c le_id (le_c le_id (le_c le_id (le_c le_id le_n)))))))))) (b_setF 2 (v_lc (nfs_c le_none nfs_n) (i_lst (v_var 2 (v := left_1))) (fun other_ : List Int => (tg_n 9)) (fun other_ : List Int => (v_callS1 t_law_primitive (v_callS4 t_law_sum (v_ix (v_var 6 (v := j_1)).s (v_sh 4 (v := column_1)).s).s (v_sh 9 (v := other_)).s (v_neg (v_ix (v_sh 9 (v := other_)).s (v_sh 4 (v := column_1)).s).s).s (v_var 6 (v := j_1)).s).s).v)) fun left_2 => (b_weak (le_c le_id (le_c le_fv (le_c le_id (le_c le_id (le_c le_id (le_c le_id (le_c le_id (le_c le_id (le_c le_id (le_c le_id le_n)))))))))) (b_last (b_setF 1 (v_cat (v_lc (nfs_c le_none nfs_n) (i_lst (v_var 1 (v := s_1.1))) (fun other_1 : List Int => (tg_n 9)) (fun other_1 : List Int => (v_callS1 t_law_primitive (v_callS4 t_law_sum (v_ix (v_var 6 (v := j_1)).s (v_sh 4 (v := column_1)).s).s (v_sh 9 (v := other_1)).s (v_neg (v_ix (v_sh 9 (v := other_1)).s (v_sh 4 (v := column_1)).s).s).s (v_var 6 (v := j_1)).s).s).v)).s (v_lst (as_c (v_var 6 (v := j_1)) as_n)).s) fun found_1 => (b_nx (le_c le_id (le_c le_id (le_c le_id (le_c le_id (le_c le_sn (le_c le_an (le_c le_an (le_c le_id (le_c le_id (le_c le_id le_n))))))))))))))))))) (b_nx (le_c le_id (le_c le_id (le_c le_id (le_c le_id (le_c le_sn (le_c le_an (le_c le_id (le_c le_id (le_c le_id (le_c le_id le_n)))))))))))))) fun s_1 : (List (List Int)) × (List (List Int)) => (b_retFv 1 (v := s_1.1)))))))) rfl v e
noncomputable def mb_reduced (vector_a : List Int) (rows_a : List (List Int)) : Option (TO Unit Unit (List Int)) := (((some vector_a).bind fun x0 => m_primitive x0).bind fun rest_ => ((some rows_a).bind fun l => seqT (forT l (fun (row_ : List Int) (s_ : List Int) => (((some row_).bind fun x0 => (((some row_).bind fun x0 => m_pivot_of x0).bind fun o => o).bind fun x1 => mM_cleared s_ x0 x1).bind fun rest_1 => (some (.nx rest_1)))) rest_) fun s_ : List Int => (some (.ret s_))))
noncomputable def m_reduced (vector_a : List Int) (rows_a : List (List Int)) : Option (List Int) := retT (mb_reduced vector_a rows_a)
theorem t_reduced (vector_a : List Int) (rows_a : List (List Int)) (v : List Int) (e : m_reduced vector_a rows_a = some v) : DRel RtF v (g_reduced (shs [enc vector_a, enc rows_a])) :=
  def_of (io := []) (n := 4) (p := 2) (fb := fb_reduced) (l := [enc vector_a, enc rows_a]) (m := mb_reduced vector_a rows_a) (Jn := Ja 4) (J := Ja 4) (Jx := Jxa 4) (R := RtF)
    (b_setF 2 (v_callS1 t_primitive (v_sh 0 (v := vector_a)).s) fun rest_ => (b_for (fun s_ : List Int => [sh (enc vector_a), sh (enc rows_a), fl (s_.map enc), nf]) rest_ (le_c le_id (le_c le_id (le_c le_id (le_c le_none le_n)))) (i_lst (v_sh 1 (v := rows_a)).v) (fun (row_ : List Int) (s_ : List Int) => (tg_n 3)) (fun (row_ : List Int) (s_ : List Int) => (b_last (b_setM2 2 tM_cleared (v_sh 3 (v := row_)).v (v_unopt (v_callC1 t_pivot_of (v_sh 3 (v := row_)).s)).v fun rest_1 => (b_nx (le_c le_id (le_c le_id (le_c le_id (le_c le_sn le_n)))))))) fun s_ : List Int => (b_retFv 2 (v := s_)))) rfl v e
noncomputable def mb_law (script_a : List Int) : Option (TO Unit Unit Bool) := (((some (0 : Int)).bind fun i => (((some script_a).bind fun a => some (a.length : Int)).bind fun a => (some (8 : Int)).bind fun b => some (a + b)).bind fun j => (some (8 : Int)).bind fun c => range3N i j c).bind fun l => seqT (forT l (fun (k_1 : Int) (s_1 : Unit) => ((((some script_a).bind fun x0 => (some k_1).bind fun x1 => m_law_cell x0 x1).bind fun x0 => ((some (6 : Int)).bind fun a => ((some (5 : Int)).bind fun a => ((some (5 : Int)).bind fun a => ((some (5 : Int)).bind fun a => ((some (7 : Int)).bind fun a => ((some (7 : Int)).bind fun a => (some ([] : List Int)).bind fun l => some (a :: l)).bind fun l => some (a :: l)).bind fun l => some (a :: l)).bind fun l => some (a :: l)).bind fun l => some (a :: l)).bind fun l => some (a :: l)).bind fun x1 => m_law_draws x0 x1).bind fun draws_here_ => (((some (1 : Int)).bind fun a => ((some draws_here_).bind fun a => (some (1 : Int)).bind fun b => atI a b).bind fun b => some (a + b)).bind fun size_ => (((((some draws_here_).bind fun a => (some (0 : Int)).bind fun b => atI a b).bind range1N).bind fun l => (lenN l).bind fun l => mapN l fun j_ : Int => (((some script_a).bind fun x0 => (((some k_1).bind fun a => (some (1 : Int)).bind fun b => some (a + b)).bind fun a => (some j_).bind fun b => some (a + b)).bind fun x1 => m_law_cell x0 x1).bind fun x0 => (some size_).bind fun x1 => m_law_vector x0 x1)).bind fun rows_ => (seqT (((((some rows_).bind fun a => some (a.length : Int)).bind fun a => (some (1 : Int)).bind fun b => some (decide (b < a))).bind fun a => if a = true then (((some draws_here_).bind fun a => (some (2 : Int)).bind fun b => atI a b).bind fun a => (some (0 : Int)).bind fun b => eqN a b) else some false).bind fun t => if t = true then (((((some draws_here_).bind fun a => (some (4 : Int)).bind fun b => atI a b).bind fun a => (some (3 : Int)).bind fun b => subN a b).bind fun x0 => ((some rows_).bind fun a => (some (0 : Int)).bind fun b => atI a b).bind fun x1 => (((some draws_here_).bind fun a => (some (5 : Int)).bind fun b => atI a b).bind fun a => (some (3 : Int)).bind fun b => subN a b).bind fun x2 => ((some rows_).bind fun a => (some (1 : Int)).bind fun b => atI a b).bind fun x3 => m_law_sum x0 x1 x2 x3).bind fun v => (appN rows_ v).bind fun rows_1 => (some (.nx rows_1))) else (some (.nx rows_))) fun j_1 : List (List Int) => (((some j_1).bind fun a => reprN a).bind fun kept_ => (((some j_1).bind fun x0 => m_echelon x0).bind fun actual_ => (seqT (borT (((((some actual_).bind fun _ => some true).bind fun a => some (!a)).bind fun a => if a = true then some true else ((((some actual_).bind fun x0 => (some size_).bind fun x1 => m_law_is_echelon x0 x1).bind fun a => some (!a)).bind fun a => if a = true then some true else (((some actual_).bind fun a => ((some j_1).bind fun x0 => m_law_echelon x0).bind fun b => neN a b).bind fun a => if a = true then some true else (((some j_1).bind fun a => reprN a).bind fun a => (some kept_).bind fun b => some (!decide (a = b)))))).bind fun t => if t = true then ((some false).bind fun v => some (.ret v)) else (some (.nx ())))) fun j_2 : Unit => ((some j_1).bind fun l => seqT (forT l (fun (row_ : List Int) (s_2 : Unit) => (seqT (borT ((((some row_).bind fun x0 => (some actual_).bind fun x1 => m_reduced x0 x1).bind fun a => some (a.any fun i => i != 0)).bind fun t => if t = true then ((some false).bind fun v => some (.ret v)) else (some (.nx ())))) fun j_3 : Unit => (some (.nx ())))) ()) fun s_2 : Unit => ((((some j_1).bind fun a => some a.reverse).bind fun l => (lenN l).bind fun l => mapN l fun row_1 : List Int => ((some row_1).bind fun l => (lenN l).bind fun l => mapN l fun item_ : Int => ((((some draws_here_).bind fun a => (some (3 : Int)).bind fun b => atI a b).bind fun a => (some (5 : Int)).bind fun b => subN a b).bind fun a => (some item_).bind fun b => mulN a b))).bind fun other_ => (seqT ((((some j_1).bind fun a => some (a.length : Int)).bind fun a => (some (1 : Int)).bind fun b => some (decide (b < a))).bind fun t => if t = true then (((some (3 : Int)).bind fun x0 => ((some j_1).bind fun a => (some (0 : Int)).bind fun b => atI a b).bind fun x1 => ((some (2 : Int)).bind fun a => some (-a)).bind fun x2 => ((some j_1).bind fun a => ((some (1 : Int)).bind fun a => some (-a)).bind fun b => atI a b).bind fun x3 => m_law_sum x0 x1 x2 x3).bind fun v => (appN other_ v).bind fun other_1 => (some (.nx other_1))) else (some (.nx other_))) fun j_4 : List (List Int) => (seqT (borT (((((some j_4).bind fun x0 => m_echelon x0).bind fun a => (some actual_).bind fun b => neN a b).bind fun a => if a = true then some true else (((some actual_).bind fun x0 => m_echelon x0).bind fun a => (some actual_).bind fun b => neN a b)).bind fun t => if t = true then ((some false).bind fun v => some (.ret v)) else (some (.nx ())))) fun j_5 : Unit => (((some (actual_.length : Int)).bind range1N).bind fun l => seqT (forT l (fun (j_6 : Int) (s_3 : List (List Int)) => ((some j_6).bind fun j => (appI s_3 j j_6).bind fun actual_1 => (some (.nx actual_1)))) actual_) fun s_3 : List (List Int) => (seqT (borT (((((some j_1).bind fun a => reprN a).bind fun a => (some kept_).bind fun b => some (!decide (a = b))).bind fun a => if a = true then some true else (((some s_3).bind fun l => (lenN l).bind fun l => mapN l fun row_2 : List Int => ((some row_2).bind fun a => ((some (1 : Int)).bind fun a => some (-a)).bind fun b => atI a b)).bind fun a => ((((some s_3).bind fun a => some (a.length : Int)).bind range1N).bind fun l => (lenN l).bind fun l => mapN l fun j_7 : Int => (some j_7)).bind fun b => neN a b)).bind fun t => if t = true then ((some false).bind fun v => some (.ret v)) else (some (.nx ())))) fun j_8 : Unit => (some (.nx ())))))))))))))))) ()) fun s_1 : Unit => ((some true).bind fun v => some (.ret v)))
noncomputable def m_law (script_a : List Int) : Option Bool := retT (mb_law script_a)
theorem t_law (script_a : List Int) (v : Bool) (e : m_law script_a = some v) : DRel RtC v (g_law (shs [enc script_a])) :=
  def_of (io := []) (n := 11) (p := 1) (fb := fb_law) (l := [enc script_a]) (m := mb_law script_a) (Jn := Ja 11) (J := Ja 11) (Jx := Jxa 11) (R := RtC)
    (b_for (fun s_1 : Unit => [sh (enc script_a), nf, an, nf, nf, nf, an, nf, nf, nf, isN]) () (le_c le_id (le_c le_none (le_c le_an (le_c le_none (le_c le_none (le_c le_none (le_c le_an (le_c le_none (le_c le_none (le_c le_none (le_c le_id le_n))))))))))) (i_rg3 (v_c (v := (0 : Int))).s (v_add (v_len (v_sh 0 (v := script_a)).s).s (v_c (v := (8 : Int))).s).s (v_c (v := (8 : Int))).s) (fun (k_1 : Int) (s_1 : Unit) => (tg_n 1)) (fun (k_1 : Int) (s_1 : Unit) => (b_setF 2 (v_callS2 t_law_draws (v_callC2 t_law_cell (v_sh 0 (v := script_a)).s (v_sh 1 (v := k_1)).s).s (v_lst (as_c (v_c (v := (6 : Int))).v (as_c (v_c (v := (5 : Int))).v (as_c (v_c (v := (5 : Int))).v (as_c (v_c (v := (5 : Int))).v (as_c (v_c (v := (7 : Int))).v (as_c (v_c (v := (7 : Int))).v as_n))))))).s) fun draws_here_ => (b_setC 3 (v_add (v_c (v := (1 : Int))).s (v_ix (v_fl 2 (v := draws_here_)) (v_c (v := (1 : Int))).s).s) fun size_ => (b_setF 4 (v_lc (nfs_c nf_id nfs_n) (i_rg1 (v_ix (v_fl 2 (v := draws_here_)) (v_c (v := (0 : Int))).s).s) (fun j_ : Int => (tg_n 9)) (fun j_ : Int => (v_callS2 t_law_vector (v_callC2 t_law_cell (v_sh 0 (v := script_a)).s (v_add (v_add (v_sh 1 (v := k_1)).s (v_c (v := (1 : Int))).s).s (v_sh 9 (v := j_)).s).s).s (v_sh 3 (v := size_)).s).v)) fun rows_ => (b_seq (Jm := fun j_1 : List (List Int) => [sh (enc script_a), sh (enc k_1), fl (draws_here_.map enc), sh (enc size_), fl (j_1.map enc), nf, an, nf, nf, nf, isN]) (b_ifL (t_and (t_b (v_cmp (v_len (v_fl 4 (v := rows_))).s (v_c (v := (1 : Int))).s)) (t_b (v_eq (v_ix (v_fl 2 (v := draws_here_)) (v_c (v := (2 : Int))).s).s (v_c (v := (0 : Int))).s))) (b_last (b_app 4 (v_callS4 t_law_sum (v_sub (v_ix (v_fl 2 (v := draws_here_)) (v_c (v := (4 : Int))).s).s (v_c (v := (3 : Int))).s).s (v_ix (v_fl 4 (v := rows_)) (v_c (v := (0 : Int))).s).s (v_sub (v_ix (v_fl 2 (v := draws_here_)) (v_c (v := (5 : Int))).s).s (v_c (v := (3 : Int))).s).s (v_ix (v_fl 4 (v := rows_)) (v_c (v := (1 : Int))).s).s).v fun rows_1 => (b_nx (le_c le_id (le_c le_id (le_c le_id (le_c le_id (le_c le_id (le_c le_id (le_c le_id (le_c le_id (le_c le_id (le_c le_id (le_c le_id le_n)))))))))))))) (b_nx (le_c le_id (le_c le_id (le_c le_id (le_c le_id (le_c le_id (le_c le_id (le_c le_id (le_c le_id (le_c le_id (le_c le_id (le_c le_id le_n))))))))))))) fun j_1 : List (List Int) => (b_setC 5 (v_repr (v_fl 4 (v := j_1))) fun kept_ => (b_setO 6 (v_callO1 t_echelon (v_fl 4 (v := j_1))) fun actual_ => (b_bor 6 (J' := fun _ => []) (Jx' := Jxa 11) [(4, enc j_1)] [.sh (enc script_a), .shS (enc k_1) (Sca.sc k_1), .flS (draws_here_.map enc) (all_isSc draws_here_), .shS (enc size_) (Sca.sc size_), .sh (enc j_1), .shS (enc kept_) (Sca.sc kept_), .ow (enc actual_), .n, .n, .n, .n] (fun j_2 : Unit => [.sh (enc script_a), .shS (enc k_1) (Sca.sc k_1), .flS (draws_here_.map enc) (all_isSc draws_here_), .shS (enc size_) (Sca.sc size_), .sh (enc j_1), .shS (enc kept_) (Sca.sc kept_), .sh (enc actual_), .n, .n, .n, .n]) (Jm := fun j_2 : Unit => [sh (enc script_a), sh (enc k_1), fl (draws_here_.map enc), sh (enc size_), sh (enc j_1), sh (enc kept_), sh (enc actual_), isN, isN, isN, isN]) (Fzs.cons rfl le_fv Fzs.nil) (b_ifL (t_or (t_not (t_truB (v_isi (n := "list") (t := "list") (b := true) (fun _ => rfl) (by decide) (v_sh 6 (v := actual_)).s).s)) (t_or (t_not (t_truB (v_callC2 t_law_is_echelon (v_sh 6 (v := actual_)).s (v_sh 3 (v := size_)).s).s)) (t_or (t_b (v_ne (v_sh 6 (v := actual_)).s (v_callF1 t_law_echelon (v_sh 4 (v := j_1)).v).s)) (t_b (v_neS (v_repr (v_sh 4 (v := j_1)).s).s (v_sh 5 (v := kept_)).s))))) (b_retC (v_c (v := false))) (b_nx (le_c le_id (le_c le_id (le_c le_id (le_c le_id (le_c le_id (le_c le_id (le_c le_id (le_c le_id (le_c le_id (le_c le_id (le_c le_id le_n))))))))))))) (fun j_2 : Unit => by repeat (first | exact .nil | refine .c rfl ?_ | refine .k (by decide) ?_ | refine .i rfl ?_)) rtC_own fun j_2 : Unit => (b_for (fun s_2 : Unit => [sh (enc script_a), sh (enc k_1), fl (draws_here_.map enc), sh (enc size_), sh (enc j_1), sh (enc kept_), ow (enc actual_), nf, isN, isN, isN]) () (le_c le_id (le_c le_id (le_c le_id (le_c le_id (le_c le_id (le_c le_id (le_c le_id (le_c le_none (le_c le_id (le_c le_id (le_c le_id le_n))))))))))) (i_lst (v_sh 4 (v := j_1)).v) (fun (row_ : List Int) (s_2 : Unit) => (tg_n 7)) (fun (row_ : List Int) (s_2 : Unit) => (b_last (b_bor 6 (J' := fun _ => []) (Jx' := Jxa 11) [] [.sh (enc script_a), .shS (enc k_1) (Sca.sc k_1), .flS (draws_here_.map enc) (all_isSc draws_here_), .shS (enc size_) (Sca.sc size_), .sh (enc j_1), .shS (enc kept_) (Sca.sc kept_), .ow (enc actual_), .sh (enc row_), .n, .n, .n] (fun j_3 : Unit => [.sh (enc script_a), .shS (enc k_1) (Sca.sc k_1), .flS (draws_here_.map enc) (all_isSc draws_here_), .shS (enc size_) (Sca.sc size_), .sh (enc j_1), .shS (enc kept_) (Sca.sc kept_), .sh (enc actual_), .sh (enc row_), .n, .n, .n]) (Jm := fun j_3 : Unit => [sh (enc script_a), sh (enc k_1), fl (draws_here_.map enc), sh (enc size_), sh (enc j_1), sh (enc kept_), sh (enc actual_), sh (enc row_), isN, isN, isN]) Fzs.nil (b_ifL (t_truB (v_anyI (v_callS2 t_reduced (v_sh 7 (v := row_)).s (v_sh 6 (v := actual_)).s).s).s) (b_retC (v_c (v := false))) (b_nx (le_c le_id (le_c le_id (le_c le_id (le_c le_id (le_c le_id (le_c le_id (le_c le_id (le_c le_id (le_c le_id (le_c le_id (le_c le_id le_n))))))))))))) (fun j_3 : Unit => by repeat (first | exact .nil | refine .c rfl ?_ | refine .k (by decide) ?_ | refine .i rfl ?_)) rtC_own fun j_3 : Unit => (b_nx (le_c le_id (le_c le_id (le_c le_id (le_c le_id (le_c le_id (le_c le_id (le_c le_id (le_c le_sn (le_c le_id (le_c le_id (le_c le_id le_n))))))))))))))) fun s_2 : Unit => (b_setF 8 (v_lc (nfs_c nf_id nfs_n) (i_rv (v_sh 4 (v := j_1)).v) (fun row_1 : List Int => (tg_n 7)) (fun row_1 : List Int => (v_lc (nfs_c le_none nfs_n) (i_lst (v_sh 7 (v := row_1)).v) (fun item_ : Int => (tg_n 10)) (fun item_ : Int => (v_mul (v_sub (v_ix (v_fl 2 (v := draws_here_)) (v_c (v := (3 : Int))).s).s (v_c (v := (5 : Int))).s).s (v_sh 10 (v := item_)).s).v)).v)) fun other_ => (b_seq (Jm := fun j_4 : List (List Int) => [sh (enc script_a), sh (enc k_1), fl (draws_here_.map enc), sh (enc size_), sh (enc j_1), sh (enc kept_), ow (enc actual_), nf, fl (j_4.map enc), isN, isN]) (b_ifL (t_b (v_cmp (v_len (v_sh 4 (v := j_1)).s).s (v_c (v := (1 : Int))).s)) (b_last (b_app 8 (v_callS4 t_law_sum (v_c (v := (3 : Int))).s (v_ix (v_sh 4 (v := j_1)).s (v_c (v := (0 : Int))).s).s (v_neg (v_c (v := (2 : Int))).s).s (v_ix (v_sh 4 (v := j_1)).s (v_neg (v_c (v := (1 : Int))).s).s).s).v fun other_1 => (b_nx (le_c le_id (le_c le_id (le_c le_id (le_c le_id (le_c le_id (le_c le_id (le_c le_id (le_c le_id (le_c le_id (le_c le_id (le_c le_id le_n)))))))))))))) (b_nx (le_c le_id (le_c le_id (le_c le_id (le_c le_id (le_c le_id (le_c le_id (le_c le_id (le_c le_id (le_c le_id (le_c le_id (le_c le_id le_n))))))))))))) fun j_4 : List (List Int) => (b_bor 6 (J' := fun _ => []) (Jx' := Jxa 11) [(8, enc j_4)] [.sh (enc script_a), .shS (enc k_1) (Sca.sc k_1), .flS (draws_here_.map enc) (all_isSc draws_here_), .shS (enc size_) (Sca.sc size_), .sh (enc j_1), .shS (enc kept_) (Sca.sc kept_), .ow (enc actual_), .n, .sh (enc j_4), .n, .n] (fun j_5 : Unit => [.sh (enc script_a), .shS (enc k_1) (Sca.sc k_1), .flS (draws_here_.map enc) (all_isSc draws_here_), .shS (enc size_) (Sca.sc size_), .sh (enc j_1), .shS (enc kept_) (Sca.sc kept_), .sh (enc actual_), .n, .sh (enc j_4), .n, .n]) (Jm := fun j_5 : Unit => [sh (enc script_a), sh (enc k_1), fl (draws_here_.map enc), sh (enc size_), sh (enc j_1), sh (enc kept_), sh (enc actual_), isN, sh (enc j_4), isN, isN]) (Fzs.cons rfl le_fv Fzs.nil) (b_ifL (t_or (t_b (v_ne (v_callO1 t_echelon (v_sh 8 (v := j_4)).s).s (v_sh 6 (v := actual_)).s)) (t_b (v_ne (v_callO1 t_echelon (v_sh 6 (v := actual_)).s).s (v_sh 6 (v := actual_)).s))) (b_retC (v_c (v := false))) (b_nx (le_c le_id (le_c le_id (le_c le_id (le_c le_id (le_c le_id (le_c le_id (le_c le_id (le_c le_id (le_c le_id (le_c le_id (le_c le_id le_n))))))))))))) (fun j_5 : Unit => by repeat (first | exact .nil | refine .c rfl ?_ | refine .k (by decide) ?_ | refine .i rfl ?_)) rtC_own fun j_5 : Unit => (b_for (fun s_3 : List (List Int) => [sh (enc script_a), sh (enc k_1), fl (draws_here_.map enc), sh (enc size_), sh (enc j_1), sh (enc kept_), ow (enc s_3), isN, sh (enc j_4), nf, isN]) actual_ (le_c le_id (le_c le_id (le_c le_id (le_c le_id (le_c le_id (le_c le_id (le_c le_id (le_c le_id (le_c le_id (le_c le_none (le_c le_id le_n))))))))))) (i_rg1 (v_lenO 6 (l := actual_)).s) (fun (j_6 : Int) (s_3 : List (List Int)) => (tg_n 9)) (fun (j_6 : Int) (s_3 : List (List Int)) => (b_last (b_appP 6 (l := s_3) (v := j_6) (v_sh 9 (v := j_6)).s (sim_v 9 (v := j_6)) fun actual_1 => (b_nx (le_c le_id (le_c le_id (le_c le_id (le_c le_id (le_c le_id (le_c le_id (le_c le_id (le_c le_id (le_c le_id (le_c le_sn (le_c le_id le_n))))))))))))))) fun s_3 : List (List Int) => (b_last (b_bor 6 (J' := fun _ => []) (Jx' := Jxa 11) [] [.sh (enc script_a), .shS (enc k_1) (Sca.sc k_1), .flS (draws_here_.map enc) (all_isSc draws_here_), .shS (enc size_) (Sca.sc size_), .sh (enc j_1), .shS (enc kept_) (Sca.sc kept_), .ow (enc s_3), .n, .sh (enc j_4), .n, .n] (fun j_8 : Unit => [.sh (enc script_a), .shS (enc k_1) (Sca.sc k_1), .flS (draws_here_.map enc) (all_isSc draws_here_), .shS (enc size_) (Sca.sc size_), .sh (enc j_1), .shS (enc kept_) (Sca.sc kept_), .sh (enc s_3), .n, .sh (enc j_4), .n, .n]) (Jm := fun j_8 : Unit => [sh (enc script_a), sh (enc k_1), fl (draws_here_.map enc), sh (enc size_), sh (enc j_1), sh (enc kept_), sh (enc s_3), isN, sh (enc j_4), isN, isN]) Fzs.nil (b_ifL (t_or (t_b (v_neS (v_repr (v_sh 4 (v := j_1)).s).s (v_sh 5 (v := kept_)).s)) (t_b (v_ne (v_lc (nfs_c le_none nfs_n) (i_lst (v_sh 6 (v := s_3)).v) (fun row_2 : List Int => (tg_n 7)) (fun row_2 : List Int => (v_ix (v_sh 7 (v := row_2)).s (v_neg (v_c (v := (1 : Int))).s).s).v)).s (v_lc (nfs_c le_none nfs_n) (i_rg1 (v_len (v_sh 6 (v := s_3)).s).s) (fun j_7 : Int => (tg_n 9)) (fun j_7 : Int => (v_sh 9 (v := j_7)).v)).s))) (b_retC (v_c (v := false))) (b_nx (le_c le_id (le_c le_id (le_c le_id (le_c le_id (le_c le_id (le_c le_id (le_c le_id (le_c le_id (le_c le_id (le_c le_id (le_c le_id le_n))))))))))))) (fun j_8 : Unit => by repeat (first | exact .nil | refine .c rfl ?_ | refine .k (by decide) ?_ | refine .i rfl ?_)) rtC_own fun j_8 : Unit => (b_nx (le_c le_id (le_c le_sn (le_c le_an (le_c le_sn (le_c le_sn (le_c le_sn (le_c le_an (le_c le_none (le_c le_sn (le_c le_none (le_c le_id le_n))))))))))))))))))))))))))) fun s_1 : Unit => (b_retC (v_c (v := true)))) rfl v e
end Lw
set_option Elab.async false
set_option linter.all false
set_option maxRecDepth 100000
/-! vectors of numbers, their spans, rows in echelon form: plain facts -/
namespace Lv
open Ty
abbrev V := List Int
def en (v : V) (j : Nat) : Int := v.getD j 0
theorem en_of {v : V} {j : Nat} (h : j < v.length) : v[j] = en v j := by
  simp [en, List.getD, h]
theorem en_out {v : V} {j : Nat} (h : v.length ≤ j) : en v j = 0 := by
  simp [en, List.getD, h]
theorem en_ext {v w : V} (hl : v.length = w.length) (h : ∀ j, en v j = en w j) : v = w :=
  List.ext_getElem hl fun i h1 h2 => by rw [en_of h1, en_of h2, h i]
theorem en_map {v : V} {j : Nat} (f : Int → Int) (h : f 0 = 0) : en (v.map f) j = f (en v j) := by
  by_cases hj : j < v.length
  · rw [← en_of hj, ← en_of (by simpa using hj)]; simp
  · have h2 : (v.map f).length ≤ j := by rw [List.length_map]; omega
    rw [en_out h2, en_out (show v.length ≤ j by omega), h]
theorem en_mem {v : V} {j : Nat} (h : j < v.length) : en v j ∈ v := by rw [← en_of h]; exact List.getElem_mem h
theorem mem_en {v : V} {x : Int} (h : x ∈ v) : ∃ j, j < v.length ∧ en v j = x := by
  obtain ⟨j, hj, e⟩ := List.getElem_of_mem h
  exact ⟨j, hj, by rw [← en_of hj, e]⟩
theorem en_lt {k : Nat} {v : V} (h : Lt k v) (j : Nat) : (en v j).natAbs < 2 ^ k := by
  by_cases hj : j < v.length
  · exact h _ (en_mem hj)
  · rw [en_out (by omega)]; exact Nat.two_pow_pos k
theorem lt_en {k : Nat} {v : V} (h : ∀ j, (en v j).natAbs < 2 ^ k) : Lt k v := fun x hx => by
  obtain ⟨j, _, rfl⟩ := mem_en hx
  exact h j
/-! combinations -/
def lc (a : Int) (v : V) (b : Int) (w : V) : V := List.zipWith (fun x y => a * x + b * y) v w
theorem lc_len {n : Nat} {a b : Int} {v w : V} (h : v.length = n) (h2 : w.length = n) : (lc a v b w).length = n := by simp [lc, h, h2]
theorem en_lc {a b : Int} {v w : V} {j : Nat} (h : v.length = w.length) : en (lc a v b w) j = a * en v j + b * en w j := by
  by_cases hj : j < v.length
  · have h2 : j < w.length := by omega
    have h3 : j < (lc a v b w).length := by simp [lc]; omega
    rw [← en_of hj, ← en_of h2, ← en_of h3]
    simp [lc]
  · have h3 : (lc a v b w).length ≤ j := by simp [lc]; omega
    rw [en_out h3, en_out (show v.length ≤ j by omega), en_out (show w.length ≤ j by omega)]
    simp
/-! the greatest common divisor -/
def gcF (g : Nat) (v : V) : Nat := v.foldl (fun g x => Nat.gcd g x.natAbs) g
def gc (v : V) : Nat := gcF 0 v
theorem gcF_dvd : ∀ {v : V} {g : Nat}, gcF g v ∣ g ∧ ∀ x ∈ v, gcF g v ∣ x.natAbs
  | [], g => ⟨Nat.dvd_refl _, by simp⟩
  | y :: v, g => by
    obtain ⟨h1, h2⟩ := gcF_dvd (v := v) (g := Nat.gcd g y.natAbs)
    refine ⟨Nat.dvd_trans h1 (Nat.gcd_dvd_left _ _), fun x hx => ?_⟩
    rcases List.mem_cons.mp hx with rfl | hx
    · exact Nat.dvd_trans h1 (Nat.gcd_dvd_right _ _)
    · exact h2 x hx
theorem gcF_mul {c : Int} : ∀ {v : V} {g : Nat}, gcF (c.natAbs * g) (v.map fun x => c * x) = c.natAbs * gcF g v
  | [], g => rfl
  | y :: v, g => by
    show gcF (Nat.gcd (c.natAbs * g) (c * y).natAbs) _ = _
    rw [Int.natAbs_mul, Nat.gcd_mul_left]
    exact gcF_mul
theorem gc_dvd {v : V} {x : Int} (h : x ∈ v) : (gc v : Int) ∣ x := by
  have := (gcF_dvd (v := v) (g := 0)).2 x h
  exact Int.natAbs_dvd_natAbs.mp (by simpa [gc] using this)
theorem gc_mul {c : Int} {v : V} : gc (v.map fun x => c * x) = c.natAbs * gc v := by
  have := gcF_mul (c := c) (v := v) (g := 0)
  rw [Nat.mul_zero] at this
  exact this
theorem gc_zero {v : V} (h : gc v = 0) (j : Nat) : en v j = 0 := by
  by_cases hj : j < v.length
  · have := gc_dvd (en_mem hj)
    rw [h] at this
    simpa using this
  · exact en_out (by omega)
theorem gcF_of_zero : ∀ {v : V} {g : Nat}, (∀ x ∈ v, x = 0) → gcF g v = g
  | [], g, _ => rfl
  | y :: v, g, h => by
    show gcF (Nat.gcd g y.natAbs) v = g
    rw [h y (by simp)]
    show gcF (Nat.gcd g 0) v = g
    rw [Nat.gcd_zero_right]
    exact gcF_of_zero fun x hx => h x (by simp [hx])
theorem gc_of_zero {v : V} (h : ∀ j, en v j = 0) : gc v = 0 := gcF_of_zero fun x hx => by
  obtain ⟨j, _, e⟩ := mem_en hx
  rw [← e, h j]
def prim (v : V) : V := if gc v = 0 then v else v.map fun x => x.fdiv (gc v)
theorem prim_len {v : V} : (prim v).length = v.length := by unfold prim; split <;> simp
theorem en_prim {v : V} (h : gc v ≠ 0) (j : Nat) : (gc v : Int) * en (prim v) j = en v j := by
  unfold prim
  rw [if_neg h, en_map _ (by simp)]
  by_cases hj : j < v.length
  · obtain ⟨k, hk⟩ := gc_dvd (en_mem hj)
    rw [hk, Int.mul_fdiv_cancel_left _ (by omega)]
  · rw [en_out (by omega)]; simp
theorem prim_of {v : V} : ∃ d : Int, 0 < d ∧ ∀ j, d * en (prim v) j = en v j := by
  by_cases h : gc v = 0
  · exact ⟨1, by omega, fun j => by unfold prim; rw [if_pos h]; omega⟩
  · exact ⟨gc v, by omega, en_prim h⟩
theorem gc_prim {v : V} : gc (prim v) ≤ 1 := by
  by_cases h : gc v = 0
  · unfold prim; rw [if_pos h]; omega
  · have e : (prim v).map (fun x => (gc v : Int) * x) = v := en_ext (by rw [List.length_map, prim_len]) fun j => by
      rw [en_map _ (by simp)]; exact en_prim h j
    have e2 : gc v = gc v * gc (prim v) := by
      have h2 := gc_mul (c := (gc v : Int)) (v := prim v)
      rw [e] at h2
      simpa using h2
    have e3 : gc v * gc (prim v) = gc v * 1 := by omega
    have := Nat.eq_of_mul_eq_mul_left (by omega) e3
    omega
theorem prim_abs {v : V} (j : Nat) : (en (prim v) j).natAbs ≤ (en v j).natAbs := by
  obtain ⟨d, d0, h⟩ := prim_of (v := v)
  rw [← h j, Int.natAbs_mul]
  exact Nat.le_mul_of_pos_left _ (by omega)
theorem prim_lt {k : Nat} {v : V} (h : Lt k v) : Lt k (prim v) := lt_en fun j => Nat.lt_of_le_of_lt (prim_abs j) (en_lt h j)
theorem prim_id {v : V} (h : gc v ≤ 1) : prim v = v := by
  unfold prim
  split
  · rfl
  · have : gc v = 1 := by omega
    rw [this]
    exact en_ext (by simp) fun j => by rw [en_map _ (by simp)]; simp
theorem prim_zero {v : V} (j : Nat) : en (prim v) j = 0 ↔ en v j = 0 := by
  obtain ⟨d, d0, h⟩ := prim_of (v := v)
  have := h j
  constructor
  · intro z; rw [z, Int.mul_zero] at this; exact this.symm
  · intro z
    rw [z] at this
    rcases Int.mul_eq_zero.mp this with q | q
    · omega
    · exact q
theorem prim_pos {v : V} (j : Nat) (h : 0 < en v j) : 0 < en (prim v) j := by
  obtain ⟨d, d0, e⟩ := prim_of (v := v)
  have := e j
  by_cases h0 : 0 < en (prim v) j
  · exact h0
  · have : d * en (prim v) j ≤ 0 := Int.mul_nonpos_of_nonneg_of_nonpos (by omega) (by omega)
    omega
/-- proportional and primitive: equal -/
theorem prop_eq {u w : V} {a b : Int} (hl : u.length = w.length) (hu : gc u ≤ 1) (hw : gc w ≤ 1) (ha : 0 < a) (hb : 0 < b) (h : ∀ j, a * en u j = b * en w j) : u = w := by
  have e : u.map (fun x => a * x) = w.map (fun x => b * x) := en_ext (by simp [hl]) fun j => by
    rw [en_map _ (by simp), en_map _ (by simp)]; exact h j
  have e2 := congrArg gc e
  rw [gc_mul, gc_mul] at e2
  by_cases hz : gc u = 0
  · have hz2 : gc w = 0 := by
      rw [hz, Nat.mul_zero] at e2
      rcases Nat.mul_eq_zero.mp e2.symm with q | q
      · omega
      · exact q
    exact en_ext hl fun j => by rw [gc_zero hz, gc_zero hz2]
  · have hz2 : gc w ≠ 0 := fun z => by
      rw [z, Nat.mul_zero] at e2
      rcases Nat.mul_eq_zero.mp e2 with q | q
      · omega
      · exact hz q
    have u1 : gc u = 1 := by omega
    have w1 : gc w = 1 := by omega
    rw [u1, w1] at e2
    have ab : a = b := by omega
    subst ab
    exact en_ext hl fun j => Int.eq_of_mul_eq_mul_left (by omega) (h j)
/-! spans (over the fractions) -/
inductive Q (E : List V) : (Nat → Int) → Prop
  | zero {u : Nat → Int} : (∀ j, u j = 0) → Q E u
  | row {e : V} : e ∈ E → Q E (en e)
  | lin {u v w : Nat → Int} (a b d : Int) : Q E u → Q E v → d ≠ 0 → (∀ j, d * w j = a * u j + b * v j) → Q E w
theorem Q.trans {E F : List V} (h : ∀ e ∈ E, Q F (en e)) {u : Nat → Int} (k : Q E u) : Q F u := by
  induction k with
  | zero z => exact .zero z
  | row m => exact h _ m
  | lin a b d _ _ d0 e ih1 ih2 => exact .lin a b d ih1 ih2 d0 e
theorem Q.mono {E F : List V} (h : ∀ e ∈ E, e ∈ F) {u : Nat → Int} (k : Q E u) : Q F u := k.trans fun e he => .row (h e he)
theorem Q.scale {E : List V} {u w : Nat → Int} (a d : Int) (k : Q E u) (d0 : d ≠ 0) (e : ∀ j, d * w j = a * u j) : Q E w := .lin a 0 d k k d0 fun j => by rw [e j]; omega
theorem Q.neg {E : List V} {u w : Nat → Int} (k : Q E u) (e : ∀ j, w j = -u j) : Q E w := k.scale (-1) 1 (by decide) fun j => by rw [e j]; omega
theorem Q.vanish {E : List V} {q : Nat} (h : ∀ e ∈ E, en e q = 0) {u : Nat → Int} (k : Q E u) : u q = 0 := by
  induction k with
  | zero z => exact z q
  | row m => exact h _ m
  | lin a b d _ _ d0 e ih1 ih2 =>
    have := e q
    rw [ih1, ih2, Int.mul_zero, Int.mul_zero, Int.add_zero] at this
    rcases Int.mul_eq_zero.mp this with z | z
    · exact absurd z d0
    · exact z
/-! sums -/
def comb (c : V → Int) (E : List V) (j : Nat) : Int := (E.map fun e => c e * en e j).sum
theorem sum_zero {f : V → Int} : ∀ {E : List V}, (∀ e ∈ E, f e = 0) → (E.map f).sum = 0
  | [], _ => rfl
  | e :: E, h => by
    rw [List.map_cons, List.sum_cons, h e (by simp), sum_zero fun x hx => h x (by simp [hx])]; rfl
theorem sum_one {f : V → Int} {b : V} : ∀ {E : List V}, E.Nodup → b ∈ E → (∀ e ∈ E, e ≠ b → f e = 0) → (E.map f).sum = f b
  | [], _, h, _ => by simp at h
  | e :: E, hn, hb, h => by
    rw [List.nodup_cons] at hn
    rw [List.map_cons, List.sum_cons]
    rcases List.mem_cons.mp hb with rfl | hb
    · rw [sum_zero fun x hx => h x (by simp [hx]) fun z => hn.1 (z ▸ hx)]; omega
    · rw [h e (by simp) fun z => hn.1 (z ▸ hb), sum_one hn.2 hb fun x hx => h x (by simp [hx])]; omega
theorem sum_lin {f g : V → Int} (a b : Int) : ∀ {E : List V}, (E.map fun e => a * f e + b * g e).sum = a * (E.map f).sum + b * (E.map g).sum
  | [] => by simp
  | e :: E => by
    simp only [List.map_cons, List.sum_cons]
    rw [sum_lin a b, Int.mul_add, Int.mul_add]
    omega
open Classical in
theorem Q.comb {E : List V} (hn : E.Nodup) {u : Nat → Int} (k : Q E u) : ∃ (d : Int) (c : V → Int), d ≠ 0 ∧ ∀ j, d * u j = Lv.comb c E j := by
  induction k with
  | zero z => exact ⟨1, fun _ => 0, by decide, fun j => by rw [z j, Lv.comb, sum_zero (by intros; simp)]; rfl⟩
  | @row e m =>
    refine ⟨1, fun x => if x = e then 1 else 0, by decide, fun j => ?_⟩
    rw [Lv.comb, sum_one hn m fun x _ hx => by simp [hx]]
    simp
  | @lin u v w a b d _ _ d0 e ih1 ih2 =>
    obtain ⟨d1, c1, h1, k1⟩ := ih1
    obtain ⟨d2, c2, h2, k2⟩ := ih2
    refine ⟨d * (d1 * d2), fun x => (a * d2) * c1 x + (b * d1) * c2 x, Int.mul_ne_zero d0 (Int.mul_ne_zero h1 h2), fun j => ?_⟩
    have s := sum_lin (f := fun x => c1 x * en x j) (g := fun x => c2 x * en x j) (a * d2) (b * d1) (E := E)
    have s2 : Lv.comb (fun x => (a * d2) * c1 x + (b * d1) * c2 x) E j = (E.map fun x => (a * d2) * (c1 x * en x j) + (b * d1) * (c2 x * en x j)).sum := by
      unfold Lv.comb
      congr 1
      refine List.map_congr_left fun x _ => ?_
      rw [Int.add_mul, Int.mul_assoc (a * d2), Int.mul_assoc (b * d1)]
    rw [s2, s]
    have q1 : (E.map fun x => c1 x * en x j).sum = d1 * u j := (k1 j).symm
    have q2 : (E.map fun x => c2 x * en x j).sum = d2 * v j := (k2 j).symm
    rw [q1, q2, Int.mul_assoc, Int.mul_assoc d1, ← Int.mul_assoc d, Int.mul_comm d, Int.mul_assoc d1, Int.mul_left_comm d, e j]
    rw [Int.mul_add, Int.mul_add]
    congr 1
    · ac_rfl
    · ac_rfl
/-! pivots -/
/-- the rank of a column: column 0 comes last -/
def rk (n j : Nat) : Nat := if j = 0 then n else j
theorem rk_inj {n i j : Nat} (hi : i < n) (hj : j < n) (h : rk n i = rk n j) : i = j := by
  unfold rk at h; split at h <;> split at h <;> omega
theorem rk_pos {n i : Nat} (hi : i < n) : 1 ≤ rk n i ∧ rk n i ≤ n := by unfold rk; split <;> omega
def Piv (n : Nat) (u : Nat → Int) (p : Nat) : Prop := p < n ∧ u p ≠ 0 ∧ ∀ q, q < n → rk n q < rk n p → u q = 0
theorem Piv.uniq {n : Nat} {u : Nat → Int} {p q : Nat} (h : Piv n u p) (k : Piv n u q) : p = q := by
  rcases Nat.lt_trichotomy (rk n p) (rk n q) with l | l | l
  · exact absurd (k.2.2 p h.1 l) h.2.1
  · exact rk_inj h.1 k.1 l
  · exact absurd (h.2.2 q k.1 l) k.2.1
open Classical in
noncomputable def pv (n : Nat) (v : V) : Nat := if h : ∃ p, Piv n (en v) p then choose h else 0
theorem Piv.pv {n : Nat} {v : V} {p : Nat} (h : Piv n (en v) p) : Lv.pv n v = p := by
  have hx : ∃ p, Piv n (en v) p := ⟨p, h⟩
  unfold Lv.pv
  rw [dif_pos hx]
  exact (Classical.choose_spec hx).uniq h
theorem piv_ex {n : Nat} {u : Nat → Int} (h : ∃ j, j < n ∧ u j ≠ 0) : ∃ p, Piv n u p := by
  have aux : ∀ m r, r + m = n + 1 → (∀ q, q < n → rk n q < r → u q = 0) → ∃ p, Piv n u p := by
    intro m
    induction m with
    | zero =>
      intro r hr hz
      exfalso
      obtain ⟨j, hj, hu⟩ := h
      exact hu (hz j hj (by have := (rk_pos hj).2; omega))
    | succ m ih =>
      intro r hr hz
      by_cases hx : ∃ p, p < n ∧ rk n p = r ∧ u p ≠ 0
      · obtain ⟨p, hp, rfl, h3⟩ := hx
        exact ⟨p, hp, h3, hz⟩
      · refine ih (r + 1) (by omega) fun q hq hlt => ?_
        by_cases hqr : rk n q < r
        · exact hz q hq hqr
        · by_cases hu : u q = 0
          · exact hu
          · exact absurd ⟨q, hq, by omega, hu⟩ hx
  exact aux (n + 1) 0 (by omega) fun q hq h => by have := (rk_pos hq).1; omega
/-- a row of an echelon form -/
structure Row (n : Nat) (e : V) : Prop where
  len : e.length = n
  gc1 : gc e ≤ 1
  piv : Piv n (en e) (pv n e)
  pos : 0 < en e (pv n e)
theorem Row.mk' {n p : Nat} {e : V} (h : e.length = n) (g : gc e ≤ 1) (k : Piv n (en e) p) (q : 0 < en e p) : Row n e := by
  have := k.pv
  exact ⟨h, g, by rw [this]; exact k, by rw [this]; exact q⟩
structure UE (n : Nat) (F : List V) : Prop where
  row : ∀ e ∈ F, Row n e
  nd : F.Nodup
  off : ∀ a ∈ F, ∀ b ∈ F, a ≠ b → en a (pv n b) = 0
structure Ech (n : Nat) (E : List V) : Prop extends UE n E where
  asc : E.Pairwise fun a b => rk n (pv n a) < rk n (pv n b)
theorem UE.comb {n : Nat} {F : List V} (h : UE n F) (c : V → Int) {b : V} (hb : b ∈ F) : Lv.comb c F (pv n b) = c b * en b (pv n b) :=
  sum_one (f := fun e => c e * en e (pv n b)) h.nd hb fun e he hne => by rw [h.off e he b hb hne, Int.mul_zero]
theorem UE.inj {n : Nat} {F : List V} (h : UE n F) {a b : V} (ha : a ∈ F) (hb : b ∈ F) (e : pv n a = pv n b) : a = b := by
  by_cases hab : a = b
  · exact hab
  · have h1 := h.off a ha b hb hab
    rw [← e] at h1
    have h2 := (h.row a ha).pos
    omega
theorem UE.perm {n : Nat} {F G : List V} (h : UE n F) (p : G.Perm F) : UE n G :=
  ⟨fun e he => h.row e (p.mem_iff.mp he), p.nodup_iff.mpr h.nd, fun a ha b hb => h.off a (p.mem_iff.mp ha) b (p.mem_iff.mp hb)⟩
theorem UE.zero {n : Nat} {F : List V} (h : UE n F) {u : Nat → Int} (k : Q F u) (z : ∀ b ∈ F, u (pv n b) = 0) (j : Nat) : u j = 0 := by
  obtain ⟨d, c, d0, e⟩ := k.comb h.nd
  have c0 : ∀ b ∈ F, c b = 0 := fun b hb => by
    have h1 := e (pv n b)
    rw [z b hb, h.comb c hb, Int.mul_zero] at h1
    have h2 := (h.row b hb).pos
    rcases Int.mul_eq_zero.mp h1.symm with q | q
    · exact q
    · omega
  have h1 := e j
  rw [Lv.comb, sum_zero fun x hx => by rw [c0 x hx, Int.zero_mul]] at h1
  rcases Int.mul_eq_zero.mp h1 with q | q
  · exact absurd q d0
  · exact q
/-- what is reduced is so in one way -/
theorem UE.red {n : Nat} {F : List V} (h : UE n F) {w x : V} {a b : Int} (hl : w.length = x.length) (gw : gc w ≤ 1) (gx : gc x ≤ 1) (ha : 0 < a) (hb : 0 < b) (zw : ∀ e ∈ F, en w (pv n e) = 0) (zx : ∀ e ∈ F, en x (pv n e) = 0) (k : Q F fun j => a * en w j - b * en x j) : w = x :=
  prop_eq hl gw gx ha hb fun j => by
    have := h.zero k (fun e he => by rw [zw e he, zx e he]; simp) j
    have : a * en w j - b * en x j = 0 := this
    omega
theorem UE.piv {n : Nat} {F : List V} (h : UE n F) {u : Nat → Int} {c : Nat} (k : Q F u) (hp : Piv n u c) : ∃ b ∈ F, pv n b = c := by
  by_cases hx : ∃ b ∈ F, pv n b = c
  · exact hx
  · exfalso
    obtain ⟨d, cf, d0, e⟩ := k.comb h.nd
    have h1 := e c
    rw [Lv.comb, sum_zero fun b hb => ?_] at h1
    · rcases Int.mul_eq_zero.mp h1 with q | q
      · exact d0 q
      · exact hp.2.1 q
    · have rb := h.row b hb
      rcases Nat.lt_trichotomy (rk n (pv n b)) (rk n c) with l | l | l
      · have h2 := e (pv n b)
        rw [hp.2.2 _ rb.piv.1 l, h.comb cf hb, Int.mul_zero] at h2
        rcases Int.mul_eq_zero.mp h2.symm with q | q
        · rw [q, Int.zero_mul]
        · exact absurd q (by have := rb.pos; omega)
      · exact absurd ⟨b, hb, rk_inj rb.piv.1 hp.1 l⟩ hx
      · rw [rb.piv.2.2 c hp.1 l, Int.mul_zero]
theorem sorted_eq {f : V → Nat} : ∀ {E F : List V}, E.Pairwise (fun a b => f a < f b) → F.Pairwise (fun a b => f a < f b) → (∀ x, x ∈ E ↔ x ∈ F) → E = F
  | [], [], _, _, _ => rfl
  | [], b :: F, _, _, h => absurd ((h b).mpr (by simp)) (by simp)
  | a :: E, [], _, _, h => absurd ((h a).mp (by simp)) (by simp)
  | a :: E, b :: F, hE, hF, h => by
    rw [List.pairwise_cons] at hE hF
    have hab : a = b := by
      rcases List.mem_cons.mp ((h a).mp (by simp)) with q | q
      · exact q
      · rcases List.mem_cons.mp ((h b).mpr (by simp)) with q2 | q2
        · exact q2.symm
        · have := hE.1 b q2
          have := hF.1 a q
          omega
    subst hab
    rw [sorted_eq hE.2 hF.2 fun x => ?_]
    constructor
    · intro hx
      rcases List.mem_cons.mp ((h x).mp (by simp [hx])) with q | q
      · exact absurd (hE.1 x hx) (by rw [q]; omega)
      · exact q
    · intro hx
      rcases List.mem_cons.mp ((h x).mpr (by simp [hx])) with q | q
      · exact absurd (hF.1 x hx) (by rw [q]; omega)
      · exact q
theorem Ech.sub {n : Nat} {E F : List V} (hE : Ech n E) (hF : Ech n F) (h : ∀ e ∈ E, Q F (en e)) (k : ∀ e ∈ F, Q E (en e)) {a : V} (ha : a ∈ E) : a ∈ F := by
  obtain ⟨b, hb, e⟩ := hF.piv (h a ha) (hE.row a ha).piv
  have ra := hE.row a ha
  have rb := hF.row b hb
  have u : ∀ j, en b (pv n b) * en a j - en a (pv n a) * en b j = 0 := hF.zero (.lin (en b (pv n b)) (-en a (pv n a)) 1 (h a ha) (.row hb) (by decide) fun j => by rw [Int.neg_mul]; omega) fun b' hb' => by
    by_cases hbb : b' = b
    · subst hbb
      rw [e]
      rw [Int.mul_comm]; omega
    · have h1 := hF.off b hb b' hb' (fun z => hbb z.symm)
      obtain ⟨a', ha', e'⟩ := hE.piv (k b' hb') (hF.row b' hb').piv
      have hne : a ≠ a' := fun z => hbb (hF.inj hb' hb (by rw [← e', ← z, e]))
      have h2 := hE.off a ha a' ha' hne
      rw [e'] at h2
      rw [h1, h2]; simp
  have : a = b := prop_eq (by rw [ra.len, rb.len]) ra.gc1 rb.gc1 rb.pos ra.pos fun j => by have := u j; omega
  rw [this]; exact hb
/-- rows in echelon form are given by their span -/
theorem Ech.uniq {n : Nat} {E F : List V} (hE : Ech n E) (hF : Ech n F) (h : ∀ e ∈ E, Q F (en e)) (k : ∀ e ∈ F, Q E (en e)) : E = F :=
  sorted_eq hE.asc hF.asc fun x => ⟨hE.sub hF h k, hF.sub hE k h⟩
/-! clearing a column -/
def clr (v e : V) (p : Nat) : V := if en v p = 0 then v else prim (lc (en e p) v (-en v p) e)
theorem clr_len {n : Nat} {v e : V} {p : Nat} (hv : v.length = n) (he : e.length = n) : (clr v e p).length = n := by
  unfold clr; split
  · exact hv
  · rw [prim_len, lc_len hv he]
theorem clr_of {n : Nat} {v e : V} {p : Nat} (hv : v.length = n) (he : e.length = n) (h0 : 0 < en e p) : ∃ d s t : Int, 0 < d ∧ 0 < s ∧ (∀ j, d * en (clr v e p) j = s * en v j + t * en e j) := by
  unfold clr; split
  · exact ⟨1, 1, 0, by decide, by decide, fun j => by omega⟩
  · obtain ⟨d, d0, h⟩ := prim_of (v := lc (en e p) v (-en v p) e)
    exact ⟨d, en e p, -en v p, d0, h0, fun j => by rw [h j, en_lc (by rw [hv, he])]⟩
theorem clr_at {n : Nat} {v e : V} {p : Nat} (hv : v.length = n) (he : e.length = n) : en (clr v e p) p = 0 := by
  unfold clr; split
  · assumption
  · rw [prim_zero, en_lc (by rw [hv, he]), Int.mul_comm, Int.neg_mul]; omega
/-- where the row is zero, a vector keeps its sign -/
theorem clr_off {n : Nat} {v e : V} {p q : Nat} (hv : v.length = n) (he : e.length = n) (h0 : 0 < en e p) (hq : en e q = 0) : (en v q = 0 → en (clr v e p) q = 0) ∧ (0 < en v q → 0 < en (clr v e p) q) := by
  obtain ⟨d, s, t, d0, s0, h⟩ := clr_of (p := p) hv he h0
  have := h q
  rw [hq, Int.mul_zero, Int.add_zero] at this
  constructor
  · intro z
    rw [z, Int.mul_zero] at this
    rcases Int.mul_eq_zero.mp this with r | r
    · omega
    · exact r
  · intro z
    have h1 : 0 < s * en v q := Int.mul_pos s0 z
    by_cases h2 : 0 < en (clr v e p) q
    · exact h2
    · have : d * en (clr v e p) q ≤ 0 := Int.mul_nonpos_of_nonneg_of_nonpos (by omega) (by omega)
      omega
theorem clr_zero {n : Nat} {v e : V} {p q : Nat} (hv : v.length = n) (he : e.length = n) (h0 : 0 < en e p) (hq : en e q = 0) (z : en v q = 0) : en (clr v e p) q = 0 := (clr_off hv he h0 hq).1 z
theorem clr_gc {v e : V} {p : Nat} (h : gc v ≤ 1) : gc (clr v e p) ≤ 1 := by
  unfold clr; split
  · exact h
  · exact gc_prim
theorem lc_lt {a b : Nat} {v e : V} {x y : Int} (hv : Lt a v) (he : Lt b e) (hl : v.length = e.length) (hx : x.natAbs < 2 ^ b) (hy : y.natAbs < 2 ^ a) : Lt (a + b + 1) (lc x v y e) := lt_en fun j => by
  rw [en_lc hl]
  have h1 : (x * en v j).natAbs < 2 ^ (a + b) := by
    rw [Int.natAbs_mul, Nat.mul_comm, Nat.pow_add]
    exact Nat.mul_lt_mul'' (en_lt hv j) hx
  have h2 : (y * en e j).natAbs < 2 ^ (a + b) := by
    rw [Int.natAbs_mul, Nat.pow_add]
    exact Nat.mul_lt_mul'' hy (en_lt he j)
  have h3 : (2 : Nat) ^ (a + b + 1) = 2 * 2 ^ (a + b) := by rw [Nat.pow_succ]; omega
  omega
theorem clr_lt {a b : Nat} {v e : V} {p : Nat} (hv : Lt a v) (he : Lt b e) (hl : v.length = e.length) : Lt (a + b + 1) (clr v e p) := by
  unfold clr; split
  · exact hv.mono (by omega)
  · exact prim_lt (lc_lt hv he hl (en_lt he p) (by rw [Int.natAbs_neg]; exact en_lt hv p))
/-- v comes from w: v is a positive multiple of w plus a part of the span -/
def From (F : List V) (v w : V) : Prop := ∃ a b : Int, 0 < a ∧ 0 < b ∧ Q F fun j => a * en v j - b * en w j
theorem From.refl {F : List V} {v : V} : From F v v := ⟨1, 1, by decide, by decide, .zero fun j => by omega⟩
theorem From.mul {F : List V} {v w x : V} (h : From F v w) {d s t : Int} {e : Nat → Int} (d0 : 0 < d) (s0 : 0 < s) (he : Q F e) (k : ∀ j, d * en x j = s * en v j + t * e j) : From F x w := by
  obtain ⟨a, b, a0, b0, q⟩ := h
  refine ⟨a * d, s * b, Int.mul_pos a0 d0, Int.mul_pos s0 b0, .lin s (a * t) 1 q he (by decide) fun j => ?_⟩
  have := k j
  show 1 * (a * d * en x j - s * b * en w j) = s * (a * en v j - b * en w j) + a * t * e j
  rw [Int.one_mul, Int.mul_sub, Int.mul_assoc a d, this, Int.mul_add]
  have e1 : a * (s * en v j) = s * (a * en v j) := by ac_rfl
  have e2 : a * (t * e j) = a * t * e j := by ac_rfl
  have e3 : s * b * en w j = s * (b * en w j) := by ac_rfl
  rw [e1, e2, e3]; omega
theorem From.symm {F : List V} {v w : V} (h : From F v w) : From F w v := by
  obtain ⟨a, b, a0, b0, q⟩ := h
  exact ⟨b, a, b0, a0, q.neg fun j => by omega⟩
theorem From.trans {F : List V} {v w x : V} (h : From F v w) (k : From F w x) : From F v x := by
  obtain ⟨a, b, a0, b0, q⟩ := h
  obtain ⟨c, d, c0, d0, r⟩ := k
  refine ⟨c * a, b * d, Int.mul_pos c0 a0, Int.mul_pos b0 d0, .lin c b 1 q r (by decide) fun j => ?_⟩
  show 1 * (c * a * en v j - b * d * en x j) = c * (a * en v j - b * en w j) + b * (c * en w j - d * en x j)
  rw [Int.one_mul, Int.mul_sub, Int.mul_sub]
  have e1 : c * a * en v j = c * (a * en v j) := by ac_rfl
  have e2 : b * d * en x j = b * (d * en x j) := by ac_rfl
  have e3 : c * (b * en w j) = b * (c * en w j) := by ac_rfl
  rw [e1, e2, e3]; omega
theorem From.clr {n : Nat} {F : List V} {v w e : V} {p : Nat} (h : From F v w) (he : e ∈ F) (hv : v.length = n) (hl : e.length = n) (h0 : 0 < en e p) : From F (clr v e p) w := by
  obtain ⟨d, s, t, d0, s0, k⟩ := clr_of (p := p) hv hl h0
  exact h.mul d0 s0 (.row he) k
theorem From.prim {F : List V} {v w : V} (h : From F v w) : From F (prim v) w := by
  obtain ⟨d, d0, k⟩ := prim_of (v := v)
  exact h.mul (s := 1) (t := 0) d0 (by decide) (.zero (u := fun _ => 0) fun _ => rfl) fun j => by rw [k j]; omega
theorem UE.red' {n : Nat} {F : List V} (h : UE n F) {w x : V} (hl : w.length = x.length) (gw : gc w ≤ 1) (gx : gc x ≤ 1) (zw : ∀ e ∈ F, en w (pv n e) = 0) (zx : ∀ e ∈ F, en x (pv n e) = 0) (k : From F w x) : w = x := by
  obtain ⟨a, b, a0, b0, q⟩ := k
  exact h.red hl gw gx a0 b0 zw zx q
end Lv
set_option Elab.async false
set_option linter.all false
set_option maxRecDepth 100000
/-! a row more in an echelon form; sorting by the pivots -/
namespace Lv
open Ty Fx
/-- the law's way to clear -/
theorem clr_law {n : Nat} {v e : V} {p : Nat} (hv : v.length = n) (he : e.length = n) (h0 : 0 < en e p) (g : gc v ≤ 1) : prim (lc (en e p) v (-en v p) e) = clr v e p := by
  unfold clr; split
  · rename_i hz
    obtain ⟨d, d0, h⟩ := prim_of (v := lc (en e p) v (-en v p) e)
    refine prop_eq (a := d) (b := en e p) (by rw [prim_len, lc_len hv he, hv]) gc_prim g d0 h0 fun j => ?_
    rw [h j, en_lc (by rw [hv, he]), hz]; omega
  · rfl
theorem clr_Q {n : Nat} {v e : V} {p : Nat} {G : List V} (hv : v.length = n) (he : e.length = n) (h0 : 0 < en e p) (k : Q G (en v)) (l : Q G (en e)) : Q G (en (clr v e p)) := by
  obtain ⟨d, s, t, d0, s0, h⟩ := clr_of (p := p) hv he h0
  exact .lin s t d k l (by omega) h
theorem clr_Q' {n : Nat} {v e : V} {p : Nat} {G : List V} (hv : v.length = n) (he : e.length = n) (h0 : 0 < en e p) (k : Q G (en (clr v e p))) (l : Q G (en e)) : Q G (en v) := by
  obtain ⟨d, s, t, d0, s0, h⟩ := clr_of (p := p) hv he h0
  exact .lin d (-t) s k l (by omega) fun j => by rw [h j, Int.neg_mul]; omega
theorem clr_row {n c : Nat} {e r : V} (he : Row n e) (hr : r.length = n) (pr : Piv n (en r) c) (r0 : 0 < en r c) (z : en r (pv n e) = 0) : Row n (clr e r c) ∧ pv n (clr e r c) = pv n e := by
  have k : Piv n (en (clr e r c)) (pv n e) := by
    refine ⟨he.piv.1, ?_, fun q hq hlt => ?_⟩
    · have := (clr_off he.len hr r0 z).2 he.pos
      omega
    · by_cases hc : rk n c < rk n (pv n e)
      · have h1 := he.piv.2.2 c pr.1 hc
        unfold clr
        rw [if_pos h1]
        exact he.piv.2.2 q hq hlt
      · exact clr_zero he.len hr r0 (pr.2.2 q hq (by omega)) (he.piv.2.2 q hq hlt)
  exact ⟨.mk' (clr_len he.len hr) (clr_gc he.gc1) k ((clr_off he.len hr r0 z).2 he.pos), k.pv⟩
theorem UE.add {n c : Nat} {F : List V} {r : V} (h : UE n F) (hr : r.length = n) (g : gc r ≤ 1) (pr : Piv n (en r) c) (r0 : 0 < en r c) (z : ∀ e ∈ F, en r (pv n e) = 0) : UE n (F.map (fun e => clr e r c) ++ [r]) := by
  have rr : Row n r := .mk' hr g pr r0
  have key : ∀ e ∈ F, Row n (clr e r c) ∧ pv n (clr e r c) = pv n e := fun e he => clr_row (h.row e he) hr pr r0 (z e he)
  have nm : ∀ e ∈ F, clr e r c ≠ r := fun e he q => by
    have h1 := clr_at (p := c) (h.row e he).len hr
    rw [q] at h1
    omega
  refine ⟨fun e he => ?_, ?_, fun a ha b hb hab => ?_⟩
  · rcases List.mem_append.mp he with he | he
    · obtain ⟨x, hx, rfl⟩ := List.mem_map.mp he
      exact (key x hx).1
    · obtain rfl : e = r := by simpa using he
      exact rr
  · rw [List.nodup_append]
    refine ⟨?_, by simp, fun a ha b hb => ?_⟩
    · rw [List.Nodup, List.pairwise_map]
      refine List.Pairwise.imp_of_mem (fun {a b} ha hb hab q => hab (h.inj ha hb ?_)) h.nd
      rw [← (key a ha).2, ← (key b hb).2, q]
    · obtain ⟨x, hx, rfl⟩ := List.mem_map.mp ha
      obtain rfl : b = r := by simpa using hb
      exact nm x hx
  · rcases List.mem_append.mp ha with ha | ha
    · obtain ⟨x, hx, rfl⟩ := List.mem_map.mp ha
      rcases List.mem_append.mp hb with hb | hb
      · obtain ⟨y, hy, rfl⟩ := List.mem_map.mp hb
        rw [(key y hy).2]
        exact clr_zero (h.row x hx).len hr r0 (z y hy) (h.off x hx y hy fun q => hab (by rw [q]))
      · obtain rfl : b = r := by simpa using hb
        rw [pr.pv]
        exact clr_at (h.row x hx).len hr
    · obtain rfl : a = r := by simpa using ha
      rcases List.mem_append.mp hb with hb | hb
      · obtain ⟨y, hy, rfl⟩ := List.mem_map.mp hb
        rw [(key y hy).2]
        exact z y hy
      · exact absurd (by simpa using hb) (fun q : b = a => hab q.symm)
/-- sorting by a key that tells items apart -/
theorem sortBy_spec {f : V → Int} {l : List V} (hn : l.Nodup) (hi : ∀ a ∈ l, ∀ b ∈ l, f a = f b → a = b) : (sortBy (l.map f) l).Perm l ∧ (sortBy (l.map f) l).Pairwise fun a b => f a < f b := by
  have h1 : (((l.map f).zip l).mergeSort fun p q => decide (p.1 ≤ q.1)).Perm ((l.map f).zip l) := List.mergeSort_perm _ _
  have h2 : (((l.map f).zip l).mergeSort fun p q => decide (p.1 ≤ q.1)).Pairwise (fun p q => p.1 ≤ q.1) :=
    (List.pairwise_mergeSort (le := fun p q : Int × V => decide (p.1 ≤ q.1)) (fun a b c h1 h2 => by simp only [decide_eq_true_eq] at *; omega) (fun a b => by simp only [Bool.or_eq_true, decide_eq_true_eq]; omega) ((l.map f).zip l)).imp fun h => of_decide_eq_true h
  have z : (l.map f).zip l = l.map fun x => (f x, x) := by
    refine List.ext_getElem (by simp) fun i a1 a2 => ?_
    simp
  unfold sortBy
  generalize ((l.map f).zip l).mergeSort (fun p q => decide (p.1 ≤ q.1)) = m at h1 h2
  rw [z] at h1
  have hm : ∀ p ∈ m, p.1 = f p.2 := fun p hp => by
    have := h1.mem_iff.mp hp
    obtain ⟨x, _, rfl⟩ := List.mem_map.mp this
    rfl
  have p1 : (m.map Prod.snd).Perm l := by
    have := h1.map Prod.snd
    have e : (l.map fun x => (f x, x)).map Prod.snd = l := by
      rw [List.map_map]
      show l.map (fun x => x) = l
      simp
    rw [e] at this
    exact this
  have nd := p1.nodup_iff.mpr hn
  refine ⟨p1, ?_⟩
  rw [List.Nodup, List.pairwise_map] at nd
  rw [List.pairwise_map]
  have both := h2.and nd
  refine List.Pairwise.imp_of_mem (fun {a b} ha hb q => ?_) both
  have ea := hm a ha
  have eb := hm b hb
  have q1 : a.1 ≤ b.1 := q.1
  have q2 : a.2 ≠ b.2 := q.2
  have ma : a.2 ∈ l := p1.mem_iff.mp (List.mem_map.mpr ⟨a, ha, rfl⟩)
  have mb : b.2 ∈ l := p1.mem_iff.mp (List.mem_map.mpr ⟨b, hb, rfl⟩)
  have ne : f a.2 ≠ f b.2 := fun z => q2 (hi _ ma _ mb z)
  rw [ea, eb] at q1
  omega
/-- reduced by rows -/
structure Red (n : Nat) (F : List V) (v r : V) : Prop where
  len : r.length = n
  gc1 : gc r ≤ 1
  zero : ∀ e ∈ F, en r (pv n e) = 0
  frm : From F r v
theorem Red.uniq {n : Nat} {F : List V} {v w r s : V} (h : UE n F) (hr : Red n F v r) (hs : Red n F w s) (k : From F v w) : r = s :=
  h.red' (by rw [hr.len, hs.len]) hr.gc1 hs.gc1 hr.zero hs.zero ((hr.frm.trans k).trans hs.frm.symm)
theorem Red.self {n : Nat} {F : List V} {v r : V} (h : Red n F v r) : Red n F r r := ⟨h.len, h.gc1, h.zero, .refl⟩
def ng (v : V) : V := v.map fun x => -x
theorem ng_len {v : V} : (ng v).length = v.length := by simp [ng]
theorem en_ng {v : V} {j : Nat} : en (ng v) j = -en v j := en_map (fun x => -x) rfl
theorem gc_ng {v : V} : gc (ng v) = gc v := by
  have := gc_mul (c := -1) (v := v)
  have e : (v.map fun x => -1 * x) = ng v := by
    unfold ng
    exact List.map_congr_left fun x _ => by omega
  rw [e] at this
  simpa using this
theorem lt_ng {k : Nat} {v : V} (h : Lt k v) : Lt k (ng v) := lt_en fun j => by rw [en_ng, Int.natAbs_neg]; exact en_lt h j
theorem Red.ng {n : Nat} {F : List V} {v r : V} (h : Red n F v r) : Red n F (ng v) (ng r) :=
  ⟨by rw [ng_len, h.len], by rw [gc_ng]; exact h.gc1, fun e he => by rw [en_ng, h.zero e he]; rfl, by
    obtain ⟨a, b, a0, b0, q⟩ := h.frm
    exact ⟨a, b, a0, b0, q.neg fun j => by rw [en_ng, en_ng, Int.mul_neg, Int.mul_neg]; omega⟩⟩
theorem From.lc {n : Nat} {F : List V} {v w e : V} {t : Int} (h : From F v w) (he : e ∈ F) (hv : v.length = n) (hl : e.length = n) : From F (lc 1 v t e) w :=
  h.mul (d := 1) (s := 1) (t := t) (by decide) (by decide) (.row he) fun j => by rw [en_lc (by rw [hv, hl])]; omega
theorem From.sc {F : List V} {v : V} {s : Int} (h : 0 < s) : From F (v.map fun x => s * x) v :=
  ⟨1, s, by decide, h, .zero fun j => by rw [en_map _ (by simp)]; omega⟩
/-! the law's echelon form: one column -/
structure LE (n : Nat) (R : List V) (i b m : Nat) (F L : List V) : Prop where
  ech : Ech n F
  fb : ∀ e ∈ F, Lt b e ∧ rk n (pv n e) ≤ i
  left : ∀ v ∈ L, v.length = n ∧ gc v ≤ 1 ∧ Lt b v ∧ ∀ q, q < n → rk n q ≤ i → en v q = 0
  to : ∀ r ∈ R, Q (F ++ L) (en r)
  of : ∀ e ∈ F ++ L, Q R (en e)
  len : F.length + L.length ≤ m
theorem LE.skip {n : Nat} {R : List V} {i b m c : Nat} {F L : List V} (h : LE n R i b m F L) (hc : c < n) (hr : rk n c = i + 1) (z : ∀ v ∈ L, en v c = 0) : LE n R (i + 1) (2 * b + 1) m F L :=
  ⟨h.ech, fun e he => ⟨(h.fb e he).1.mono (by omega), by have := (h.fb e he).2; omega⟩, fun v hv => by
    obtain ⟨h1, h2, h3, h4⟩ := h.left v hv
    refine ⟨h1, h2, h3.mono (by omega), fun q hq hle => ?_⟩
    by_cases hlt : rk n q ≤ i
    · exact h4 q hq hlt
    · have : q = c := rk_inj hq hc (by omega)
      rw [this]; exact z v hv, h.to, h.of, h.len⟩
theorem LE.take {n : Nat} {R : List V} {i b m c : Nat} {F L L' : List V} {v r : V} (h : LE n R i b m F L) (hc : c < n) (hr : rk n c = i + 1) (hp : L.Perm (v :: L')) (hrv : r = v ∨ r = ng v) (r0 : 0 < en r c) :
    LE n R (i + 1) (2 * b + 1) m (F.map (fun e => clr e r c) ++ [r]) (L'.map fun e => clr e r c) := by
  have mv : v ∈ L := hp.mem_iff.mpr (by simp)
  have mL : ∀ x ∈ L', x ∈ L := fun x hx => hp.mem_iff.mpr (by simp [hx])
  obtain ⟨v1, v2, v3, v4⟩ := h.left v mv
  have rl : r.length = n := by rcases hrv with rfl | rfl <;> simp [ng_len, v1]
  have rg : gc r ≤ 1 := by rcases hrv with rfl | rfl <;> simp [gc_ng, v2]
  have rb : Lt b r := by
    rcases hrv with rfl | rfl
    · exact v3
    · exact lt_ng v3
  have rz : ∀ q, q < n → rk n q ≤ i → en r q = 0 := fun q hq hle => by
    rcases hrv with rfl | rfl
    · exact v4 q hq hle
    · rw [en_ng, v4 q hq hle]; rfl
  have pr : Piv n (en r) c := ⟨hc, by omega, fun q hq hlt => rz q hq (by omega)⟩
  have zr : ∀ e ∈ F, en r (pv n e) = 0 := fun e he => rz _ (h.ech.row e he).piv.1 (h.fb e he).2
  have ue := h.ech.toUE.add rl rg pr r0 zr
  have key : ∀ e ∈ F, pv n (clr e r c) = pv n e := fun e he => (clr_row (h.ech.row e he) rl pr r0 (zr e he)).2
  have qr : Q (v :: L') (en r) := by
    rcases hrv with rfl | rfl
    · exact .row (by simp)
    · exact Q.neg (u := en v) (.row (by simp)) fun j => en_ng
  have qv : ∀ {G : List V}, Q G (en r) → Q G (en v) := fun k => by
    rcases hrv with rfl | rfl
    · exact k
    · exact k.neg fun j => by rw [en_ng]; omega
  refine ⟨⟨ue, ?_⟩, fun e he => ?_, fun x hx => ?_, fun x hx => ?_, fun e he => ?_, ?_⟩
  · rw [List.pairwise_append]
    refine ⟨?_, by simp, fun a ha b hb => ?_⟩
    · rw [List.pairwise_map]
      exact List.Pairwise.imp_of_mem (fun {a b} ha hb hab => by rw [key a ha, key b hb]; exact hab) h.ech.asc
    · obtain ⟨x, hx, rfl⟩ := List.mem_map.mp ha
      obtain rfl : b = r := by simpa using hb
      rw [key x hx, pr.pv]
      have := (h.fb x hx).2
      omega
  · rcases List.mem_append.mp he with he | he
    · obtain ⟨x, hx, rfl⟩ := List.mem_map.mp he
      refine ⟨(clr_lt (h.fb x hx).1 rb (by rw [(h.ech.row x hx).len, rl])).mono (by omega), ?_⟩
      rw [key x hx]
      have := (h.fb x hx).2
      omega
    · obtain rfl : e = r := by simpa using he
      exact ⟨rb.mono (by omega), by rw [pr.pv]; omega⟩
  · obtain ⟨y, hy, rfl⟩ := List.mem_map.mp hx
    obtain ⟨y1, y2, y3, y4⟩ := h.left y (mL y hy)
    refine ⟨clr_len y1 rl, clr_gc y2, (clr_lt y3 rb (by rw [y1, rl])).mono (by omega), fun q hq hle => ?_⟩
    by_cases hlt : rk n q ≤ i
    · exact clr_zero y1 rl r0 (rz q hq hlt) (y4 q hq hlt)
    · have : q = c := rk_inj hq hc (by omega)
      rw [this]; exact clr_at y1 rl
  · have hrow : Q (F.map (fun e => clr e r c) ++ [r] ++ L'.map fun e => clr e r c) (en r) := .row (by simp)
    refine (h.to x hx).trans fun e he => ?_
    rcases List.mem_append.mp he with he | he
    · exact clr_Q' (h.ech.row e he).len rl r0 (.row (by
        refine List.mem_append.mpr (.inl (List.mem_append.mpr (.inl (List.mem_map.mpr ⟨e, he, rfl⟩))))) ) hrow
    · rcases List.mem_cons.mp (hp.mem_iff.mp he) with rfl | he'
      · exact qv hrow
      · exact clr_Q' (h.left e he).1 rl r0 (.row (List.mem_append.mpr (.inr (List.mem_map.mpr ⟨e, he', rfl⟩)))) hrow
  · have hR : ∀ x ∈ v :: L', Q R (en x) := fun x hx => h.of x (List.mem_append.mpr (.inr (hp.mem_iff.mpr hx)))
    have hrow : Q R (en r) := qr.trans hR
    rcases List.mem_append.mp he with he | he
    · rcases List.mem_append.mp he with he | he
      · obtain ⟨y, hy, rfl⟩ := List.mem_map.mp he
        exact clr_Q (h.ech.row y hy).len rl r0 (h.of y (List.mem_append.mpr (.inl hy))) hrow
      · obtain rfl : e = r := by simpa using he
        exact hrow
    · obtain ⟨y, hy, rfl⟩ := List.mem_map.mp he
      exact clr_Q (h.left y (mL y hy)).1 rl r0 (hR y (by simp [hy])) hrow
  · have := hp.length_eq
    have := h.len
    simp at *
    omega
theorem LE.done {n : Nat} {R : List V} {b m : Nat} {F L : List V} (h : LE n R n b m F L) : Ech n F ∧ (∀ r ∈ R, Q F (en r)) ∧ (∀ e ∈ F, Q R (en e)) ∧ (∀ e ∈ F, Lt b e) ∧ F.length ≤ m := by
  refine ⟨h.ech, fun r hr => (h.to r hr).trans fun e he => ?_, fun e he => h.of e (List.mem_append.mpr (.inl he)), fun e he => (h.fb e he).1, by have := h.len; omega⟩
  rcases List.mem_append.mp he with he | he
  · exact .row he
  · obtain ⟨h1, _, _, h4⟩ := h.left e he
    refine .zero fun j => ?_
    by_cases hj : j < n
    · exact h4 j hj (rk_pos hj).2
    · exact en_out (by omega)
/-! the program's echelon form: one row -/
structure PE (n : Nat) (R : List V) (b m : Nat) (F : List V) : Prop where
  ue : UE n F
  fb : ∀ e ∈ F, Lt b e
  to : ∀ r ∈ R, Q F (en r)
  of : ∀ e ∈ F, Q R (en e)
  len : F.length ≤ m
/-- the rest of row r, when the rows of F' are done -/
structure RE' (n : Nat) (F F' : List V) (b : Nat) (r x : V) : Prop where
  len : x.length = n
  lt : Lt b x
  zero : ∀ e ∈ F', en x (pv n e) = 0
  to : Q (x :: F) (en r)
  of : Q (r :: F) (en x)
theorem RE'.step {n : Nat} {F F' : List V} {b c : Nat} {r x e : V} (h : RE' n F F' b r x) (ue : UE n F) (sub : ∀ a ∈ F', a ∈ F) (he : e ∈ F) (eb : Lt c e) : RE' n F (F' ++ [e]) (b + c + 1) r (clr x e (pv n e)) := by
  have re := ue.row e he
  refine ⟨clr_len h.len re.len, clr_lt h.lt eb (by rw [h.len, re.len]), fun a ha => ?_, ?_, ?_⟩
  · rcases List.mem_append.mp ha with ha | ha
    · by_cases hae : a = e
      · subst hae; exact clr_at h.len re.len
      · exact clr_zero h.len re.len re.pos (ue.off e he a (sub a ha) fun q => hae q.symm) (h.zero a ha)
    · obtain rfl : a = e := by simpa using ha
      exact clr_at h.len re.len
  · refine h.to.trans fun y hy => ?_
    rcases List.mem_cons.mp hy with rfl | hy
    · exact clr_Q' h.len re.len re.pos (.row (by simp)) (.row (by simp [he]))
    · exact .row (by simp [hy])
  · exact clr_Q h.len re.len re.pos h.of (.row (by simp [he]))
theorem PE.skip {n : Nat} {R F : List V} {b b' m : Nat} {r x : V} {bx : Nat} (h : PE n R b m F) (k : RE' n F F bx r x) (z : ∀ j, en x j = 0) (hb : b ≤ b') : PE n (R ++ [r]) b' (m + 1) F :=
  ⟨h.ue, fun e he => (h.fb e he).mono hb, fun y hy => by
    rcases List.mem_append.mp hy with hy | hy
    · exact h.to y hy
    · obtain rfl : y = r := by simpa using hy
      refine k.to.trans fun e he => ?_
      rcases List.mem_cons.mp he with rfl | he
      · exact .zero z
      · exact .row he, fun e he => (h.of e he).mono fun y hy => List.mem_append.mpr (.inl hy), by have := h.len; omega⟩
theorem PE.add {n : Nat} {R F : List V} {b m c : Nat} {r x s : V} {bx : Nat} (h : PE n R b m F) (k : RE' n F F bx r x) (pc : Piv n (en x) c) (hs : s = prim x ∨ s = ng (prim x)) (s0 : 0 < en s c) : PE n (R ++ [r]) (b + bx + 1) (m + 1) (F.map (fun e => clr e s c) ++ [s]) := by
  have sl : s.length = n := by rcases hs with rfl | rfl <;> simp [ng_len, prim_len, k.len]
  have sg : gc s ≤ 1 := by rcases hs with rfl | rfl <;> simp [gc_ng, gc_prim]
  have sb : Lt bx s := by
    rcases hs with rfl | rfl
    · exact prim_lt k.lt
    · exact lt_ng (prim_lt k.lt)
  have sz : ∀ j, en x j = 0 → en s j = 0 := fun j hj => by
    have := (prim_zero (v := x) j).mpr hj
    rcases hs with rfl | rfl
    · exact this
    · rw [en_ng, this]; rfl
  have ps : Piv n (en s) c := ⟨pc.1, by omega, fun q hq hlt => sz q (pc.2.2 q hq hlt)⟩
  have zs : ∀ e ∈ F, en s (pv n e) = 0 := fun e he => sz _ (k.zero e he)
  have qs : ∀ {G : List V}, Q G (en x) → Q G (en s) := fun {G} q => by
    obtain ⟨d, d0, hd⟩ := prim_of (v := x)
    have q1 : Q G (en (prim x)) := q.scale 1 d (by omega) fun j => by rw [hd j]; omega
    rcases hs with rfl | rfl
    · exact q1
    · exact q1.neg fun j => en_ng
  have qx : ∀ {G : List V}, Q G (en s) → Q G (en x) := fun {G} q => by
    obtain ⟨d, d0, hd⟩ := prim_of (v := x)
    have q1 : Q G (en (prim x)) := by
      rcases hs with rfl | rfl
      · exact q
      · exact q.neg fun j => by rw [en_ng]; omega
    exact q1.scale d 1 (by decide) fun j => by rw [hd j]; omega
  have hrow : Q (F.map (fun e => clr e s c) ++ [s]) (en s) := .row (by simp)
  have up : ∀ e ∈ F, Q (F.map (fun e => clr e s c) ++ [s]) (en e) := fun e he => clr_Q' (h.ue.row e he).len sl s0 (.row (List.mem_append.mpr (.inl (List.mem_map.mpr ⟨e, he, rfl⟩)))) hrow
  have hR : Q (R ++ [r]) (en s) := qs (k.of.trans fun e he => by
    rcases List.mem_cons.mp he with rfl | he
    · exact .row (by simp)
    · exact (h.of e he).mono fun y hy => List.mem_append.mpr (.inl hy))
  refine ⟨h.ue.add sl sg ps s0 zs, fun e he => ?_, fun y hy => ?_, fun e he => ?_, by have := h.len; simp; omega⟩
  · rcases List.mem_append.mp he with he | he
    · obtain ⟨y, hy, rfl⟩ := List.mem_map.mp he
      exact clr_lt (h.fb y hy) sb (by rw [(h.ue.row y hy).len, sl])
    · obtain rfl : e = s := by simpa using he
      exact sb.mono (by omega)
  · rcases List.mem_append.mp hy with hy | hy
    · exact (h.to y hy).trans up
    · obtain rfl : y = r := by simpa using hy
      refine k.to.trans fun e he => ?_
      rcases List.mem_cons.mp he with rfl | he
      · exact qx hrow
      · exact up e he
  · rcases List.mem_append.mp he with he | he
    · obtain ⟨y, hy, rfl⟩ := List.mem_map.mp he
      exact clr_Q (h.ue.row y hy).len sl s0 ((h.of y hy).mono fun y hy => List.mem_append.mpr (.inl hy)) hR
    · obtain rfl : e = s := by simpa using he
      exact hR
/-- sorted by the pivots -/
theorem UE.sort {n : Nat} {F : List V} (h : UE n F) : Ech n (sortBy (F.map fun e => (rk n (pv n e) : Int) - 1) F) ∧ (sortBy (F.map fun e => (rk n (pv n e) : Int) - 1) F).Perm F := by
  obtain ⟨p, s⟩ := sortBy_spec (f := fun e => (rk n (pv n e) : Int) - 1) h.nd fun a ha b hb e => h.inj ha hb (rk_inj (h.row a ha).piv.1 (h.row b hb).piv.1 (by have e : (rk n (pv n a) : Int) - 1 = (rk n (pv n b) : Int) - 1 := e; omega))
  exact ⟨⟨h.perm p, s.imp fun {a b} q => by have q : (rk n (pv n a) : Int) - 1 < (rk n (pv n b) : Int) - 1 := q; omega⟩, p⟩
end Lv
set_option Elab.async false
set_option linter.all false
set_option maxRecDepth 100000
/-! law k03, over the typed mirrors: the helpers -/
namespace Lw
open PySem PySem.Spec L2 Fx Ty Lv
theorem cell_spec (s : List Int) (k : Int) (h : 0 ≤ k) : W (m_law_cell s k) fun x => True := by
  unfold m_law_cell mb_law_cell
  simp only [W_bind, W_some, W_none, W_ite, W_sub, W_mul, W_fdiv, W_fdivZ, W_mod, W_pow, W_app, W_cat, W_len, W_rg1, W_rg2, W_rg3, W_seq, W_ret, W_retU, W_retX, W_retXU, W_bindX, W_retO, W_noX, W_try, W_eqI, W_neI, W_eqBo, W_neBo, W_set, W_rep, W_map, W_band, W_bor, eq_self, if_true, if_false, Bool.false_eq_true, decide_eq_true_eq, and_true, true_and]
  split
  · rename_i h1
    exact W_at h h1 fun _ => trivial
  · trivial
/-! ### gcd -/
def bits (n : Nat) : Nat := if n = 0 then 0 else n.log2 + 1
theorem bits_of (n : Nat) : Builtin.Int.intBits (n : Int) = bits n := by
  unfold Builtin.Int.intBits bits
  by_cases h : n = 0
  · subst h; rfl
  · simp [h]
theorem bits_mod {a b : Nat} (hb : 0 < b) (h : b ≤ a) : bits (a % b) + 1 ≤ bits a := by
  have ha : a ≠ 0 := by omega
  unfold bits
  rw [if_neg ha]
  by_cases hz : a % b = 0
  · rw [if_pos hz]; omega
  · rw [if_neg hz]
    have h2 : 2 * (a % b) ≤ a := by
      have h3 := Nat.mod_add_div a b
      have h4 := Nat.mod_lt a hb
      have h5 : 1 ≤ a / b := Nat.div_pos h hb
      have h6 : b * 1 ≤ b * (a / b) := Nat.mul_le_mul_left b h5
      omega
    have h3 : (a % b).log2 + 1 ≤ a.log2 := by
      rw [Nat.le_log2 ha, Nat.pow_succ]
      have := (Nat.le_log2 hz).mp (Nat.le_refl _)
      omega
    omega
theorem bits_le {n k : Nat} (h : n < 2 ^ k) : bits n ≤ k := by
  unfold bits
  split
  · omega
  · rename_i h0
    have := (Nat.log2_lt h0).mpr h
    omega
theorem gcd_spec {k : Nat} (a b : Int) (ha : a.natAbs < 2 ^ k) (hb : b.natAbs < 2 ^ k) (hk : k ≤ 100000000) : W (m_law_gcd a b) fun r => r = (Nat.gcd a.natAbs b.natAbs : Nat) := by
  unfold m_law_gcd mb_law_gcd
  have h1 := bits_le ha
  have h2 := bits_le hb
  simp only [W_bind, W_some, W_none, W_ite, W_sub, W_mul, W_fdiv, W_fdivZ, W_mod, W_pow, W_app, W_cat, W_len, W_rg1, W_rg2, W_rg3, W_seq, W_ret, W_retU, W_retX, W_retXU, W_bindX, W_retO, W_noX, W_try, W_eqI, W_neI, W_eqBo, W_neBo, W_set, W_rep, W_map, W_band, W_bor, eq_self, if_true, if_false, Bool.false_eq_true, decide_eq_true_eq, and_true, true_and, bits_of]
  refine ⟨sm62 (by omega) (by omega), ?_⟩
  refine W_for (fun i st => ∃ x y : Nat, st = ((x : Int), (y : Int)) ∧ Nat.gcd x y = Nat.gcd a.natAbs b.natAbs ∧ (if y ≤ x then bits x + bits y + 1 else bits x + bits y + 2) + i ≤ bits a.natAbs + bits b.natAbs + 4) ⟨a.natAbs, b.natAbs, rfl, rfl, by split <;> omega⟩ (fun i hi st I => ?_) fun st I => ?_
  · obtain ⟨x, y, rfl, h3, h4⟩ := I
    simp only [W_bind, W_some, W_none, W_ite, W_sub, W_mul, W_fdiv, W_fdivZ, W_mod, W_pow, W_app, W_cat, W_len, W_rg1, W_rg2, W_rg3, W_seq, W_ret, W_retU, W_retX, W_retXU, W_bindX, W_retO, W_noX, W_try, W_eqI, W_neI, W_eqBo, W_neBo, W_set, W_rep, W_map, W_band, W_bor, eq_self, if_true, if_false, Bool.false_eq_true, decide_eq_true_eq, and_true, true_and]
    split
    · rename_i h5
      have : y = 0 := by simpa using h5
      subst this
      rw [← h3, Nat.gcd_zero_right]
    · rename_i h5
      have hy : y ≠ 0 := by simpa using h5
      refine ⟨by omega, y, x % y, ?_, ?_, ?_⟩
      · rw [Int.fmod_eq_emod_of_nonneg _ (by omega)]; rfl
      · rw [← h3, Nat.gcd_comm y, ← Nat.gcd_rec, Nat.gcd_comm]
      · have hlt := Nat.mod_lt x (show 0 < y by omega)
        rw [if_pos (by omega)]
        split at h4
        · have := bits_mod (a := x) (b := y) (by omega) (by assumption)
          omega
        · rw [Nat.mod_eq_of_lt (by omega)]
          omega
  · obtain ⟨x, y, rfl, h3, h4⟩ := I
    rw [rangeL_len] at h4
    exfalso
    split at h4 <;> omega
/-! ### the draws -/
theorem draws_spec (c : Int) (ms : List Int) (hm : ∀ m ∈ ms, 0 < m ∧ m < 1073741824) (hl : ms.length ≤ 1000) : W (m_law_draws c ms) fun l => l.length = ms.length ∧ ∀ i (h : i < l.length) (h' : i < ms.length), 0 ≤ l[i] ∧ l[i] < ms[i] := by
  unfold m_law_draws mb_law_draws
  simp only [W_bind, W_some, W_none, W_ite, W_sub, W_mul, W_fdiv, W_fdivZ, W_mod, W_pow, W_app, W_cat, W_len, W_rg1, W_rg2, W_rg3, W_seq, W_ret, W_retU, W_retX, W_retXU, W_bindX, W_retO, W_noX, W_try, W_eqI, W_neI, W_eqBo, W_neBo, W_set, W_rep, W_map, W_band, W_bor, eq_self, if_true, if_false, Bool.false_eq_true, decide_eq_true_eq, and_true, true_and]
  refine ⟨by omega, ?_⟩
  have body : ∀ (b : Bool), W (forT (α := Unit) (ρ := List Int) ms (fun (limit_ : Int) (s_ : (List Int) × Int × Int) => (((some b).bind fun a => if a = true then ((some s_.2.1).bind fun a => (some (1 : Int)).bind fun b => some (decide (b < a))) else some false).bind fun t => if t = true then (((some s_.2.1).bind fun a => (some limit_).bind fun b => modN a b).bind fun v => (appN s_.1 v).bind fun found_1 => (((some s_.2.1).bind fun a => (some limit_).bind fun b => fdivZ a b).bind fun rest_1 => (some (.nx (found_1, rest_1, s_.2.2))))) else (((((some s_.2.2).bind fun a => (some (48271 : Int)).bind fun b => mulN a b).bind fun a => (some (11 : Int)).bind fun b => some (a + b)).bind fun a => (some (2147483647 : Int)).bind fun b => modN a b).bind fun state_1 => (((((some state_1).bind fun a => (some (69621 : Int)).bind fun b => mulN a b).bind fun a => (some (7 : Int)).bind fun b => some (a + b)).bind fun a => (some (2147483647 : Int)).bind fun b => modN a b).bind fun state_2 => ((((some state_2).bind fun a => (some (13 : Int)).bind fun b => fdivZ a b).bind fun a => (some limit_).bind fun b => modN a b).bind fun v => (appN s_.1 v).bind fun found_2 => (some (.nx (found_2, s_.2.1, state_2)))))))) ([], (c.natAbs : Int), (c.natAbs : Int).fmod 2147483647)) fun o => match o with
    | .nx (st : List Int × Int × Int) => st.1.length = ms.length ∧ ∀ i (h : i < st.1.length) (h' : i < ms.length), (0 : Int) ≤ st.1[i] ∧ st.1[i] < ms[i]
    | _ => False := by
    intro b
    refine W_for (fun i (st : List Int × Int × Int) => st.1.length = i ∧ (∀ j (h : j < st.1.length) (h' : j < ms.length), (0 : Int) ≤ st.1[j] ∧ st.1[j] < ms[j]) ∧ 0 ≤ st.2.2 ∧ st.2.2 < 2147483647) ⟨rfl, by simp, (fmod_pos (by omega)).1, (fmod_pos (by omega)).2⟩ (fun i hi st I => ?_) fun st I => ⟨I.1, I.2.1⟩
    obtain ⟨i1, i2, i3, i4⟩ := I
    obtain ⟨m1, m2⟩ := hm _ (List.getElem_mem hi)
    have add : ∀ x : Int, 0 ≤ x → x < ms[i] → ∀ j (h : j < (st.1 ++ [x]).length) (h' : j < ms.length), 0 ≤ (st.1 ++ [x])[j] ∧ (st.1 ++ [x])[j] < ms[j] := fun x x0 x1 j h h' => by
      by_cases hj : j < st.1.length
      · rw [List.getElem_append_left hj]; exact i2 j hj h'
      · have : j = i := by simp at h; omega
        subst this
        rw [List.getElem_append_right (by omega)]
        simp [x0, x1]
    simp only [W_bind, W_some, W_none, W_ite, W_sub, W_mul, W_fdiv, W_fdivZ, W_mod, W_pow, W_app, W_cat, W_len, W_rg1, W_rg2, W_rg3, W_seq, W_ret, W_retU, W_retX, W_retXU, W_bindX, W_retO, W_noX, W_try, W_eqI, W_neI, W_eqBo, W_neBo, W_set, W_rep, W_map, W_band, W_bor, eq_self, if_true, if_false, Bool.false_eq_true, decide_eq_true_eq, and_true, true_and]
    have r1 : 0 ≤ (st.2.2 * 48271 + 11).fmod 2147483647 ∧ (st.2.2 * 48271 + 11).fmod 2147483647 < 2147483647 := fmod_pos (by omega)
    generalize (st.2.2 * 48271 + 11).fmod 2147483647 = r at r1 ⊢
    have r2 : 0 ≤ (r * 69621 + 7).fmod 2147483647 ∧ (r * 69621 + 7).fmod 2147483647 < 2147483647 := fmod_pos (by omega)
    generalize (r * 69621 + 7).fmod 2147483647 = q at r2 ⊢
    have t2 : mulOk st.2.2 48271 = true ∧ (2147483647 : Int) ≠ 0 ∧ mulOk r 69621 = true ∧ (2147483647 : Int) ≠ 0 ∧ (13 : Int) ≠ 0 ∧ ms[i] ≠ 0 ∧ st.1.length ≤ 1000000 ∧ ((st.1 ++ [(q.fdiv 13).fmod ms[i]]).length = i + 1 ∧ (∀ j (h : j < (st.1 ++ [(q.fdiv 13).fmod ms[i]]).length) (h' : j < ms.length), (0 : Int) ≤ (st.1 ++ [(q.fdiv 13).fmod ms[i]])[j] ∧ (st.1 ++ [(q.fdiv 13).fmod ms[i]])[j] < ms[j]) ∧ 0 ≤ q ∧ q < 2147483647) :=
      ⟨mul_64 (by omega) (by omega), by omega, mul_64 (by omega) (by omega), by omega, by omega, by omega, by omega, by simp [i1], add _ (fmod_pos m1).1 (fmod_pos m1).2, r2.1, r2.2⟩
    cases b with
    | true =>
      simp only [if_true]
      split
      · exact ⟨by omega, by omega, by omega, by simp [i1], add _ (fmod_pos m1).1 (fmod_pos m1).2, i3, i4⟩
      · exact t2
    | false =>
      simp only [Bool.false_eq_true, if_false]
      exact t2
  split
  · refine W_mono (body true) fun o q => ?_
    cases o with
    | nx st => exact q
    | _ => exact q.elim
  · refine ⟨pow_ok (by omega) (by omega) (by omega), W_mono (body _) fun o q => ?_⟩
    cases o with
    | nx st => exact q
    | _ => exact q.elim
/-! ### vectors -/
theorem mem_take {α : Type} {x : α} : ∀ {l : List α} {i : Nat} (h : i < l.length), x ∈ l.take (i + 1) → x ∈ l.take i ∨ x = l[i]
  | [], i, h, _ => by simp at h
  | a :: l, 0, _, hx => by simp at hx; exact .inr (by simpa using hx)
  | a :: l, i + 1, h, hx => by
    rw [List.take_succ_cons] at hx
    rw [List.take_succ_cons]
    rcases List.mem_cons.mp hx with rfl | hx
    · exact .inl (by simp)
    · rcases mem_take (by simpa using h) hx with q | q
      · exact .inl (by simp [q])
      · exact .inr (by simpa using q)
def gst (b v : Int) : Int := (Nat.gcd b.natAbs v.natAbs : Nat)
theorem gst_fold : ∀ (l : List Int) (g : Nat), l.foldl gst (g : Int) = (gcF g l : Nat)
  | [], g => rfl
  | x :: l, g => by
    show l.foldl gst (gst g x) = _
    have e : gst (g : Int) x = (Nat.gcd g x.natAbs : Nat) := by simp [gst]
    rw [e, gst_fold l]; rfl
theorem lprim_spec {k : Nat} {v : List Int} (h : Lt k v) (hk : k ≤ 100000000) (hl : v.length ≤ 1000000) : W (m_law_primitive v) fun r => r = prim v := by
  unfold m_law_primitive mb_law_primitive
  simp only [W_bind, W_some, W_none, W_ite, W_sub, W_mul, W_fdiv, W_fdivZ, W_mod, W_pow, W_app, W_cat, W_len, W_rg1, W_rg2, W_rg3, W_seq, W_ret, W_retU, W_retX, W_retXU, W_bindX, W_retO, W_noX, W_try, W_eqI, W_neI, W_eqBo, W_neBo, W_set, W_rep, W_map, W_band, W_bor, eq_self, if_true, if_false, Bool.false_eq_true, decide_eq_true_eq, and_true, true_and]
  refine W_forF gst (fun b => b.natAbs < 2 ^ k) (Nat.two_pow_pos k) (fun x hx b hb => ⟨?_, ?_⟩) fun hb => ?_
  · show ((Nat.gcd b.natAbs x.natAbs : Nat) : Int).natAbs < 2 ^ k
    by_cases z : b.natAbs = 0
    · rw [z, Nat.gcd_zero_left]; exact h x hx
    · have := Nat.gcd_le_left x.natAbs (show 0 < b.natAbs by omega)
      have hb : b.natAbs < 2 ^ k := hb
      omega
  · simp only [W_bind, W_some, W_none, W_ite, W_sub, W_mul, W_fdiv, W_fdivZ, W_mod, W_pow, W_app, W_cat, W_len, W_rg1, W_rg2, W_rg3, W_seq, W_ret, W_retU, W_retX, W_retXU, W_bindX, W_retO, W_noX, W_try, W_eqI, W_neI, W_eqBo, W_neBo, W_set, W_rep, W_map, W_band, W_bor, eq_self, if_true, if_false, Bool.false_eq_true, decide_eq_true_eq, and_true, true_and]
    refine W_mono (gcd_spec b x hb (h x hx) hk) fun r e => ?_
    subst e; rfl
  · have e : v.foldl gst 0 = (gc v : Nat) := gst_fold v 0
    rw [e]
    dsimp only
    split
    · rename_i z
      have z : gc v = 0 := by simpa using z
      unfold prim; rw [if_pos z]
    · rename_i z
      have z : gc v ≠ 0 := by simpa using z
      refine ⟨hl, W_mapF (fun x => x.fdiv (gc v)) (fun x hx => by simp only [W_bind, W_some, W_none, W_ite, W_sub, W_mul, W_fdiv, W_fdivZ, W_mod, W_pow, W_app, W_cat, W_len, W_rg1, W_rg2, W_rg3, W_seq, W_ret, W_retU, W_retX, W_retXU, W_bindX, W_retO, W_noX, W_try, W_eqI, W_neI, W_eqBo, W_neBo, W_set, W_rep, W_map, W_band, W_bor, eq_self, if_true, if_false, Bool.false_eq_true, decide_eq_true_eq, and_true, true_and]; omega) ?_⟩
      unfold prim; rw [if_neg z]
theorem cd_spec (v : List Int) : W (m_common_divisor v) fun r => r = (gc v : Nat) := by
  unfold m_common_divisor mb_common_divisor
  simp only [W_bind, W_some, W_none, W_ite, W_sub, W_mul, W_fdiv, W_fdivZ, W_mod, W_pow, W_app, W_cat, W_len, W_rg1, W_rg2, W_rg3, W_seq, W_ret, W_retU, W_retX, W_retXU, W_bindX, W_retO, W_noX, W_try, W_eqI, W_neI, W_eqBo, W_neBo, W_set, W_rep, W_map, W_band, W_bor, eq_self, if_true, if_false, Bool.false_eq_true, decide_eq_true_eq, and_true, true_and]
  refine W_forF gst (fun b => True) trivial (fun x hx b hb => ⟨trivial, ?_⟩) fun hb => ?_
  · simp only [W_bind, W_some, W_none, W_ite, W_sub, W_mul, W_fdiv, W_fdivZ, W_mod, W_pow, W_app, W_cat, W_len, W_rg1, W_rg2, W_rg3, W_seq, W_ret, W_retU, W_retX, W_retXU, W_bindX, W_retO, W_noX, W_try, W_eqI, W_neI, W_eqBo, W_neBo, W_set, W_rep, W_map, W_band, W_bor, eq_self, if_true, if_false, Bool.false_eq_true, decide_eq_true_eq, and_true, true_and]; rfl
  · exact gst_fold v 0
theorem prim_spec {v : List Int} (hl : v.length ≤ 1000000) : W (m_primitive v) fun r => r = prim v := by
  unfold m_primitive mb_primitive
  simp only [W_bind, W_some, W_none, W_ite, W_sub, W_mul, W_fdiv, W_fdivZ, W_mod, W_pow, W_app, W_cat, W_len, W_rg1, W_rg2, W_rg3, W_seq, W_ret, W_retU, W_retX, W_retXU, W_bindX, W_retO, W_noX, W_try, W_eqI, W_neI, W_eqBo, W_neBo, W_set, W_rep, W_map, W_band, W_bor, eq_self, if_true, if_false, Bool.false_eq_true, decide_eq_true_eq, and_true, true_and]
  refine W_mono (cd_spec v) fun d e => ?_
  subst e
  split
  · rename_i z; rw [prim_id (by omega)]
  · rename_i z
    refine ⟨hl, W_mapF (fun x => x.fdiv (gc v)) (fun x hx => by simp only [W_bind, W_some, W_none, W_ite, W_sub, W_mul, W_fdiv, W_fdivZ, W_mod, W_pow, W_app, W_cat, W_len, W_rg1, W_rg2, W_rg3, W_seq, W_ret, W_retU, W_retX, W_retXU, W_bindX, W_retO, W_noX, W_try, W_eqI, W_neI, W_eqBo, W_neBo, W_set, W_rep, W_map, W_band, W_bor, eq_self, if_true, if_false, Bool.false_eq_true, decide_eq_true_eq, and_true, true_and]; omega) ?_⟩
    unfold prim; rw [if_neg (by omega)]
theorem sum_spec {n k : Nat} {v w : List Int} {a b : Int} (hv : v.length = n) (hw : w.length = n) (hn : n ≤ 1000) (lv : Lt k v) (lw : Lt k w) (la : a.natAbs < 2 ^ k) (lb : b.natAbs < 2 ^ k) (hk : k ≤ 60000000) : W (m_law_sum a v b w) fun r => r = lc a v b w := by
  unfold m_law_sum mb_law_sum
  simp only [W_bind, W_some, W_none, W_ite, W_sub, W_mul, W_fdiv, W_fdivZ, W_mod, W_pow, W_app, W_cat, W_len, W_rg1, W_rg2, W_rg3, W_seq, W_ret, W_retU, W_retX, W_retXU, W_bindX, W_retO, W_noX, W_try, W_eqI, W_neI, W_eqBo, W_neBo, W_set, W_rep, W_map, W_band, W_bor, eq_self, if_true, if_false, Bool.false_eq_true, decide_eq_true_eq, and_true, true_and]
  refine ⟨sm62 (by omega) (by omega), by rw [rangeL_len]; omega, W_mapN (fun j x => x = a * en v j.toNat + b * en w j.toNat) (fun j hj => ?_) fun r hr hall => ?_⟩
  · obtain ⟨j0, j1⟩ := mem_rangeL.mp hj
    simp only [W_bind, W_some, W_none, W_ite, W_sub, W_mul, W_fdiv, W_fdivZ, W_mod, W_pow, W_app, W_cat, W_len, W_rg1, W_rg2, W_rg3, W_seq, W_ret, W_retU, W_retX, W_retXU, W_bindX, W_retO, W_noX, W_try, W_eqI, W_neI, W_eqBo, W_neBo, W_set, W_rep, W_map, W_band, W_bor, eq_self, if_true, if_false, Bool.false_eq_true, decide_eq_true_eq, and_true, true_and]
    refine W_at j0 j1 fun h1 => ⟨mul_ok la (lv _ (List.getElem_mem _)) (by omega), W_at j0 (by omega) fun h2 => ⟨mul_ok lb (lw _ (List.getElem_mem _)) (by omega), ?_⟩⟩
    rw [en_of h1, en_of h2]
  · rw [rangeL_len] at hr
    refine en_ext (by rw [lc_len hv hw]; omega) fun j => ?_
    rw [en_lc (by rw [hv, hw])]
    by_cases hj : j < n
    · have h1 : j < r.length := by omega
      have h2 : j < (rangeL 0 (v.length : Int)).length := by rw [rangeL_len]; omega
      have := hall j h2 h1
      rw [rangeL_get h2, en_of h1] at this
      rw [this]
      have e : (0 + (j : Int)).toNat = j := by omega
      rw [e]
    · rw [en_out (show r.length ≤ j by omega), en_out (show v.length ≤ j by omega), en_out (show w.length ≤ j by omega)]; simp
theorem comb_spec {n k : Nat} {v w : List Int} {a b : Int} (hv : v.length = n) (hw : w.length = n) (hn : n ≤ 1000) (lv : Lt k v) (lw : Lt k w) (la : a.natAbs < 2 ^ k) (lb : b.natAbs < 2 ^ k) (hk : k ≤ 60000000) : W (m_combined a v b w) fun r => r = lc a v b w := by
  unfold m_combined mb_combined
  simp only [W_bind, W_some, W_none, W_ite, W_sub, W_mul, W_fdiv, W_fdivZ, W_mod, W_pow, W_app, W_cat, W_len, W_rg1, W_rg2, W_rg3, W_seq, W_ret, W_retU, W_retX, W_retXU, W_bindX, W_retO, W_noX, W_try, W_eqI, W_neI, W_eqBo, W_neBo, W_set, W_rep, W_map, W_band, W_bor, eq_self, if_true, if_false, Bool.false_eq_true, decide_eq_true_eq, and_true, true_and]
  refine ⟨by simp [zipN]; omega, W_mapF (fun p : T2 Int Int => a * p.a + b * p.b) (fun p hp => ?_) ?_⟩
  · simp only [zipN, List.mem_map] at hp
    obtain ⟨q, hq, rfl⟩ := hp
    obtain ⟨q1, q2⟩ := List.of_mem_zip hq
    simp only [W_bind, W_some, W_none, W_ite, W_sub, W_mul, W_fdiv, W_fdivZ, W_mod, W_pow, W_app, W_cat, W_len, W_rg1, W_rg2, W_rg3, W_seq, W_ret, W_retU, W_retX, W_retXU, W_bindX, W_retO, W_noX, W_try, W_eqI, W_neI, W_eqBo, W_neBo, W_set, W_rep, W_map, W_band, W_bor, eq_self, if_true, if_false, Bool.false_eq_true, decide_eq_true_eq, and_true, true_and]
    exact ⟨mul_ok la (lv _ q1) (by omega), mul_ok lb (lw _ q2) (by omega)⟩
  · unfold lc zipN
    rw [List.map_map, List.zip, List.map_zipWith]; rfl
theorem pivot_spec {n : Nat} {v : List Int} (hv : v.length = n) (hn : n ≤ 1000) : W (m_pivot_of v) fun r => (∃ p : Nat, r = some (p : Int) ∧ Piv n (en v) p) ∨ (r = none ∧ ∀ j, en v j = 0) := by
  unfold m_pivot_of mb_pivot_of
  simp only [W_bind, W_some, W_none, W_ite, W_sub, W_mul, W_fdiv, W_fdivZ, W_mod, W_pow, W_app, W_cat, W_len, W_rg1, W_rg2, W_rg3, W_seq, W_ret, W_retU, W_retX, W_retXU, W_bindX, W_retO, W_noX, W_try, W_eqI, W_neI, W_eqBo, W_neBo, W_set, W_rep, W_map, W_band, W_bor, eq_self, if_true, if_false, Bool.false_eq_true, decide_eq_true_eq, and_true, true_and]
  refine ⟨⟨sm62 (by omega) (by omega), sm62 (by omega) (by omega)⟩, ?_⟩
  refine W_for (fun i st => ∀ q, 1 ≤ q → q ≤ i → en v q = 0) (fun q h1 h2 => by omega) (fun i hi st I => ?_) fun st I => ?_
  · rw [rangeL_len] at hi
    rw [rangeL_get]
    simp only [W_bind, W_some, W_none, W_ite, W_sub, W_mul, W_fdiv, W_fdivZ, W_mod, W_pow, W_app, W_cat, W_len, W_rg1, W_rg2, W_rg3, W_seq, W_ret, W_retU, W_retX, W_retXU, W_bindX, W_retO, W_noX, W_try, W_eqI, W_neI, W_eqBo, W_neBo, W_set, W_rep, W_map, W_band, W_bor, eq_self, if_true, if_false, Bool.false_eq_true, decide_eq_true_eq, and_true, true_and]
    have hi2 : i + 1 < v.length := by omega
    refine (W_ix (i + 1) (by omega) hi2 ?_).2
    rw [en_of hi2]
    split
    · rename_i z
      have z : en v (i + 1) ≠ 0 := by simpa using z
      refine .inl ⟨i + 1, by congr 1; omega, by omega, z, fun q hq hlt => ?_⟩
      unfold rk at hlt
      rw [if_neg (show i + 1 ≠ 0 by omega)] at hlt
      split at hlt
      · omega
      · exact I q (by omega) (by omega)
    · rename_i z
      have z : en v (i + 1) = 0 := by simpa using z
      intro q h1 h2
      by_cases hq : q = i + 1
      · rw [hq]; exact z
      · exact I q h1 (by omega)
  · rw [rangeL_len] at I
    have all : ∀ q, 1 ≤ q → en v q = 0 := fun q hq => by
      by_cases hqn : q < n
      · exact I q hq (by omega)
      · exact en_out (by omega)
    have fin : en v 0 = 0 → ∀ j, en v j = 0 := fun z j => by
      by_cases hj : j = 0
      · rw [hj]; exact z
      · exact all j (by omega)
    dsimp only
    split
    · rename_i h0
      refine W_atN (n := 0) (by omega) ?_
      rw [en_of (by omega)]
      split
      · rename_i z
        have z : en v 0 ≠ 0 := by simpa using z
        exact .inl ⟨0, rfl, by omega, z, fun q hq hlt => all q (by
          by_cases h1 : q = 0
          · subst h1; omega
          · omega)⟩
      · rename_i z
        have z : en v 0 = 0 := by simpa using z
        first | exact .inr ⟨rfl, fin z⟩ | exact fin z | simpa using fin z
    · rename_i h0
      first | exact .inr ⟨rfl, fin (en_out (by omega))⟩ | exact fin (en_out (by omega)) | simpa using fin (en_out (by omega))
theorem pivot_row {n : Nat} {e : List Int} (h : Row n e) (hn : n ≤ 1000) : W (m_pivot_of e) fun r => r = some (pv n e : Int) := W_mono (pivot_spec h.len hn) fun r q => by
  rcases q with ⟨p, rfl, hp⟩ | ⟨_, z⟩
  · rw [hp.pv]
  · have := h.pos
    rw [z] at this
    omega
theorem lpivot_row {n : Nat} {e : List Int} (h : Row n e) (hn : n ≤ 1000) : W (m_law_pivot e) fun r => r = some (pv n e : Int) := pivot_row h hn
theorem cleared_spec {n k p : Nat} {v e : List Int} (hv : v.length = n) (he : e.length = n) (hp : p < n) (hn : n ≤ 1000) (lv : Lt k v) (le : Lt k e) (hk : k ≤ 60000000) : W (m_cleared v e (p : Int)) fun r => r = clr v e p := by
  have pv1 : p < v.length := by omega
  have pe1 : p < e.length := by omega
  unfold m_cleared mb_cleared
  simp only [W_bind, W_some, W_none, W_ite, W_sub, W_mul, W_fdiv, W_fdivZ, W_mod, W_pow, W_app, W_cat, W_len, W_rg1, W_rg2, W_rg3, W_seq, W_ret, W_retU, W_retX, W_retXU, W_bindX, W_retO, W_noX, W_try, W_eqI, W_neI, W_eqBo, W_neBo, W_set, W_rep, W_map, W_band, W_bor, eq_self, if_true, if_false, Bool.false_eq_true, decide_eq_true_eq, and_true, true_and]
  refine W_atN pv1 ?_
  rw [en_of pv1]
  split
  · rename_i z
    have z : en v p = 0 := by simpa using z
    unfold clr; rw [if_pos z]
  · rename_i z
    have z : en v p ≠ 0 := by simpa using z
    refine W_atN pe1 (W_atN pv1 ?_)
    rw [en_of pv1, en_of pe1]
    refine W_mono (comb_spec hv he hn lv le (en_lt le p) (by rw [Int.natAbs_neg]; exact en_lt lv p) hk) fun r e1 => ?_
    subst e1
    refine W_mono (prim_spec (by rw [lc_len hv he]; omega)) fun r e1 => ?_
    subst e1
    unfold clr; rw [if_neg z]
theorem bd_le {i m c : Nat} (h : i ≤ m) : i * c ≤ m * c := Nat.mul_le_mul_right c h
theorem reduced_spec {n a b m : Nat} {v : List Int} {F : List (List Int)} (ue : UE n F) (hv : v.length = n) (hn : n ≤ 1000) (lv : Lt a v) (lF : ∀ e ∈ F, Lt b e) (hm : F.length ≤ m) (hk : a + m * (b + 1) + b ≤ 60000000) : W (m_reduced v F) fun r => Red n F v r ∧ Lt (a + m * (b + 1)) r := by
  unfold m_reduced mb_reduced
  simp only [W_bind, W_some, W_none, W_ite, W_sub, W_mul, W_fdiv, W_fdivZ, W_mod, W_pow, W_app, W_cat, W_len, W_rg1, W_rg2, W_rg3, W_seq, W_ret, W_retU, W_retX, W_retXU, W_bindX, W_retO, W_noX, W_try, W_eqI, W_neI, W_eqBo, W_neBo, W_set, W_rep, W_map, W_band, W_bor, eq_self, if_true, if_false, Bool.false_eq_true, decide_eq_true_eq, and_true, true_and]
  refine W_mono (prim_spec (by omega)) fun r e1 => ?_
  subst e1
  refine W_for (fun i st => st.length = n ∧ gc st ≤ 1 ∧ Lt (a + i * (b + 1)) st ∧ (∀ e ∈ F.take i, en st (pv n e) = 0) ∧ From F st v) ⟨by rw [prim_len, hv], gc_prim, by rw [Nat.zero_mul]; exact prim_lt lv, by simp, From.refl.prim⟩ (fun i hi st I => ?_) fun st I => ?_
  · obtain ⟨i1, i2, i3, i4, i5⟩ := I
    have me := List.getElem_mem hi
    have re := ue.row _ me
    have le := lF _ me
    simp only [W_bind, W_some, W_none, W_ite, W_sub, W_mul, W_fdiv, W_fdivZ, W_mod, W_pow, W_app, W_cat, W_len, W_rg1, W_rg2, W_rg3, W_seq, W_ret, W_retU, W_retX, W_retXU, W_bindX, W_retO, W_noX, W_try, W_eqI, W_neI, W_eqBo, W_neBo, W_set, W_rep, W_map, W_band, W_bor, eq_self, if_true, if_false, Bool.false_eq_true, decide_eq_true_eq, and_true, true_and]
    have q1 := bd_le (c := b + 1) (show i ≤ m by omega)
    refine W_mono (pivot_row re hn) fun r e1 => ?_
    subst e1
    simp only [W_bind, W_some, W_none, W_ite, W_sub, W_mul, W_fdiv, W_fdivZ, W_mod, W_pow, W_app, W_cat, W_len, W_rg1, W_rg2, W_rg3, W_seq, W_ret, W_retU, W_retX, W_retXU, W_bindX, W_retO, W_noX, W_try, W_eqI, W_neI, W_eqBo, W_neBo, W_set, W_rep, W_map, W_band, W_bor, eq_self, if_true, if_false, Bool.false_eq_true, decide_eq_true_eq, and_true, true_and]
    refine W_mono (cleared_spec (k := a + m * (b + 1) + b) i1 re.len re.piv.1 hn (i3.mono (by omega)) (le.mono (by omega)) hk : W (mM_cleared st F[i] (pv n F[i] : Int)) _) fun r e1 => ?_
    subst e1
    refine ⟨clr_len i1 re.len, clr_gc i2, (clr_lt i3 le (by rw [i1, re.len])).mono (by rw [Nat.succ_mul]; omega), fun x hx => ?_, i5.clr me i1 re.len re.pos⟩
    rcases mem_take hi hx with hx | rfl
    · by_cases hxe : x = F[i]
      · rw [hxe]; exact clr_at i1 re.len
      · exact clr_zero i1 re.len re.pos (ue.off _ me x (List.mem_of_mem_take hx) fun q => hxe q.symm) (i4 x hx)
    · exact clr_at i1 re.len
  · obtain ⟨i1, i2, i3, i4, i5⟩ := I
    rw [List.take_length] at i4
    have q1 := bd_le (c := b + 1) hm
    exact ⟨⟨i1, i2, i4, i5⟩, i3.mono (by omega)⟩
theorem W_bor {μ ν α ρ : Type} {m : Option (TO μ α ρ)} {k : μ → Option (TO ν α ρ)} {Q : TO ν α ρ → Prop} (h : W m fun o => match o with
    | .nx b => W (k b) Q
    | .ret r => Q (.ret r)
    | _ => False) : W (seqT (borT m) k) Q := by
  rw [W_seq, W_borT]
  refine W_mono h fun o q => ?_
  cases o with
  | nx b => exact q
  | ret r => exact q
  | _ => exact q.elim
theorem W_borJ {μ ν α ρ : Type} {m : Option (TO μ α ρ)} {k : μ → Option (TO ν α ρ)} {Q : TO ν α ρ → Prop} (P : μ → Prop) (h : W m fun o => ∃ b, o = .nx b ∧ P b) (hk : ∀ b, P b → W (k b) Q) : W (seqT (borT m) k) Q :=
  W_bor (W_mono h fun o q => by
    obtain ⟨b, rfl, p⟩ := q
    exact hk b p)
end Lw
set_option Elab.async false
set_option linter.all false
set_option maxRecDepth 100000
set_option maxHeartbeats 1000000
/-! law k03, over the typed mirrors: echelon forms -/
namespace Lw
open PySem PySem.Spec L2 Fx Ty Lv
def BD (k : Nat) : Nat → Nat
  | 0 => k
  | i + 1 => 2 * BD k i + 1
theorem BD_mono {k : Nat} : ∀ {i n : Nat}, i ≤ n → BD k i ≤ BD k n
  | i, 0, h => by have : i = 0 := by omega
                  subst this; exact Nat.le_refl _
  | i, n + 1, h => by
    by_cases hi : i = n + 1
    · subst hi; exact Nat.le_refl _
    · have := BD_mono (k := k) (i := i) (n := n) (by omega)
      show _ ≤ 2 * BD k n + 1
      omega
theorem cut_take {l : List (List Int)} {k : Nat} : cutN l none (some (k : Int)) = l.take k := by
  unfold cutN
  rw [HT.sIx_none, HT.sIx_nat]
  simp [List.take_eq_take_iff]
theorem cut_drop {l : List (List Int)} {k : Nat} : cutN l (some ((k : Int) + 1)) none = l.drop (k + 1) := by
  unfold cutN
  have e : ((k : Int) + 1) = ((k + 1 : Nat) : Int) := by omega
  rw [e, HT.sIx_none, HT.sIx_nat]
  by_cases h : k + 1 ≤ l.length
  · rw [Nat.min_eq_left h, List.take_of_length_le (by simp)]
  · rw [Nat.min_eq_right (by omega), List.drop_of_length_le (by omega), List.drop_of_length_le (by omega)]; simp
theorem perm_at {α : Type} : ∀ {l : List α} {k : Nat} (h : k < l.length), l.Perm (l[k] :: (l.take k ++ l.drop (k + 1)))
  | [], k, h => by simp at h
  | a :: l, 0, h => by simp
  | a :: l, k + 1, h => by
    have hk : k < l.length := by simpa using h
    have ih := perm_at hk
    have e : (a :: l)[k + 1] = l[k] := by simp
    rw [e, List.take_succ_cons, List.drop_succ_cons]
    exact (ih.cons a).trans (.swap _ _ _)
theorem mem_cut {α : Type} {l : List α} {k : Nat} {x : α} (h : x ∈ l.take k ++ l.drop (k + 1)) : x ∈ l := by
  rcases List.mem_append.mp h with h | h
  · exact List.mem_of_mem_take h
  · exact List.mem_of_mem_drop h
/-- the columns in order -/
theorem cols_at {n i : Nat} (hn : 1 ≤ n) (h : i < (rangeL 1 (n : Int) ++ [0]).length) : ∃ c : Nat, (rangeL 1 (n : Int) ++ [0])[i] = (c : Int) ∧ c < n ∧ rk n c = i + 1 := by
  have hl : (rangeL 1 (n : Int)).length = n - 1 := by rw [rangeL_len]; omega
  rw [List.length_append, hl] at h
  simp only [List.length_singleton] at h
  by_cases hi : i < n - 1
  · refine ⟨i + 1, ?_, by omega, by unfold rk; rw [if_neg (by omega)]⟩
    rw [List.getElem_append_left (by omega), rangeL_get]
    omega
  · refine ⟨0, ?_, by omega, by unfold rk; rw [if_pos rfl]; omega⟩
    rw [List.getElem_append_right (by omega)]
    simp
theorem mapNeg_spec {v : List Int} {Q : List Int → Prop} (q : Q (ng v)) : W (mapN v fun item_ : Int => ((some item_).bind fun a => some (-a))) Q := W_mapF (fun x => -x) (fun x _ => by simp only [W_bind, W_some, W_none, W_ite, W_sub, W_mul, W_fdiv, W_fdivZ, W_mod, W_pow, W_app, W_cat, W_len, W_rg1, W_rg2, W_rg3, W_seq, W_ret, W_retU, W_retX, W_retXU, W_bindX, W_retO, W_noX, W_try, W_eqI, W_neI, W_eqBo, W_neBo, W_set, W_rep, W_map, W_band, W_bor, eq_self, if_true, if_false, Bool.false_eq_true, decide_eq_true_eq, and_true, true_and]) q
theorem lech_spec {n k : Nat} {R : List (List Int)} (hn : 1 ≤ n) (hn2 : n ≤ 20) (hR : ∀ r ∈ R, r.length = n ∧ Lt k r) (hm : R.length ≤ 63) (hk : BD k n ≤ 30000000) :
    W (m_law_echelon R) fun E => Ech n E ∧ (∀ r ∈ R, Lv.Q E (en r)) ∧ (∀ e ∈ E, Lv.Q R (en e)) ∧ (∀ e ∈ E, Lt (BD k n) e) ∧ E.length ≤ R.length := by
  have k0 : k ≤ BD k n := BD_mono (k := k) (i := 0) (by omega)
  unfold m_law_echelon mb_law_echelon
  simp only [W_bind, W_some, W_none, W_ite, W_sub, W_mul, W_fdiv, W_fdivZ, W_mod, W_pow, W_app, W_cat, W_len, W_rg1, W_rg2, W_rg3, W_ret, W_retU, W_retX, W_retXU, W_bindX, W_retO, W_noX, W_try, W_eqI, W_neI, W_eqBo, W_neBo, W_set, W_rep, W_map, W_band, W_bor, eq_self, if_true, if_false, Bool.false_eq_true, decide_eq_true_eq, and_true, true_and]
  refine ⟨by omega, W_mapF prim (fun r hr => lprim_spec (hR r hr).2 (by omega) (by have := (hR r hr).1; omega)) ?_⟩
  refine W_seqJ (fun cols => (R = [] ∧ cols = []) ∨ (R ≠ [] ∧ cols = rangeL 1 (n : Int) ++ [0])) ?_ fun cols hcols => ?_
  · simp only [W_bind, W_some, W_none, W_ite, W_sub, W_mul, W_fdiv, W_fdivZ, W_mod, W_pow, W_app, W_cat, W_len, W_rg1, W_rg2, W_rg3, W_ret, W_retU, W_retX, W_retXU, W_bindX, W_retO, W_noX, W_try, W_eqI, W_neI, W_eqBo, W_neBo, W_set, W_rep, W_map, W_band, W_bor, eq_self, if_true, if_false, Bool.false_eq_true, decide_eq_true_eq, and_true, true_and]
    split
    · rename_i h0
      have h0 : 0 < R.length := by omega
      refine W_atN (n := 0) h0 ?_
      rw [(hR _ (List.getElem_mem h0)).1]
      refine ⟨⟨sm62 (by omega) (by omega), sm62 (by omega) (by omega)⟩, by rw [rangeL_len]; omega, W_mapF (fun k => k) (fun _ _ => by simp only [W_bind, W_some, W_none, W_ite, W_sub, W_mul, W_fdiv, W_fdivZ, W_mod, W_pow, W_app, W_cat, W_len, W_rg1, W_rg2, W_rg3, W_seq, W_ret, W_retU, W_retX, W_retXU, W_bindX, W_retO, W_noX, W_try, W_eqI, W_neI, W_eqBo, W_neBo, W_set, W_rep, W_map, W_band, W_bor, eq_self, if_true, if_false, Bool.false_eq_true, decide_eq_true_eq, and_true, true_and]) ?_⟩
      simp only [List.map_id']
      refine ⟨by rw [rangeL_len]; simp; omega, _, rfl, .inr ⟨fun z => by rw [z] at h0; simp at h0, rfl⟩⟩
    · rename_i h0
      have : R = [] := List.eq_nil_of_length_eq_zero (by omega)
      exact ⟨_, rfl, .inl ⟨this, rfl⟩⟩
  rcases hcols with ⟨rfl, rfl⟩ | ⟨hne, rfl⟩
  · simp only [W_bind, W_some, W_none, W_ite, W_sub, W_mul, W_fdiv, W_fdivZ, W_mod, W_pow, W_app, W_cat, W_len, W_rg1, W_rg2, W_rg3, W_ret, W_retU, W_retX, W_retXU, W_bindX, W_retO, W_noX, W_try, W_eqI, W_neI, W_eqBo, W_neBo, W_set, W_rep, W_map, W_band, W_bor, eq_self, if_true, if_false, Bool.false_eq_true, decide_eq_true_eq, and_true, true_and]
    rw [W_seq]
    exact ⟨_, rfl, W_some.mpr ⟨⟨⟨by simp, by simp, by simp⟩, by simp⟩, by simp, by simp, by simp, by simp⟩⟩
  simp only [W_bind, W_some, W_none, W_ite, W_sub, W_mul, W_fdiv, W_fdivZ, W_mod, W_pow, W_app, W_cat, W_len, W_rg1, W_rg2, W_rg3, W_ret, W_retU, W_retX, W_retXU, W_bindX, W_retO, W_noX, W_try, W_eqI, W_neI, W_eqBo, W_neBo, W_set, W_rep, W_map, W_band, W_bor, eq_self, if_true, if_false, Bool.false_eq_true, decide_eq_true_eq, and_true, true_and]
  rw [W_seq]
  refine W_for (fun i (st : List (List Int) × List (List Int)) => LE n R i (BD k i) R.length st.1 st.2) ?_ (fun i hi st I => ?_) fun st I => ?_
  · refine ⟨⟨⟨by simp, by simp, by simp⟩, by simp⟩, by simp, fun v hv => ?_, fun r hr => ?_, fun e he => ?_, by simp⟩
    · obtain ⟨r, hr, rfl⟩ := List.mem_map.mp hv
      exact ⟨by rw [prim_len, (hR r hr).1], gc_prim, prim_lt (hR r hr).2, fun q hq hle => by have := (rk_pos hq).1; omega⟩
    · obtain ⟨d, d0, h⟩ := prim_of (v := r)
      exact Q.scale d 1 (.row (e := prim r) (List.mem_append.mpr (.inr (List.mem_map.mpr ⟨r, hr, rfl⟩)))) (by decide) fun j => by rw [h j]; omega
    · rw [List.nil_append] at he
      obtain ⟨r, hr, rfl⟩ := List.mem_map.mp he
      obtain ⟨d, d0, h⟩ := prim_of (v := r)
      exact Q.scale 1 d (.row hr) (by omega) fun j => by rw [h j]; omega
  · obtain ⟨c, hc, hcn, hrk⟩ := cols_at hn hi
    have hin : i + 1 ≤ n := by have := (rk_pos hcn).2; omega
    rw [hc]
    obtain ⟨F, L⟩ := st
    have I : LE n R i (BD k i) R.length F L := I
    have lenL := I.len
    have bdi : BD k (i + 1) ≤ BD k n := BD_mono hin
    have bdi : 2 * BD k i + 1 ≤ BD k n := bdi
    simp only [W_bind, W_some, W_none, W_ite, W_sub, W_mul, W_fdiv, W_fdivZ, W_mod, W_pow, W_app, W_cat, W_len, W_rg1, W_rg2, W_rg3, W_ret, W_retU, W_retX, W_retXU, W_bindX, W_retO, W_noX, W_try, W_eqI, W_neI, W_eqBo, W_neBo, W_set, W_rep, W_map, W_band, W_bor, eq_self, if_true, if_false, Bool.false_eq_true, decide_eq_true_eq, and_true, true_and]
    refine ⟨sm62 (by omega) (by omega), by rw [rangeL_len]; omega, ?_⟩
    refine W_compF (fun j => !(en (L.getD j.toNat []) c == 0)) (fun j => j) (fun j hj => ?_) (fun j _ _ => by simp only [W_bind, W_some, W_none, W_ite, W_sub, W_mul, W_fdiv, W_fdivZ, W_mod, W_pow, W_app, W_cat, W_len, W_rg1, W_rg2, W_rg3, W_seq, W_ret, W_retU, W_retX, W_retXU, W_bindX, W_retO, W_noX, W_try, W_eqI, W_neI, W_eqBo, W_neBo, W_set, W_rep, W_map, W_band, W_bor, eq_self, if_true, if_false, Bool.false_eq_true, decide_eq_true_eq, and_true, true_and]) ?_
    · obtain ⟨j0, j1⟩ := mem_rangeL.mp hj
      simp only [W_bind, W_some, W_none, W_ite, W_sub, W_mul, W_fdiv, W_fdivZ, W_mod, W_pow, W_app, W_cat, W_len, W_rg1, W_rg2, W_rg3, W_seq, W_ret, W_retU, W_retX, W_retXU, W_bindX, W_retO, W_noX, W_try, W_eqI, W_neI, W_eqBo, W_neBo, W_set, W_rep, W_map, W_band, W_bor, eq_self, if_true, if_false, Bool.false_eq_true, decide_eq_true_eq, and_true, true_and]
      refine W_at j0 j1 fun hj2 => ?_
      have hcl : c < L[j.toNat].length := by rw [(I.left _ (List.getElem_mem hj2)).1]; exact hcn
      refine W_atN hcl ?_
      rw [en_of hcl]
      simp [List.getD, hj2]
    simp only [List.map_id']
    generalize hch : (rangeL 0 (L.length : Int)).filter (fun j => !(en (L.getD j.toNat []) c == 0)) = ch
    split
    · rename_i hpos
      have hpos : 0 < ch.length := by omega
      have hmem : ch[0] ∈ ch := List.getElem_mem hpos
      obtain ⟨j, hj, hj2⟩ : ∃ j : Nat, ch[0] = (j : Int) ∧ j < L.length ∧ en (L.getD j []) c ≠ 0 := by
        generalize ch[0] = x at hmem
        rw [← hch, List.mem_filter] at hmem
        obtain ⟨h1, h2⟩ := hmem
        obtain ⟨x0, x1⟩ := mem_rangeL.mp h1
        refine ⟨x.toNat, by omega, by omega, by simpa using h2⟩
      obtain ⟨hjl, hnz⟩ := hj2
      have eL : L.getD j [] = L[j] := by simp [List.getD, hjl]
      rw [eL] at hnz
      have at0 : W (atI ch 0) fun x => x = (j : Int) := W_atN (n := 0) hpos hj
      obtain ⟨v1, v2, v3, v4⟩ := I.left _ (List.getElem_mem hjl)
      refine W_mono at0 fun x e1 => ?_
      subst e1
      refine W_atN hjl ?_
      refine W_seqJ (fun r => (r = L[j] ∨ r = ng L[j]) ∧ 0 < en r c) ?_ fun r hr => ?_
      · simp only [W_bind, W_some, W_none, W_ite, W_sub, W_mul, W_fdiv, W_fdivZ, W_mod, W_pow, W_app, W_cat, W_len, W_rg1, W_rg2, W_rg3, W_ret, W_retU, W_retX, W_retXU, W_bindX, W_retO, W_noX, W_try, W_eqI, W_neI, W_eqBo, W_neBo, W_set, W_rep, W_map, W_band, W_bor, eq_self, if_true, if_false, Bool.false_eq_true, decide_eq_true_eq, and_true, true_and]
        have hcl : c < L[j].length := by rw [v1]; exact hcn
        refine W_atN hcl ?_
        rw [en_of hcl]
        split
        · rename_i hneg
          refine ⟨by rw [v1]; omega, mapNeg_spec ?_⟩
          exact ⟨_, rfl, .inr rfl, by rw [en_ng]; omega⟩
        · rename_i hneg
          exact ⟨_, rfl, .inl rfl, by omega⟩
      obtain ⟨hrv, r0⟩ := hr
      have rl : r.length = n := by rcases hrv with rfl | rfl <;> simp [ng_len, v1]
      have rb : Lt (BD k i) r := by
        rcases hrv with rfl | rfl
        · exact v3
        · exact lt_ng v3
      have hcr : c < r.length := by rw [rl]; exact hcn
      simp only [W_bind, W_some, W_none, W_ite, W_sub, W_mul, W_fdiv, W_fdivZ, W_mod, W_pow, W_app, W_cat, W_len, W_rg1, W_rg2, W_rg3, W_ret, W_retU, W_retX, W_retXU, W_bindX, W_retO, W_noX, W_try, W_eqI, W_neI, W_eqBo, W_neBo, W_set, W_rep, W_map, W_band, W_bor, eq_self, if_true, if_false, Bool.false_eq_true, decide_eq_true_eq, and_true, true_and]
      refine W_mono at0 fun x e1 => ?_
      subst e1
      refine W_mono at0 fun x e1 => ?_
      subst e1
      rw [cut_take, cut_drop]
      have lcut : (L.take j ++ L.drop (j + 1)).length ≤ 63 := by
        have h := (perm_at hjl).length_eq
        simp only [List.length_cons] at h
        omega
      refine ⟨by rw [List.length_append] at lcut; omega, by omega, ?_⟩
      have cell : ∀ o : List Int, o.length = n → gc o ≤ 1 → Lt (BD k i) o → W (atI r (c : Int)) fun a => W (atI o (c : Int)) fun a_1 => W (m_law_sum a o (-a_1) r) fun a => W (m_law_primitive a) fun x => x = clr o r c := fun o o1 o2 o3 => by
        have hco : c < o.length := by rw [o1]; exact hcn
        refine W_atN hcr (W_atN hco ?_)
        rw [en_of hcr, en_of hco]
        refine W_mono (sum_spec o1 rl (by omega) o3 rb (en_lt rb c) (by rw [Int.natAbs_neg]; exact en_lt o3 c) (by omega)) fun s e1 => ?_
        subst e1
        refine W_mono (lprim_spec (lc_lt o3 rb (by rw [o1, rl]) (en_lt rb c) (by rw [Int.natAbs_neg]; exact en_lt o3 c)) (by omega) (by rw [lc_len o1 rl]; omega)) fun s e1 => ?_
        subst e1
        exact clr_law o1 rl r0 o2
      refine W_mapF (fun o => clr o r c) (fun o ho => ?_) ?_
      · obtain ⟨o1, o2, o3, _⟩ := I.left o (mem_cut ho)
        simp only [W_bind, W_some, W_none, W_ite, W_sub, W_mul, W_fdiv, W_fdivZ, W_mod, W_pow, W_app, W_cat, W_len, W_rg1, W_rg2, W_rg3, W_ret, W_retU, W_retX, W_retXU, W_bindX, W_retO, W_noX, W_try, W_eqI, W_neI, W_eqBo, W_neBo, W_set, W_rep, W_map, W_band, W_bor, eq_self, if_true, if_false, Bool.false_eq_true, decide_eq_true_eq, and_true, true_and]
        exact cell o o1 o2 o3
      refine ⟨by omega, W_mapF (fun o => clr o r c) (fun o ho => ?_) ?_⟩
      · have ro := I.ech.row o ho
        simp only [W_bind, W_some, W_none, W_ite, W_sub, W_mul, W_fdiv, W_fdivZ, W_mod, W_pow, W_app, W_cat, W_len, W_rg1, W_rg2, W_rg3, W_ret, W_retU, W_retX, W_retXU, W_bindX, W_retO, W_noX, W_try, W_eqI, W_neI, W_eqBo, W_neBo, W_set, W_rep, W_map, W_band, W_bor, eq_self, if_true, if_false, Bool.false_eq_true, decide_eq_true_eq, and_true, true_and]
        exact cell o ro.len ro.gc1 (I.fb o ho).1
      refine ⟨by simp; omega, ?_⟩
      exact I.take hcn hrk (perm_at hjl) hrv r0
    · rename_i hpos
      have hnil : ch = [] := List.eq_nil_of_length_eq_zero (by omega)
      rw [hnil, List.filter_eq_nil_iff] at hch
      refine I.skip hcn hrk fun v hv => ?_
      obtain ⟨j, hj, rfl⟩ := List.getElem_of_mem hv
      have := hch (j : Int) (mem_rangeL.mpr ⟨by omega, by omega⟩)
      simpa [List.getD, hj] using this
  · have I : LE n R (rangeL 1 (n : Int) ++ [0]).length (BD k (rangeL 1 (n : Int) ++ [0]).length) R.length st.1 st.2 := I
    have e : (rangeL 1 (n : Int) ++ [0]).length = n := by rw [List.length_append, rangeL_len]; simp; omega
    rw [e] at I
    exact W_some.mpr I.done
/-! the program's -/
def BE (k : Nat) : Nat → Nat
  | 0 => 0
  | i + 1 => BE k i + (k + i * (BE k i + 1)) + 1
theorem BE_mono {k : Nat} : ∀ {i n : Nat}, i ≤ n → BE k i ≤ BE k n
  | i, 0, h => by have : i = 0 := by omega
                  subst this; exact Nat.le_refl _
  | i, n + 1, h => by
    by_cases hi : i = n + 1
    · subst hi; exact Nat.le_refl _
    · have := BE_mono (k := k) (i := i) (n := n) (by omega)
      show _ ≤ BE k n + (k + n * (BE k n + 1)) + 1
      omega
theorem key_mod {n p : Nat} (hp : p < n) : ((p : Int) - 1).fmod (n : Int) = (rk n p : Int) - 1 := by
  rw [Int.fmod_eq_emod_of_nonneg _ (by omega)]
  unfold rk
  split
  · rename_i h; subst h
    have e : ((0 : Nat) : Int) - 1 = ((n : Int) - 1) + (n : Int) * (-1) := by omega
    rw [e, Int.add_mul_emod_self_left, Int.emod_eq_of_lt (by omega) (by omega)]
  · rw [Int.emod_eq_of_lt (by omega) (by omega)]
theorem ech_spec {n k : Nat} {R : List (List Int)} (hn : 1 ≤ n) (hn2 : n ≤ 1000) (hR : ∀ r ∈ R, r.length = n ∧ Lt k r) (hm : R.length ≤ 63) (hk : BE k (R.length + 1) ≤ 50000000) :
    W (m_echelon R) fun E => Ech n E ∧ (∀ r ∈ R, Lv.Q E (en r)) ∧ (∀ e ∈ E, Lv.Q R (en e)) ∧ (∀ e ∈ E, Lt (BE k R.length) e) ∧ E.length ≤ R.length := by
  unfold m_echelon mb_echelon
  simp only [W_bind, W_some, W_none, W_ite, W_sub, W_mul, W_fdiv, W_fdivZ, W_mod, W_pow, W_app, W_cat, W_len, W_rg1, W_rg2, W_rg3, W_ret, W_retU, W_retX, W_retXU, W_bindX, W_retO, W_noX, W_try, W_eqI, W_neI, W_eqBo, W_neBo, W_set, W_rep, W_map, W_band, W_bor, eq_self, if_true, if_false, Bool.false_eq_true, decide_eq_true_eq, and_true, true_and]
  rw [W_seq]
  refine W_for (fun i (F : List (List Int)) => PE n (R.take i) (BE k i) i F) ?_ (fun i hi F I => ?_) fun F I => ?_
  · exact ⟨⟨by simp, by simp, by simp⟩, by simp, by simp, by simp, by simp⟩
  · obtain ⟨r1, r2⟩ := hR _ (List.getElem_mem hi)
    have b1 : BE k (i + 1) ≤ BE k (R.length + 1) := BE_mono (by omega)
    have b1 : BE k i + (k + i * (BE k i + 1)) + 1 ≤ BE k (R.length + 1) := b1
    have lF := I.len
    simp only [W_bind, W_some, W_none, W_ite, W_sub, W_mul, W_fdiv, W_fdivZ, W_mod, W_pow, W_app, W_cat, W_len, W_rg1, W_rg2, W_rg3, W_ret, W_retU, W_retX, W_retXU, W_bindX, W_retO, W_noX, W_try, W_eqI, W_neI, W_eqBo, W_neBo, W_set, W_rep, W_map, W_band, W_bor, eq_self, if_true, if_false, Bool.false_eq_true, decide_eq_true_eq, and_true, true_and]
    refine W_bor ?_
    simp only [W_bind, W_some, W_none, W_ite, W_sub, W_mul, W_fdiv, W_fdivZ, W_mod, W_pow, W_app, W_cat, W_len, W_rg1, W_rg2, W_rg3, W_ret, W_retU, W_retX, W_retXU, W_bindX, W_retO, W_noX, W_try, W_eqI, W_neI, W_eqBo, W_neBo, W_set, W_rep, W_map, W_band, W_bor, eq_self, if_true, if_false, Bool.false_eq_true, decide_eq_true_eq, and_true, true_and]
    rw [W_seq]
    refine W_for (fun j x => RE' n F (F.take j) (k + j * (BE k i + 1)) R[i] x) ?_ (fun j hj x J => ?_) fun x J => ?_
    · exact ⟨r1, r2.mono (by omega), by simp, .row (by simp), .row (by simp)⟩
    · have mF := List.getElem_mem hj
      have re := I.ue.row _ mF
      simp only [W_bind, W_some, W_none, W_ite, W_sub, W_mul, W_fdiv, W_fdivZ, W_mod, W_pow, W_app, W_cat, W_len, W_rg1, W_rg2, W_rg3, W_ret, W_retU, W_retX, W_retXU, W_bindX, W_retO, W_noX, W_try, W_eqI, W_neI, W_eqBo, W_neBo, W_set, W_rep, W_map, W_band, W_bor, eq_self, if_true, if_false, Bool.false_eq_true, decide_eq_true_eq, and_true, true_and]
      refine W_mono (pivot_row re hn2) fun p e1 => ?_
      subst e1
      simp only [W_bind, W_some, W_none, W_ite, W_sub, W_mul, W_fdiv, W_fdivZ, W_mod, W_pow, W_app, W_cat, W_len, W_rg1, W_rg2, W_rg3, W_ret, W_retU, W_retX, W_retXU, W_bindX, W_retO, W_noX, W_try, W_eqI, W_neI, W_eqBo, W_neBo, W_set, W_rep, W_map, W_band, W_bor, eq_self, if_true, if_false, Bool.false_eq_true, decide_eq_true_eq, and_true, true_and]
      have q1 := bd_le (c := BE k i + 1) (show j + 1 ≤ i by omega)
      rw [Nat.succ_mul] at q1
      refine W_mono (cleared_spec (k := k + i * (BE k i + 1)) J.len re.len re.piv.1 hn2 (J.lt.mono (by omega)) ((I.fb _ mF).mono (by omega)) (by omega)) fun y e1 => ?_
      subst e1
      have st := J.step I.ue (fun a ha => List.mem_of_mem_take ha) mF (I.fb _ mF)
      have e2 : F.take (j + 1) = F.take j ++ [F[j]] := by simp
      have J2 : RE' n F (F.take (j + 1)) (k + (j + 1) * (BE k i + 1)) R[i] (clr x F[j] (pv n F[j])) := by
        rw [e2]
        refine ⟨st.len, st.lt.mono (by rw [Nat.succ_mul]; omega), st.zero, st.to, st.of⟩
      exact J2
    · rw [List.take_length] at J
      have q1 := bd_le (c := BE k i + 1) lF
      have J : RE' n F F (k + i * (BE k i + 1)) R[i] x := ⟨J.len, J.lt.mono (by omega), J.zero, J.to, J.of⟩
      have e2 : R.take (i + 1) = R.take i ++ [R[i]] := by simp
      simp only [W_bind, W_some, W_none, W_ite, W_sub, W_mul, W_fdiv, W_fdivZ, W_mod, W_pow, W_app, W_cat, W_len, W_rg1, W_rg2, W_rg3, W_ret, W_retU, W_retX, W_retXU, W_bindX, W_retO, W_noX, W_try, W_eqI, W_neI, W_eqBo, W_neBo, W_set, W_rep, W_map, W_band, W_bor, eq_self, if_true, if_false, Bool.false_eq_true, decide_eq_true_eq, and_true, true_and]
      refine W_mono (pivot_spec J.len hn2) fun p q => ?_
      rcases q with ⟨c, rfl, pc⟩ | ⟨rfl, z⟩
      · simp only [W_bind, W_some, W_none, W_ite, W_sub, W_mul, W_fdiv, W_fdivZ, W_mod, W_pow, W_app, W_cat, W_len, W_rg1, W_rg2, W_rg3, W_ret, W_retU, W_retX, W_retXU, W_bindX, W_retO, W_noX, W_try, W_eqI, W_neI, W_eqBo, W_neBo, W_set, W_rep, W_map, W_band, W_bor, eq_self, if_true, if_false, Bool.false_eq_true, decide_eq_true_eq, and_true, true_and]
        refine W_mono (prim_spec (by rw [J.len]; omega)) fun s e1 => ?_
        subst e1
        have pl : (prim x).length = n := by rw [prim_len, J.len]
        refine W_seqJ (fun s => (s = prim x ∨ s = ng (prim x)) ∧ 0 < en s c) ?_ fun s hs => ?_
        · simp only [W_bind, W_some, W_none, W_ite, W_sub, W_mul, W_fdiv, W_fdivZ, W_mod, W_pow, W_app, W_cat, W_len, W_rg1, W_rg2, W_rg3, W_ret, W_retU, W_retX, W_retXU, W_bindX, W_retO, W_noX, W_try, W_eqI, W_neI, W_eqBo, W_neBo, W_set, W_rep, W_map, W_band, W_bor, eq_self, if_true, if_false, Bool.false_eq_true, decide_eq_true_eq, and_true, true_and]
          have hcl : c < (prim x).length := by rw [pl]; exact pc.1
          refine W_atN hcl ?_
          rw [en_of hcl]
          have nz : en (prim x) c ≠ 0 := fun z => pc.2.1 ((prim_zero c).mp z)
          split
          · rename_i hneg
            refine ⟨by omega, mapNeg_spec ?_⟩
            exact ⟨_, rfl, .inr rfl, by rw [en_ng]; omega⟩
          · rename_i hneg
            exact ⟨_, rfl, .inl rfl, by omega⟩
        obtain ⟨hs, s0⟩ := hs
        have sl : s.length = n := by rcases hs with rfl | rfl <;> simp [ng_len, pl]
        have sb : Lt (k + i * (BE k i + 1)) s := by
          rcases hs with rfl | rfl
          · exact prim_lt J.lt
          · exact lt_ng (prim_lt J.lt)
        simp only [W_bind, W_some, W_none, W_ite, W_sub, W_mul, W_fdiv, W_fdivZ, W_mod, W_pow, W_app, W_cat, W_len, W_rg1, W_rg2, W_rg3, W_ret, W_retU, W_retX, W_retXU, W_bindX, W_retO, W_noX, W_try, W_eqI, W_neI, W_eqBo, W_neBo, W_set, W_rep, W_map, W_band, W_bor, eq_self, if_true, if_false, Bool.false_eq_true, decide_eq_true_eq, and_true, true_and]
        refine ⟨by omega, W_mapF (fun e => clr e s c) (fun e he => ?_) ?_⟩
        · simp only [W_bind, W_some, W_none, W_ite, W_sub, W_mul, W_fdiv, W_fdivZ, W_mod, W_pow, W_app, W_cat, W_len, W_rg1, W_rg2, W_rg3, W_ret, W_retU, W_retX, W_retXU, W_bindX, W_retO, W_noX, W_try, W_eqI, W_neI, W_eqBo, W_neBo, W_set, W_rep, W_map, W_band, W_bor, eq_self, if_true, if_false, Bool.false_eq_true, decide_eq_true_eq, and_true, true_and]
          exact cleared_spec (k := BE k i + (k + i * (BE k i + 1)) + 1) (I.ue.row e he).len sl pc.1 hn2 ((I.fb e he).mono (by omega)) (sb.mono (by omega)) (by omega)
        refine ⟨by simp; omega, ?_⟩
        have := I.add J pc hs s0
        have P2 : PE n (R.take (i + 1)) (BE k (i + 1)) (i + 1) (F.map (fun e => clr e s c) ++ [s]) := by
          rw [e2]; exact this
        exact P2
      · simp only [W_bind, W_some, W_none, W_ite, W_sub, W_mul, W_fdiv, W_fdivZ, W_mod, W_pow, W_app, W_cat, W_len, W_rg1, W_rg2, W_rg3, W_ret, W_retU, W_retX, W_retXU, W_bindX, W_retO, W_noX, W_try, W_eqI, W_neI, W_eqBo, W_neBo, W_set, W_rep, W_map, W_band, W_bor, eq_self, if_true, if_false, Bool.false_eq_true, decide_eq_true_eq, and_true, true_and]
        have P2 : PE n (R.take (i + 1)) (BE k (i + 1)) (i + 1) F := by
          rw [e2]; exact I.skip J z (by show _ ≤ BE k i + (k + i * (BE k i + 1)) + 1; omega)
        exact P2
  · rw [List.take_length] at I
    obtain ⟨s1, s2⟩ := I.ue.sort
    have fin : W (sortN (F.map fun e => (rk n (pv n e) : Int) - 1) F) fun E => Ech n E ∧ (∀ r ∈ R, Lv.Q E (en r)) ∧ (∀ e ∈ E, Lv.Q R (en e)) ∧ (∀ e ∈ E, Lt (BE k R.length) e) ∧ E.length ≤ R.length := by
      have nd : (F.map fun e => (rk n (pv n e) : Int) - 1).Nodup := by
        rw [List.Nodup, List.pairwise_map]
        exact List.Pairwise.imp_of_mem (fun {a b} ha hb hab e => hab (I.ue.inj ha hb (rk_inj (I.ue.row a ha).piv.1 (I.ue.row b hb).piv.1 (by omega)))) I.ue.nd
      have lF := I.len
      refine ⟨_, by unfold sortN; rw [if_pos ⟨by omega, nd⟩], s1, fun r hr => (I.to r hr).mono fun e he => s2.mem_iff.mpr he, fun e he => I.of e (s2.mem_iff.mp he), fun e he => I.fb e (s2.mem_iff.mp he), by rw [s2.length_eq]; exact lF⟩
    simp only [W_bind, W_some, W_none, W_ite, W_sub, W_mul, W_fdiv, W_fdivZ, W_mod, W_pow, W_app, W_cat, W_len, W_rg1, W_rg2, W_rg3, W_ret, W_retU, W_retX, W_retXU, W_bindX, W_retO, W_noX, W_try, W_eqI, W_neI, W_eqBo, W_neBo, W_set, W_rep, W_map, W_band, W_bor, eq_self, if_true, if_false, Bool.false_eq_true, decide_eq_true_eq, and_true, true_and]
    refine W_bor ?_
    simp only [W_bind, W_some, W_none, W_ite, W_sub, W_mul, W_fdiv, W_fdivZ, W_mod, W_pow, W_app, W_cat, W_len, W_rg1, W_rg2, W_rg3, W_ret, W_retU, W_retX, W_retXU, W_bindX, W_retO, W_noX, W_try, W_eqI, W_neI, W_eqBo, W_neBo, W_set, W_rep, W_map, W_band, W_bor, eq_self, if_true, if_false, Bool.false_eq_true, decide_eq_true_eq, and_true, true_and]
    cases hF : F with
    | nil =>
      rw [hF] at fin
      simp only [List.isEmpty_nil, Bool.not_true, Bool.false_eq_true, if_false]
      exact ⟨[], rfl, fin⟩
    | cons f F' =>
      have h0 : 0 < F.length := by rw [hF]; simp
      rw [← hF]
      have e1 : F.isEmpty = false := by rw [hF]; rfl
      rw [e1]
      simp only [Bool.not_false, if_true]
      refine W_atN (n := 0) h0 ?_
      rw [(I.ue.row _ (List.getElem_mem h0)).len]
      refine W_mapF (fun e => (rk n (pv n e) : Int) - 1) (fun e he => ?_) fin
      have re := I.ue.row e he
      simp only [W_bind, W_some, W_none, W_ite, W_sub, W_mul, W_fdiv, W_fdivZ, W_mod, W_pow, W_app, W_cat, W_len, W_rg1, W_rg2, W_rg3, W_ret, W_retU, W_retX, W_retXU, W_bindX, W_retO, W_noX, W_try, W_eqI, W_neI, W_eqBo, W_neBo, W_set, W_rep, W_map, W_band, W_bor, eq_self, if_true, if_false, Bool.false_eq_true, decide_eq_true_eq, and_true, true_and]
      refine W_mono (pivot_row re hn2) fun p e2 => ?_
      subst e2
      simp only [W_bind, W_some, W_none, W_ite, W_sub, W_mul, W_fdiv, W_fdivZ, W_mod, W_pow, W_app, W_cat, W_len, W_rg1, W_rg2, W_rg3, W_ret, W_retU, W_retX, W_retXU, W_bindX, W_retO, W_noX, W_try, W_eqI, W_neI, W_eqBo, W_neBo, W_set, W_rep, W_map, W_band, W_bor, eq_self, if_true, if_false, Bool.false_eq_true, decide_eq_true_eq, and_true, true_and]
      exact ⟨by omega, key_mod re.piv.1⟩
/-! vectors of the law -/
theorem vec_spec {n : Nat} (c : Int) (h1 : 1 ≤ n) (h2 : n ≤ 5) : W (m_law_vector c (n : Int)) fun v => v.length = n ∧ Lt 21 v := by
  unfold m_law_vector mb_law_vector
  simp only [W_bind, W_some, W_none, W_ite, W_sub, W_mul, W_fdiv, W_fdivZ, W_mod, W_pow, W_app, W_cat, W_len, W_rg1, W_rg2, W_rg3, W_ret, W_retU, W_retX, W_retXU, W_bindX, W_retO, W_noX, W_try, W_eqI, W_neI, W_eqBo, W_neBo, W_set, W_rep, W_map, W_band, W_bor, eq_self, if_true, if_false, Bool.false_eq_true, decide_eq_true_eq, and_true, true_and]
  refine ⟨rep1_ok (by omega) (by omega), by rw [rep1]; simp; omega, rep1_ok (by omega) (by omega), by rw [rep1, rep1]; simp; omega, ?_⟩
  rw [rep1, rep1]
  have e : (n : Int).toNat = n := by omega
  rw [e]
  refine W_mono (draws_spec c _ (fun m hm => ?_) (by simp; omega)) fun dr hdr => ?_
  · simp at hm
    omega
  obtain ⟨d1, d2⟩ := hdr
  have dl : dr.length = 1 + 2 * n := by rw [d1]; simp; omega
  have da : ∀ j : Int, 0 ≤ j → j < n → W (atI dr (1 + j)) fun x => 0 ≤ x ∧ x < 2000001 := fun j j0 j1 => by
    refine W_at (by omega) (by omega) fun hj => ?_
    have := d2 (1 + j).toNat hj (by simp; omega)
    rw [List.getElem_append_left (by simp; omega), List.getElem_append_right (by simp; omega)] at this
    simpa using this
  have db : ∀ j : Int, 0 ≤ j → j < n → W (atI dr (1 + n + j)) fun x => 0 ≤ x ∧ x < 7 := fun j j0 j1 => by
    refine W_at (by omega) (by omega) fun hj => ?_
    have := d2 (1 + n + j).toNat hj (by simp; omega)
    rw [List.getElem_append_right (by simp; omega)] at this
    simpa using this
  have d0 : W (atI dr 0) fun x => True := W_atN (n := 0) (by omega) trivial
  have fin : ∀ {f : Int → Option Int}, (∀ j : Int, 0 ≤ j → j < n → W (f j) fun x => x.natAbs < 2 ^ 21) → (rangeL 0 (n : Int)).length ≤ 1000000 ∧ W (mapN (rangeL 0 (n : Int)) f) fun v => v.length = n ∧ Lt 21 v := fun {f} hf => by
    refine ⟨by rw [rangeL_len]; omega, W_mapA (fun x : Int => x.natAbs < 2 ^ 21) (fun j hj => ?_) fun r hr hall => ⟨by rw [hr, rangeL_len]; omega, fun x hx => hall x hx⟩⟩
    obtain ⟨j0, j1⟩ := mem_rangeL.mp hj
    exact hf j j0 j1
  have two : (2 : Nat) ^ 21 = 2097152 := by decide
  refine W_mono d0 fun x _ => ?_
  split
  · refine ⟨sm62 (by omega) (by omega), fin fun j j0 j1 => ?_⟩
    simp only [W_bind, W_some, W_none, W_ite, W_sub, W_mul, W_fdiv, W_fdivZ, W_mod, W_pow, W_app, W_cat, W_len, W_rg1, W_rg2, W_rg3, W_ret, W_retU, W_retX, W_retXU, W_bindX, W_retO, W_noX, W_try, W_eqI, W_neI, W_eqBo, W_neBo, W_set, W_rep, W_map, W_band, W_bor, eq_self, if_true, if_false, Bool.false_eq_true, decide_eq_true_eq, and_true, true_and]
    exact W_mono (da j j0 j1) fun x hx => by omega
  · refine W_mono d0 fun x _ => ?_
    split
    · refine ⟨sm62 (by omega) (by omega), fin fun j j0 j1 => ?_⟩
      simp only [W_bind, W_some, W_none, W_ite, W_sub, W_mul, W_fdiv, W_fdivZ, W_mod, W_pow, W_app, W_cat, W_len, W_rg1, W_rg2, W_rg3, W_ret, W_retU, W_retX, W_retXU, W_bindX, W_retO, W_noX, W_try, W_eqI, W_neI, W_eqBo, W_neBo, W_set, W_rep, W_map, W_band, W_bor, eq_self, if_true, if_false, Bool.false_eq_true, decide_eq_true_eq, and_true, true_and]
      exact W_mono (db j j0 j1) fun x hx => ⟨mul_64 (by omega) (by omega), by omega⟩
    · refine W_mono d0 fun x _ => ?_
      split
      · refine ⟨sm62 (by omega) (by omega), fin fun j j0 j1 => ?_⟩
        simp only [W_bind, W_some, W_none, W_ite, W_sub, W_mul, W_fdiv, W_fdivZ, W_mod, W_pow, W_app, W_cat, W_len, W_rg1, W_rg2, W_rg3, W_ret, W_retU, W_retX, W_retXU, W_bindX, W_retO, W_noX, W_try, W_eqI, W_neI, W_eqBo, W_neBo, W_set, W_rep, W_map, W_band, W_bor, eq_self, if_true, if_false, Bool.false_eq_true, decide_eq_true_eq, and_true, true_and]
        refine W_mono (db j j0 j1) fun x hx => W_mono (da j j0 j1) fun y hy => ?_
        have hb : b2i (x == 3) = 0 ∨ b2i (x == 3) = 1 := by unfold b2i; split <;> simp
        refine ⟨mul_64 (by omega) (by omega), ?_⟩
        rcases hb with hb | hb
        · rw [hb]; simp
        · rw [hb]; omega
      · refine ⟨sm62 (by omega) (by omega), fin fun j j0 j1 => ?_⟩
        simp only [W_bind, W_some, W_none, W_ite, W_sub, W_mul, W_fdiv, W_fdivZ, W_mod, W_pow, W_app, W_cat, W_len, W_rg1, W_rg2, W_rg3, W_ret, W_retU, W_retX, W_retXU, W_bindX, W_retO, W_noX, W_try, W_eqI, W_neI, W_eqBo, W_neBo, W_set, W_rep, W_map, W_band, W_bor, eq_self, if_true, if_false, Bool.false_eq_true, decide_eq_true_eq, and_true, true_and]
        exact W_mono (db j j0 j1) fun x hx => by omega
end Lw
set_option Elab.async false
set_option linter.all false
set_option pp.maxSteps 2500
set_option pp.deepTerms false
set_option maxRecDepth 100000
set_option maxHeartbeats 2000000
set_option exponentiation.threshold 6000
/-! law k03, over the typed mirrors -/
namespace Lw
open PySem PySem.Spec L2 Fx Ty Lv
theorem red_zero {n : Nat} {F : List (List Int)} {v r : List Int} (h : UE n F) (hr : Red n F v r) (k : Lv.Q F (en v)) (j : Nat) : en r j = 0 := by
  obtain ⟨a, b, a0, b0, q⟩ := hr.frm
  have q2 : Lv.Q F fun j => a * en r j := .lin 1 b 1 q k (by decide) fun j => by omega
  have q3 : Lv.Q F (en r) := q2.scale 1 a (by omega) fun j => by omega
  exact h.zero q3 hr.zero j
theorem any_zero {v : List Int} (h : ∀ j, en v j = 0) : (v.any fun i => i != 0) = false := by
  rw [List.any_eq_false]
  intro x hx
  obtain ⟨j, _, e⟩ := mem_en hx
  rw [← e, h j]
  decide
/-- the law's own look -/
theorem is_ech_spec {n k : Nat} {E : List (List Int)} (h : Ech n E) (hn : 1 ≤ n) (hn2 : n ≤ 100) (lE : ∀ e ∈ E, Lt k e) (hk : k ≤ 100000000) (hl : E.length ≤ 100) : W (m_law_is_echelon E (n : Int)) fun b => b = true := by
  unfold m_law_is_echelon mb_law_is_echelon
  simp only [W_bind, W_some, W_none, W_ite, W_sub, W_mul, W_fdiv, W_fdivZ, W_mod, W_pow, W_app, W_cat, W_len, W_rg1, W_rg2, W_rg3, W_ret, W_retU, W_retX, W_retXU, W_bindX, W_retO, W_noX, W_try, W_eqI, W_neI, W_eqBo, W_neBo, W_set, W_rep, W_map, W_band, W_bor, eq_self, if_true, if_false, Bool.false_eq_true, decide_eq_true_eq, and_true, true_and]
  rw [W_seq]
  refine W_for (fun i (s : Int × List Int) => s.2 = (E.take i).map (fun e => (pv n e : Int)) ∧ (0 ≤ s.1 ∧ ∀ j (hj : j < E.length), i ≤ j → s.1 < (rk n (pv n E[j]) : Int))) ⟨rfl, by simp, fun j hj _ => ?_⟩ (fun i hi s J => ?_) fun s J => ?_
  · have := (rk_pos (h.row _ (List.getElem_mem hj)).piv.1).1
    show (0 : Int) < _
    omega
  · obtain ⟨s1, s2⟩ := s
    obtain ⟨J1, J0, J2⟩ := J
    have J1 : s2 = (E.take i).map (fun e => (pv n e : Int)) := J1
    have J0 : 0 ≤ s1 := J0
    have re := h.row _ (List.getElem_mem hi)
    have le := lE _ (List.getElem_mem hi)
    have rp := rk_pos re.piv.1
    have hlt := J2 i hi (Nat.le_refl _)
    have hlt : s1 < (rk n (pv n E[i]) : Int) := hlt
    simp only [W_bind, W_some, W_none, W_ite, W_sub, W_mul, W_fdiv, W_fdivZ, W_mod, W_pow, W_app, W_cat, W_len, W_rg1, W_rg2, W_rg3, W_ret, W_retU, W_retX, W_retXU, W_bindX, W_retO, W_noX, W_try, W_eqI, W_neI, W_eqBo, W_neBo, W_set, W_rep, W_map, W_band, W_bor, eq_self, if_true, if_false, Bool.false_eq_true, decide_eq_true_eq, and_true, true_and]
    rw [if_neg (by simp)]
    rw [re.len]
    rw [if_neg (by simp)]
    refine W_mono (lprim_spec le hk (by rw [re.len]; omega)) fun p hp => ?_
    subst hp
    rw [prim_id re.gc1, W_neT (by decide), eqB_self]
    rw [if_neg (by simp)]
    refine W_mono (lpivot_row re (by omega)) fun p hp => ?_
    subst hp
    simp only [Option.isNone_some, Bool.false_eq_true, if_false]
    refine W_mono (lpivot_row re (by omega)) fun p hp => ?_
    subst hp
    simp only [W_bind, W_some, W_none, W_ite, W_sub, W_mul, W_fdiv, W_fdivZ, W_mod, W_pow, W_app, W_cat, W_len, W_rg1, W_rg2, W_rg3, W_ret, W_retU, W_retX, W_retXU, W_bindX, W_retO, W_noX, W_try, W_eqI, W_neI, W_eqBo, W_neBo, W_set, W_rep, W_map, W_band, W_bor, eq_self, if_true, if_false, Bool.false_eq_true, decide_eq_true_eq, and_true, true_and]
    refine W_seqJ (fun r => r = (rk n (pv n E[i]) : Int)) ?_ fun r hr => ?_
    · simp only [W_bind, W_some, W_none, W_ite, W_sub, W_mul, W_fdiv, W_fdivZ, W_mod, W_pow, W_app, W_cat, W_len, W_rg1, W_rg2, W_rg3, W_ret, W_retU, W_retX, W_retXU, W_bindX, W_retO, W_noX, W_try, W_eqI, W_neI, W_eqBo, W_neBo, W_set, W_rep, W_map, W_band, W_bor, eq_self, if_true, if_false, Bool.false_eq_true, decide_eq_true_eq, and_true, true_and]
      split
      · rename_i z
        have z : pv n E[i] = 0 := by have := eq_of_beq z; omega
        exact ⟨_, rfl, by unfold rk; rw [if_pos z]⟩
      · rename_i z
        have z : pv n E[i] ≠ 0 := fun q => z (by rw [q]; rfl)
        exact ⟨_, rfl, by unfold rk; rw [if_neg z]⟩
    subst hr
    simp only [W_bind, W_some, W_none, W_ite, W_sub, W_mul, W_fdiv, W_fdivZ, W_mod, W_pow, W_app, W_cat, W_len, W_rg1, W_rg2, W_rg3, W_ret, W_retU, W_retX, W_retXU, W_bindX, W_retO, W_noX, W_try, W_eqI, W_neI, W_eqBo, W_neBo, W_set, W_rep, W_map, W_band, W_bor, eq_self, if_true, if_false, Bool.false_eq_true, decide_eq_true_eq, and_true, true_and]
    have pl : pv n E[i] < E[i].length := by rw [re.len]; exact re.piv.1
    refine W_atN pl ?_
    rw [en_of pl]
    have := re.pos
    rw [if_neg (by omega), if_neg (by omega)]
    refine ⟨by rw [J1]; simp; omega, ?_, by show (0 : Int) ≤ _; omega, fun j hj hij => ?_⟩
    · show s2 ++ [(pv n E[i] : Int)] = _
      rw [J1, List.take_succ_eq_append_getElem hi, List.map_append]; rfl
    · have := List.pairwise_iff_getElem.mp h.asc i j hi hj (by omega)
      show ((rk n (pv n E[i]) : Nat) : Int) < _
      omega
  · obtain ⟨s1, s2⟩ := s
    obtain ⟨J1, _⟩ := J
    have J1 : s2 = (E.take E.length).map (fun e => (pv n e : Int)) := J1
    rw [List.take_length] at J1
    simp only [W_bind, W_some, W_none, W_ite, W_sub, W_mul, W_fdiv, W_fdivZ, W_mod, W_pow, W_app, W_cat, W_len, W_rg1, W_rg2, W_rg3, W_ret, W_retU, W_retX, W_retXU, W_bindX, W_retO, W_noX, W_try, W_eqI, W_neI, W_eqBo, W_neBo, W_set, W_rep, W_map, W_band, W_bor, eq_self, if_true, if_false, Bool.false_eq_true, decide_eq_true_eq, and_true, true_and]
    refine ⟨sm62 (by omega) (by omega), ?_⟩
    rw [W_seq]
    refine W_forI (fun _ => True) trivial (fun a ha _ _ => ?_) fun _ _ => W_some.mpr rfl
    obtain ⟨a0, a1⟩ := mem_rangeL.mp ha
    simp only [W_bind, W_some, W_none, W_ite, W_sub, W_mul, W_fdiv, W_fdivZ, W_mod, W_pow, W_app, W_cat, W_len, W_rg1, W_rg2, W_rg3, W_ret, W_retU, W_retX, W_retXU, W_bindX, W_retO, W_noX, W_try, W_eqI, W_neI, W_eqBo, W_neBo, W_set, W_rep, W_map, W_band, W_bor, eq_self, if_true, if_false, Bool.false_eq_true, decide_eq_true_eq, and_true, true_and]
    refine ⟨sm62 (by omega) (by omega), ?_⟩
    rw [W_seq]
    refine W_forI (fun _ => True) trivial (fun b hb _ _ => ?_) fun _ _ => W_some.mpr trivial
    obtain ⟨b0, b1⟩ := mem_rangeL.mp hb
    simp only [W_bind, W_some, W_none, W_ite, W_sub, W_mul, W_fdiv, W_fdivZ, W_mod, W_pow, W_app, W_cat, W_len, W_rg1, W_rg2, W_rg3, W_ret, W_retU, W_retX, W_retXU, W_bindX, W_retO, W_noX, W_try, W_eqI, W_neI, W_eqBo, W_neBo, W_set, W_rep, W_map, W_band, W_bor, eq_self, if_true, if_false, Bool.false_eq_true, decide_eq_true_eq, and_true, true_and]
    split
    · rename_i hab
      refine W_at a0 a1 fun ha' => ?_
      refine W_at b0 (by rw [J1]; simpa using b1) fun hb' => ?_
      have hb'' : b.toNat < E.length := by omega
      have e1 : s2[b.toNat]'hb' = (pv n E[b.toNat] : Int) := by simp [J1]
      rw [e1]
      have rb := h.row _ (List.getElem_mem hb'')
      have ra := h.row _ (List.getElem_mem ha')
      have pl : pv n E[b.toNat] < E[a.toNat].length := by rw [ra.len]; exact rb.piv.1
      refine W_atN pl ?_
      rw [en_of pl, h.off _ (List.getElem_mem ha') _ (List.getElem_mem hb'') (fun z => by
        have := (List.getElem_inj h.nd).mp z
        have hne : b ≠ a := by simpa using hab
        omega)]
      rw [if_neg (by decide)]
      trivial
    · trivial
theorem all_eq {n : Nat} {E F : List (List Int)} (h : Ech n F) (h1 : Ech n E) (h2 : ∀ r ∈ F, Lv.Q E (en r)) (h3 : ∀ e ∈ E, Lv.Q F (en e)) : E = F := h1.uniq h h3 h2
/-- the rows with their numbers behind -/
def tag (E : List (List Int)) : List (List Int) := (List.range E.length).map fun j => E.getD j [] ++ [(j : Int)]
def tagI (i : Nat) (E : List (List Int)) : List (List Int) := (List.range E.length).map fun j => if j < i then E.getD j [] ++ [(j : Int)] else E.getD j []
theorem tagI_0 {E : List (List Int)} : tagI 0 E = E := by
  refine List.ext_getElem (by simp [tagI]) fun i h1 h2 => ?_
  simp [tagI, List.getD, h2]
theorem tagI_n {E : List (List Int)} : tagI E.length E = tag E := by
  refine List.ext_getElem (by simp [tagI, tag]) fun i h1 h2 => ?_
  have : i < E.length := by simpa [tagI] using h1
  simp [tagI, tag, this]
theorem tagI_step {E : List (List Int)} {i : Nat} (h : i < E.length) (hl : E[i].length ≤ 1000) : appI (tagI i E) (i : Int) (i : Int) = some (tagI (i + 1) E) := by
  unfold appI
  have e1 : ixN (tagI i E).length (i : Int) = some i := by
    unfold ixN
    rw [if_pos (by omega), if_pos (by simp [tagI]; omega)]; rfl
  have e2 : (tagI i E)[i]? = some E[i] := by simp [tagI, h, List.getD]
  rw [e1]
  show ((tagI i E)[i]?).bind _ = _
  rw [e2]
  show (if E[i].length ≤ 1000000 then _ else _) = _
  rw [if_pos (by omega)]
  congr 1
  refine List.ext_getElem (by simp [tagI]) fun j h1 h2 => ?_
  have hj : j < E.length := by simpa [tagI] using h2
  rw [List.getElem_set]
  by_cases z : i = j
  · subst z
    simp [tagI, List.getD, h]
  · simp only [if_neg z]
    simp only [tagI, List.getElem_map, List.getElem_range]
    by_cases q : j < i
    · simp [q, show j < i + 1 by omega]
    · simp [q, show ¬ j < i + 1 by omega]
theorem at_lastN {α : Type} {l : List α} (h : 0 < l.length) : ∃ x, x ∈ l ∧ atI l (-1) = some x := by
  have e : atI l (-1) = some l[l.length - 1] := by
    have : ixN l.length (-1) = some (l.length - 1) := by
      unfold ixN
      rw [if_neg (by omega), if_pos (by omega)]
      congr 1
      omega
    unfold atI
    rw [this]
    simp [show l.length - 1 < l.length by omega]
  exact ⟨_, List.getElem_mem (by omega), e⟩
theorem rg8 (n : Nat) (hn : n ≤ 100) : rgOk 0 ((n : Int) + 8) 8 = true := yes_of ⟨⟨⟨by decide, by decide⟩, by
  unfold Builtin.Range.small Builtin.Range.rangeSize
  simp [Builtin.Range.rangeFitsLong]
  omega⟩, by
  unfold Builtin.Range.rangeSize
  simp
  omega⟩
theorem BD25 : BD 25 5 = 831 := by decide
theorem BE25 : BE 25 7 ≤ 50000000 := by decide
theorem BE29 : BE 29 8 ≤ 50000000 := by decide
theorem BE831 : BE 831 7 ≤ 50000000 := by decide
theorem law_ok (s : List Int) (hl : s.length ≤ 63) : W (m_law s) fun r => r = true := by
  unfold m_law mb_law
  simp only [W_bind, W_some, W_none, W_ite, W_sub, W_mul, W_fdiv, W_fdivZ, W_mod, W_pow, W_app, W_cat, W_len, W_rg1, W_rg2, W_rg3, W_ret, W_retU, W_retX, W_retXU, W_bindX, W_retO, W_noX, W_try, W_eqI, W_neI, W_eqBo, W_neBo, W_set, W_rep, W_map, W_band, W_bor, eq_self, if_true, if_false, Bool.false_eq_true, decide_eq_true_eq, and_true, true_and]
  refine ⟨rg8 _ (by omega), ?_⟩
  rw [W_seq]
  refine W_forI (fun _ => True) trivial (fun k hk _ _ => ?_) fun _ _ => W_some.mpr rfl
  have k0 : 0 ≤ k := by
    unfold range3L at hk
    simp only [List.mem_map] at hk
    obtain ⟨i, _, rfl⟩ := hk
    omega
  simp only [W_bind, W_some, W_none, W_ite, W_sub, W_mul, W_fdiv, W_fdivZ, W_mod, W_pow, W_app, W_cat, W_len, W_rg1, W_rg2, W_rg3, W_ret, W_retU, W_retX, W_retXU, W_bindX, W_retO, W_noX, W_try, W_eqI, W_neI, W_eqBo, W_neBo, W_set, W_rep, W_map, W_band, W_bor, eq_self, if_true, if_false, Bool.false_eq_true, decide_eq_true_eq, and_true, true_and]
  refine W_mono (cell_spec s k k0) fun c _ => W_mono (draws_spec c [6, 5, 5, 5, 7, 7] (by intro m hm; simp at hm; omega) (by simp)) fun dr hdr => ?_
  obtain ⟨d1, d2⟩ := hdr
  simp at d1
  have e0 := d2 0 (by omega) (by simp)
  have e1 := d2 1 (by omega) (by simp)
  have e2 := d2 2 (by omega) (by simp)
  have e3 := d2 3 (by omega) (by simp)
  have e4 := d2 4 (by omega) (by simp)
  have e5 := d2 5 (by omega) (by simp)
  simp at e0 e1 e2 e3 e4 e5
  have at0 : W (atI dr 0) fun x => x = dr[0] := W_atN (n := 0) (by omega) rfl
  have at1 : W (atI dr 1) fun x => x = dr[1] := W_atN (n := 1) (by omega) rfl
  have at2 : W (atI dr 2) fun x => x = dr[2] := W_atN (n := 2) (by omega) rfl
  have at3 : W (atI dr 3) fun x => x = dr[3] := W_atN (n := 3) (by omega) rfl
  have at4 : W (atI dr 4) fun x => x = dr[4] := W_atN (n := 4) (by omega) rfl
  have at5 : W (atI dr 5) fun x => x = dr[5] := W_atN (n := 5) (by omega) rfl
  generalize dr[0] = q0 at e0 at0
  generalize dr[1] = q1 at e1 at1
  generalize dr[2] = q2 at e2 at2
  generalize dr[3] = q3 at e3 at3
  generalize dr[4] = q4 at e4 at4
  generalize dr[5] = q5 at e5 at5
  refine W_mono at1 fun x hx => ?_
  rw [hx]; clear hx x
  obtain ⟨n, hn⟩ : ∃ n : Nat, 1 + q1 = (n : Int) := ⟨(1 + q1).toNat, by omega⟩
  rw [hn]
  have n1 : 1 ≤ n := by omega
  have n5 : n ≤ 5 := by omega
  refine W_mono at0 fun x hx => ?_
  rw [hx]; clear hx x
  refine ⟨sm62 (by omega) (by omega), by rw [rangeL_len]; omega, ?_⟩
  refine W_mapA (fun v : List Int => v.length = n ∧ Lt 21 v) (fun j hj => ?_) fun R0 hR0 hall => ?_
  · obtain ⟨j0, j1⟩ := mem_rangeL.mp hj
    simp only [W_bind, W_some, W_none, W_ite, W_sub, W_mul, W_fdiv, W_fdivZ, W_mod, W_pow, W_app, W_cat, W_len, W_rg1, W_rg2, W_rg3, W_ret, W_retU, W_retX, W_retXU, W_bindX, W_retO, W_noX, W_try, W_eqI, W_neI, W_eqBo, W_neBo, W_set, W_rep, W_map, W_band, W_bor, eq_self, if_true, if_false, Bool.false_eq_true, decide_eq_true_eq, and_true, true_and]
    exact W_mono (cell_spec s _ (by omega)) fun c _ => vec_spec c n1 n5
  rw [rangeL_len] at hR0
  refine W_seqJ (fun R => R.length ≤ 6 ∧ ∀ v ∈ R, v.length = n ∧ Lt 25 v) ?_ fun R hR => ?_
  · simp only [W_bind, W_some, W_none, W_ite, W_sub, W_mul, W_fdiv, W_fdivZ, W_mod, W_pow, W_app, W_cat, W_len, W_rg1, W_rg2, W_rg3, W_ret, W_retU, W_retX, W_retXU, W_bindX, W_retO, W_noX, W_try, W_eqI, W_neI, W_eqBo, W_neBo, W_set, W_rep, W_map, W_band, W_bor, eq_self, if_true, if_false, Bool.false_eq_true, decide_eq_true_eq, and_true, true_and]
    have base : ∀ v ∈ R0, v.length = n ∧ Lt 25 v := fun v hv => ⟨(hall v hv).1, (hall v hv).2.mono (by omega)⟩
    have skip : ∃ b, TO.nx (α := Unit) (ρ := Bool) R0 = TO.nx b ∧ b.length ≤ 6 ∧ ∀ v ∈ b, v.length = n ∧ Lt 25 v := ⟨_, rfl, by omega, base⟩
    split
    · rename_i h2
      refine W_mono at2 fun x hx => ?_
      split
      · refine W_mono at4 fun x hx => ?_
        rw [hx]; clear hx x
        have l0 : 0 < R0.length := by omega
        have l1 : 1 < R0.length := by omega
        refine W_atN (n := 0) l0 (W_mono at5 fun x hx => ?_)
        rw [hx]; clear hx x
        refine W_atN (n := 1) l1 ?_
        obtain ⟨a1, a2⟩ := hall _ (List.getElem_mem l0)
        obtain ⟨b1, b2⟩ := hall _ (List.getElem_mem l1)
        have two : (2 : Nat) ^ 3 = 8 := by decide
        refine W_mono (sum_spec (n := n) (k := 21) a1 b1 (by omega) a2 b2 (by have : (2 : Nat) ^ 21 = 2097152 := by decide
                                                                              omega) (by have : (2 : Nat) ^ 21 = 2097152 := by decide
                                                                                         omega) (by omega)) fun v hv => ?_
        subst hv
        refine ⟨by omega, _, rfl, by simp; omega, fun w hw => ?_⟩
        rcases List.mem_append.mp hw with hw | hw
        · exact base w hw
        · rw [List.mem_singleton.mp hw]
          refine ⟨lc_len a1 b1, lt_en fun j => ?_⟩
          rw [en_lc (by rw [a1, b1])]
          have u1 := en_lt a2 j
          have u2 := en_lt b2 j
          have t21 : (2 : Nat) ^ 21 = 2097152 := by decide
          have t25 : (2 : Nat) ^ 25 = 33554432 := by decide
          rw [t21] at u1 u2
          rw [t25]
          have f1 : (q4 - 3 = -3 ∨ q4 - 3 = -2 ∨ q4 - 3 = -1 ∨ q4 - 3 = 0 ∨ q4 - 3 = 1 ∨ q4 - 3 = 2 ∨ q4 - 3 = 3) := by omega
          have f2 : (q5 - 3 = -3 ∨ q5 - 3 = -2 ∨ q5 - 3 = -1 ∨ q5 - 3 = 0 ∨ q5 - 3 = 1 ∨ q5 - 3 = 2 ∨ q5 - 3 = 3) := by omega
          rcases f1 with h | h | h | h | h | h | h <;> rcases f2 with g | g | g | g | g | g | g <;> rw [h, g] <;> omega
      · exact skip
    · exact skip
  obtain ⟨lR, hR⟩ := hR
  simp only [W_bind, W_some, W_none, W_ite, W_sub, W_mul, W_fdiv, W_fdivZ, W_mod, W_pow, W_app, W_cat, W_len, W_rg1, W_rg2, W_rg3, W_ret, W_retU, W_retX, W_retXU, W_bindX, W_retO, W_noX, W_try, W_eqI, W_neI, W_eqBo, W_neBo, W_set, W_rep, W_map, W_band, W_bor, eq_self, if_true, if_false, Bool.false_eq_true, decide_eq_true_eq, and_true, true_and]
  have hrep : reprN R = some (enc R).shown := by
    refine repr_ok (c := 25) rfl (sm_l fun v hv => sm_v (hR v hv).2) (by omega) (by omega) (Nat.le_trans (Dep.le _) (by decide)) ?_
    have b1 : (enc R).bulk ≤ 6 * (5 + 1) := bulk_l (fun e he => bulk_v (by rw [(hR e he).1]; exact n5)) lR
    omega
  have rep : W (reprN R) fun x => x = (enc R).shown := ⟨_, hrep, rfl⟩
  generalize (enc R).shown = kept at rep
  refine W_mono rep fun x hx => ?_
  rw [hx]; clear hx x
  refine W_mono (ech_spec n1 (by omega) hR (by omega) (Nat.le_trans (BE_mono (by omega)) BE25)) fun E hE => ?_
  obtain ⟨ech, to1, of1, _, cE⟩ := hE
  have bd : BD 25 n ≤ 831 := by rw [← BD25]; exact BD_mono n5
  obtain ⟨E', hE'⟩ := lech_spec (k := 25) n1 (by omega) hR (by omega) (by omega)
  obtain ⟨hm', ech', to', of', lE', _⟩ := hE'
  have sp : ∀ {A B : List (List Int)}, (∀ r ∈ R, Lv.Q A (en r)) → (∀ e ∈ B, Lv.Q R (en e)) → ∀ e ∈ B, Lv.Q A (en e) := fun h k e he => (k e he).trans h
  have : E' = E := ech'.uniq ech (sp to1 of') (sp to' of1)
  subst this
  have lE : ∀ e ∈ E', Lt 831 e := fun e he => (lE' e he).mono bd
  have rE : ∀ e ∈ E', e.length = n ∧ Lt 831 e := fun e he => ⟨(ech.row e he).len, lE e he⟩
  have ue := ech.toUE
  refine W_bor ?_
  simp only [W_bind, W_some, W_none, W_ite, W_sub, W_mul, W_fdiv, W_fdivZ, W_mod, W_pow, W_app, W_cat, W_len, W_rg1, W_rg2, W_rg3, W_ret, W_retU, W_retX, W_retXU, W_bindX, W_retO, W_noX, W_try, W_eqI, W_neI, W_eqBo, W_neBo, W_set, W_rep, W_map, W_band, W_bor, eq_self, if_true, if_false, Bool.false_eq_true, decide_eq_true_eq, and_true, true_and]
  rw [if_neg (by simp)]
  refine W_mono (is_ech_spec ech n1 (by omega) lE (by omega) (by omega)) fun x hx => ?_
  subst hx
  rw [if_neg (by simp), hm', W_some, W_neT (by decide), eqB_self]
  rw [if_neg (by simp)]
  refine W_mono rep fun x hx => ?_
  rw [hx]; clear hx x
  rw [if_neg (by simp)]
  rw [W_seq]
  refine W_forI (fun _ => True) trivial (fun r hr _ _ => ?_) fun _ _ => ?_
  · refine W_bor ?_
    simp only [W_bind, W_some, W_none, W_ite, W_sub, W_mul, W_fdiv, W_fdivZ, W_mod, W_pow, W_app, W_cat, W_len, W_rg1, W_rg2, W_rg3, W_ret, W_retU, W_retX, W_retXU, W_bindX, W_retO, W_noX, W_try, W_eqI, W_neI, W_eqBo, W_neBo, W_set, W_rep, W_map, W_band, W_bor, eq_self, if_true, if_false, Bool.false_eq_true, decide_eq_true_eq, and_true, true_and]
    refine W_mono (reduced_spec (a := 25) (b := 831) (m := 6) ue (hR r hr).1 (by omega) (hR r hr).2 lE (by omega) (by omega)) fun z hz => ?_
    rw [any_zero (red_zero ue hz.1 (to1 r hr))]
    rw [if_neg (by simp)]
    trivial
  simp only [W_bind, W_some, W_none, W_ite, W_sub, W_mul, W_fdiv, W_fdivZ, W_mod, W_pow, W_app, W_cat, W_len, W_rg1, W_rg2, W_rg3, W_ret, W_retU, W_retX, W_retXU, W_bindX, W_retO, W_noX, W_try, W_eqI, W_neI, W_eqBo, W_neBo, W_set, W_rep, W_map, W_band, W_bor, eq_self, if_true, if_false, Bool.false_eq_true, decide_eq_true_eq, and_true, true_and]
  -- the other rows
  refine ⟨by simp; omega, ?_⟩
  obtain ⟨c, hc⟩ : ∃ c, c = q3 - 5 := ⟨_, rfl⟩
  have c0 : c ≠ 0 ∧ c.natAbs ≤ 5 := by omega
  refine W_mapF (fun v => v.map fun x => c * x) (fun v hv => ?_) ?_
  · simp only [W_bind, W_some, W_none, W_ite, W_sub, W_mul, W_fdiv, W_fdivZ, W_mod, W_pow, W_app, W_cat, W_len, W_rg1, W_rg2, W_rg3, W_ret, W_retU, W_retX, W_retXU, W_bindX, W_retO, W_noX, W_try, W_eqI, W_neI, W_eqBo, W_neBo, W_set, W_rep, W_map, W_band, W_bor, eq_self, if_true, if_false, Bool.false_eq_true, decide_eq_true_eq, and_true, true_and]
    have hv : v ∈ R := by simpa using hv
    refine ⟨by rw [(hR v hv).1]; omega, W_mapF (fun x => c * x) (fun x hx => ?_) rfl⟩
    simp only [W_bind, W_some, W_none, W_ite, W_sub, W_mul, W_fdiv, W_fdivZ, W_mod, W_pow, W_app, W_cat, W_len, W_rg1, W_rg2, W_rg3, W_ret, W_retU, W_retX, W_retXU, W_bindX, W_retO, W_noX, W_try, W_eqI, W_neI, W_eqBo, W_neBo, W_set, W_rep, W_map, W_band, W_bor, eq_self, if_true, if_false, Bool.false_eq_true, decide_eq_true_eq, and_true, true_and]
    refine W_mono at3 fun y hy => ?_
    rw [hy, ← hc]
    have := (hR v hv).2 x hx
    exact ⟨mul_ok (a := 25) (b := 25) (by have : (2 : Nat) ^ 25 = 33554432 := by decide
                                          omega) this (by omega), rfl⟩
  have o1 : ∀ v ∈ R.reverse.map (fun v => v.map fun x => c * x), (v.length = n ∧ Lt 29 v) ∧ Lv.Q R (en v) := fun v hv => by
    obtain ⟨w, hw, rfl⟩ := List.mem_map.mp hv
    have hw : w ∈ R := by simpa using hw
    refine ⟨⟨by simp [(hR w hw).1], fun x hx => ?_⟩, ?_⟩
    · obtain ⟨y, hy, rfl⟩ := List.mem_map.mp hx
      have := (hR w hw).2 y hy
      have t25 : (2 : Nat) ^ 25 = 33554432 := by decide
      have t29 : (2 : Nat) ^ 29 = 536870912 := by decide
      rw [t25] at this
      rw [t29]
      have f1 : c = -5 ∨ c = -4 ∨ c = -3 ∨ c = -2 ∨ c = -1 ∨ c = 1 ∨ c = 2 ∨ c = 3 ∨ c = 4 ∨ c = 5 := by omega
      rcases f1 with h | h | h | h | h | h | h | h | h | h <;> rw [h] <;> omega
    · refine (Q.row hw).scale c 1 (by decide) fun j => ?_
      rw [en_map (fun x => c * x) (by omega)]; omega
  have o2 : ∀ r ∈ R, Lv.Q (R.reverse.map (fun v => v.map fun x => c * x)) (en r) := fun r hr => by
    have hm : (r.map fun x => c * x) ∈ R.reverse.map (fun v => v.map fun x => c * x) := List.mem_map.mpr ⟨r, by simpa using hr, rfl⟩
    refine (Q.row hm).scale 1 c c0.1 fun j => ?_
    rw [en_map (fun x => c * x) (by omega)]; omega
  have ol : (R.reverse.map (fun v => v.map fun x => c * x)).length ≤ 6 := by simpa using lR
  generalize R.reverse.map (fun v => v.map fun x => c * x) = O at o1 o2 ol
  refine W_seqJ (fun O => O.length ≤ 7 ∧ (∀ v ∈ O, (v.length = n ∧ Lt 29 v) ∧ Lv.Q R (en v)) ∧ ∀ r ∈ R, Lv.Q O (en r)) ?_ fun O2 hO => ?_
  · simp only [W_bind, W_some, W_none, W_ite, W_sub, W_mul, W_fdiv, W_fdivZ, W_mod, W_pow, W_app, W_cat, W_len, W_rg1, W_rg2, W_rg3, W_ret, W_retU, W_retX, W_retXU, W_bindX, W_retO, W_noX, W_try, W_eqI, W_neI, W_eqBo, W_neBo, W_set, W_rep, W_map, W_band, W_bor, eq_self, if_true, if_false, Bool.false_eq_true, decide_eq_true_eq, and_true, true_and]
    split
    · have l0 : 0 < R.length := by omega
      refine W_atN (n := 0) l0 ?_
      obtain ⟨w, hw, aw⟩ := at_lastN l0
      rw [aw, W_some]
      obtain ⟨a1, a2⟩ := hR _ (List.getElem_mem l0)
      obtain ⟨b1, b2⟩ := hR _ hw
      refine W_mono (sum_spec (n := n) (k := 25) a1 b1 (by omega) a2 b2 (by decide) (by decide) (by omega)) fun v hv => ?_
      subst hv
      refine ⟨by omega, _, rfl, by simp; omega, fun v hv => ?_, fun r hr => (o2 r hr).mono fun e he => List.mem_append_left _ he⟩
      rcases List.mem_append.mp hv with hv | hv
      · exact o1 v hv
      · rw [List.mem_singleton.mp hv]
        refine ⟨⟨lc_len a1 b1, lt_en fun j => ?_⟩, ?_⟩
        · rw [en_lc (by rw [a1, b1])]
          have u1 := en_lt a2 j
          have u2 := en_lt b2 j
          have t25 : (2 : Nat) ^ 25 = 33554432 := by decide
          have t29 : (2 : Nat) ^ 29 = 536870912 := by decide
          rw [t25] at u1 u2
          rw [t29]
          omega
        · refine .lin 3 (-2) 1 (.row (List.getElem_mem l0)) (.row hw) (by decide) fun j => ?_
          rw [en_lc (by rw [a1, b1])]; omega
    · exact ⟨_, rfl, by omega, o1, o2⟩
  obtain ⟨ol, o1, o2⟩ := hO
  refine W_bor ?_
  simp only [W_bind, W_some, W_none, W_ite, W_sub, W_mul, W_fdiv, W_fdivZ, W_mod, W_pow, W_app, W_cat, W_len, W_rg1, W_rg2, W_rg3, W_ret, W_retU, W_retX, W_retXU, W_bindX, W_retO, W_noX, W_try, W_eqI, W_neI, W_eqBo, W_neBo, W_set, W_rep, W_map, W_band, W_bor, eq_self, if_true, if_false, Bool.false_eq_true, decide_eq_true_eq, and_true, true_and]
  refine W_mono (ech_spec (k := 29) n1 (by omega) (fun v hv => (o1 v hv).1) (by omega) (Nat.le_trans (BE_mono (by omega)) BE29)) fun E2 hE2 => ?_
  obtain ⟨ech2, to2, of2, _, _⟩ := hE2
  have : E2 = E' := ech2.uniq ech (fun e he => ((of2 e he).trans fun o ho => (o1 o ho).2).trans to1) (fun e he => ((of1 e he).trans o2).trans to2)
  subst this
  rw [W_neT (by decide), eqB_self]
  rw [if_neg (by simp)]
  refine W_mono (ech_spec (k := 831) n1 (by omega) rE (by omega) (Nat.le_trans (BE_mono (by omega)) BE831)) fun E3 hE3 => ?_
  obtain ⟨ech3, to3, of3, _, _⟩ := hE3
  have : E3 = E2 := all_eq ech ech3 to3 of3
  subst this
  rw [W_neT (by decide), eqB_self]
  rw [if_neg (by simp)]
  refine ⟨sm62 (by omega) (by omega), ?_⟩
  rw [W_seq]
  refine W_for (fun i (T : List (List Int)) => T = tagI i E3) tagI_0.symm (fun i hi T J => ?_) fun T J => ?_
  · rw [rangeL_len] at hi
    have J : T = tagI i E3 := J
    subst J
    rw [rangeL_get]
    have e0 : (0 : Int) + (i : Int) = (i : Int) := by omega
    rw [e0]
    simp only [W_bind, W_some, W_none, W_ite, W_sub, W_mul, W_fdiv, W_fdivZ, W_mod, W_pow, W_app, W_cat, W_len, W_rg1, W_rg2, W_rg3, W_ret, W_retU, W_retX, W_retXU, W_bindX, W_retO, W_noX, W_try, W_eqI, W_neI, W_eqBo, W_neBo, W_set, W_rep, W_map, W_band, W_bor, eq_self, if_true, if_false, Bool.false_eq_true, decide_eq_true_eq, and_true, true_and]
    have hi' : i < E3.length := by omega
    rw [tagI_step hi' (by rw [(ech.row _ (List.getElem_mem hi')).len]; omega)]
    exact W_some.mpr rfl
  · rw [rangeL_len] at J
    have ee : ((E3.length : Int) - 0).toNat = E3.length := by omega
    rw [ee] at J
    have J : T = tag E3 := by rw [← tagI_n]; exact J
    subst J
    have lt : (tag E3).length = E3.length := by simp [tag]
    simp only [W_bind, W_some, W_none, W_ite, W_sub, W_mul, W_fdiv, W_fdivZ, W_mod, W_pow, W_app, W_cat, W_len, W_rg1, W_rg2, W_rg3, W_ret, W_retU, W_retX, W_retXU, W_bindX, W_retO, W_noX, W_try, W_eqI, W_neI, W_eqBo, W_neBo, W_set, W_rep, W_map, W_band, W_bor, eq_self, if_true, if_false, Bool.false_eq_true, decide_eq_true_eq, and_true, true_and]
    refine W_bor ?_
    simp only [W_bind, W_some, W_none, W_ite, W_sub, W_mul, W_fdiv, W_fdivZ, W_mod, W_pow, W_app, W_cat, W_len, W_rg1, W_rg2, W_rg3, W_ret, W_retU, W_retX, W_retXU, W_bindX, W_retO, W_noX, W_try, W_eqI, W_neI, W_eqBo, W_neBo, W_set, W_rep, W_map, W_band, W_bor, eq_self, if_true, if_false, Bool.false_eq_true, decide_eq_true_eq, and_true, true_and]
    refine W_mono rep fun x hx => ?_
    rw [hx]; clear hx x
    rw [if_neg (by simp)]
    refine ⟨by omega, ?_⟩
    refine W_mapN (fun (t : List Int) (x : Int) => ∃ pre, t = pre ++ [x]) (fun t ht => ?_) fun L hL hall => ?_
    · obtain ⟨j, _, rfl⟩ := List.mem_map.mp ht
      simp only [W_bind, W_some, W_none, W_ite, W_sub, W_mul, W_fdiv, W_fdivZ, W_mod, W_pow, W_app, W_cat, W_len, W_rg1, W_rg2, W_rg3, W_ret, W_retU, W_retX, W_retXU, W_bindX, W_retO, W_noX, W_try, W_eqI, W_neI, W_eqBo, W_neBo, W_set, W_rep, W_map, W_band, W_bor, eq_self, if_true, if_false, Bool.false_eq_true, decide_eq_true_eq, and_true, true_and]
      refine ⟨(j : Int), ?_, _, rfl⟩
      have : ixN (E3.getD j [] ++ [(j : Int)]).length (-1) = some (E3.getD j []).length := by
        unfold ixN
        rw [if_neg (by omega), if_pos (by simp; omega)]
        congr 1
        simp
        omega
      unfold atI
      rw [this]
      simp
    · refine ⟨sm62 (by omega) (by omega), by rw [rangeL_len]; omega, W_mapF (fun x => x) (fun x _ => W_some.mpr rfl) ?_⟩
      have eL : L = rangeL 0 ((tag E3).length : Int) := by
        refine List.ext_getElem (by rw [hL, rangeL_len]; omega) fun i h1 h2 => ?_
        have h3 : i < (tag E3).length := by omega
        obtain ⟨pre, hp⟩ := hall i h3 h1
        rw [rangeL_get h2]
        have e1 : (tag E3)[i] = E3.getD i [] ++ [(i : Int)] := by simp [tag]
        rw [e1] at hp
        have := List.append_inj_right' hp rfl
        have : (i : Int) = L[i] := by simpa using this
        rw [← this]; omega
      rw [List.map_id', eL, W_neT (by decide), eqB_self]
      rw [if_neg (by simp)]
      trivial
theorem law_mirror (s : List Int) (hl : s.length ≤ 63) : m_law s = some true := W_of (law_ok s hl)
theorem law_yes (s : List Int) (hl : s.length ≤ 63) (hb : ∀ k ∈ s, Builtin.Int.intBits k ≤ 1048576) : ∃ d, funO [] 1 nm_law.length fb_law [some (.sh (.list (s.map PyData.int)))] = some (.ret (.sh (.bool true)) d) := by
  obtain ⟨o, d, h1, h2⟩ := t_law s true (law_mirror s hl)
  have h2 : o = _ := h2
  subst h2
  exact ⟨d, h1⟩
end Lw
set_option Elab.async false
set_option linter.all false
set_option maxRecDepth 100000
set_option maxHeartbeats 4000000
namespace Lw
open PySem PySem.Spec L2 Fx
section
variable {K : PySem.W.Frag} {h : Heap} {mg : Str → Option Value}
theorem mk_law_draws {f : Addr} {od an : Option Addr} {sl : Array (Option Value)} {oc kV dc pm cd ct : Value} (X : K.In h) (G : h.Ns mainGlobals mg) (a : PySem.W.nsIn K mainGlobals "_law_draws" = some (some (.ref f)))
    (l : K.lookup f = some ⟨oc, od, .func (PySem.W.fnOf "_law_draws" "_law_draws" (defArgs s_law_draws) (defBody s_law_draws) (defScope s_law_draws) .none kV dc pm an cd ct), sl⟩) (c : PySem.W.codeIn K cd "_law_draws" = true) (k : PySem.W.keepIn K (.ref f) = true) :
    ∃ f fd, L2.Fun K "_law_draws" "_law_draws" s_law_draws f fd ∧ mg "_law_draws" = some (.ref f) ∧ Binds K fd ["_law_cell_here", "_law_limits"] [] :=
  have F := fun_mk (st := s_law_draws) l c k
  ⟨_, _, F, PySem.W.mg_of X G a, F.binds (ps := ["_law_cell_here", "_law_limits"]) fun _ _ _ _ _ _ us hl => match us, hl with | [_, _], _ => rfl⟩
theorem mk_pivot_of {f : Addr} {od an : Option Addr} {sl : Array (Option Value)} {oc kV dc pm cd ct : Value} (X : K.In h) (G : h.Ns mainGlobals mg) (a : PySem.W.nsIn K mainGlobals "pivot_of" = some (some (.ref f)))
    (l : K.lookup f = some ⟨oc, od, .func (PySem.W.fnOf "pivot_of" "pivot_of" (defArgs s_pivot_of) (defBody s_pivot_of) (defScope s_pivot_of) .none kV dc pm an cd ct), sl⟩) (c : PySem.W.codeIn K cd "pivot_of" = true) (k : PySem.W.keepIn K (.ref f) = true) :
    ∃ f fd, L2.Fun K "pivot_of" "pivot_of" s_pivot_of f fd ∧ mg "pivot_of" = some (.ref f) ∧ Binds K fd ["vector"] [] :=
  have F := fun_mk (st := s_pivot_of) l c k
  ⟨_, _, F, PySem.W.mg_of X G a, F.binds (ps := ["vector"]) fun _ _ _ _ _ _ us hl => match us, hl with | [_], _ => rfl⟩
theorem mk_common_divisor {f : Addr} {od an : Option Addr} {sl : Array (Option Value)} {oc kV dc pm cd ct : Value} (X : K.In h) (G : h.Ns mainGlobals mg) (a : PySem.W.nsIn K mainGlobals "common_divisor" = some (some (.ref f)))
    (l : K.lookup f = some ⟨oc, od, .func (PySem.W.fnOf "common_divisor" "common_divisor" (defArgs s_common_divisor) (defBody s_common_divisor) (defScope s_common_divisor) .none kV dc pm an cd ct), sl⟩) (c : PySem.W.codeIn K cd "common_divisor" = true) (k : PySem.W.keepIn K (.ref f) = true) :
    ∃ f fd, L2.Fun K "common_divisor" "common_divisor" s_common_divisor f fd ∧ mg "common_divisor" = some (.ref f) ∧ Binds K fd ["vector"] [] :=
  have F := fun_mk (st := s_common_divisor) l c k
  ⟨_, _, F, PySem.W.mg_of X G a, F.binds (ps := ["vector"]) fun _ _ _ _ _ _ us hl => match us, hl with | [_], _ => rfl⟩
theorem mk_primitive {f : Addr} {od an : Option Addr} {sl : Array (Option Value)} {oc kV dc pm cd ct : Value} (X : K.In h) (G : h.Ns mainGlobals mg) (a : PySem.W.nsIn K mainGlobals "primitive" = some (some (.ref f)))
    (l : K.lookup f = some ⟨oc, od, .func (PySem.W.fnOf "primitive" "primitive" (defArgs s_primitive) (defBody s_primitive) (defScope s_primitive) .none kV dc pm an cd ct), sl⟩) (c : PySem.W.codeIn K cd "primitive" = true) (k : PySem.W.keepIn K (.ref f) = true) :
    ∃ f fd, L2.Fun K "primitive" "primitive" s_primitive f fd ∧ mg "primitive" = some (.ref f) ∧ Binds K fd ["vector"] [] :=
  have F := fun_mk (st := s_primitive) l c k
  ⟨_, _, F, PySem.W.mg_of X G a, F.binds (ps := ["vector"]) fun _ _ _ _ _ _ us hl => match us, hl with | [_], _ => rfl⟩
theorem mk_combined {f : Addr} {od an : Option Addr} {sl : Array (Option Value)} {oc kV dc pm cd ct : Value} (X : K.In h) (G : h.Ns mainGlobals mg) (a : PySem.W.nsIn K mainGlobals "combined" = some (some (.ref f)))
    (l : K.lookup f = some ⟨oc, od, .func (PySem.W.fnOf "combined" "combined" (defArgs s_combined) (defBody s_combined) (defScope s_combined) .none kV dc pm an cd ct), sl⟩) (c : PySem.W.codeIn K cd "combined" = true) (k : PySem.W.keepIn K (.ref f) = true) :
    ∃ f fd, L2.Fun K "combined" "combined" s_combined f fd ∧ mg "combined" = some (.ref f) ∧ Binds K fd ["first", "vector", "second", "other"] [] :=
  have F := fun_mk (st := s_combined) l c k
  ⟨_, _, F, PySem.W.mg_of X G a, F.binds (ps := ["first", "vector", "second", "other"]) fun _ _ _ _ _ _ us hl => match us, hl with | [_, _, _, _], _ => rfl⟩
theorem mk_cleared {f : Addr} {od an : Option Addr} {sl : Array (Option Value)} {oc kV dc pm cd ct : Value} (X : K.In h) (G : h.Ns mainGlobals mg) (a : PySem.W.nsIn K mainGlobals "cleared" = some (some (.ref f)))
    (l : K.lookup f = some ⟨oc, od, .func (PySem.W.fnOf "cleared" "cleared" (defArgs s_cleared) (defBody s_cleared) (defScope s_cleared) .none kV dc pm an cd ct), sl⟩) (c : PySem.W.codeIn K cd "cleared" = true) (k : PySem.W.keepIn K (.ref f) = true) :
    ∃ f fd, L2.Fun K "cleared" "cleared" s_cleared f fd ∧ mg "cleared" = some (.ref f) ∧ Binds K fd ["vector", "row", "column"] [] :=
  have F := fun_mk (st := s_cleared) l c k
  ⟨_, _, F, PySem.W.mg_of X G a, F.binds (ps := ["vector", "row", "column"]) fun _ _ _ _ _ _ us hl => match us, hl with | [_, _, _], _ => rfl⟩
def EchP (K : PySem.W.Frag) (mg : Str → Option Value) (ct Pt : Addr) : Prop := (∃ f fd, L2.Fun K "echelon" "echelon" s_echelon f fd ∧ mg "echelon" = some (.ref f) ∧ Binds K fd ["rows"] [] ∧ fd.code = .ref ct) ∧ PySem.W.codeHdIn K ct Pt = true ∧ K.lookup Pt = none
theorem ech_get (X : K.In h) (e : ∃ ct Pt, EchP K mg ct Pt) : ∃ ct Pt, EchP K mg ct Pt := e
theorem mk_echelon {f ct : Addr} {od an : Option Addr} {sl : Array (Option Value)} {oc kV dc pm cc : Value} {Pt : Addr} {oc9 : Value} {od9 : Option Addr} {vs9 : Array Value} {sl9 : Array (Option Value)} (X : K.In h) (G : h.Ns mainGlobals mg) (a : PySem.W.nsIn K mainGlobals "echelon" = some (some (.ref f)))
    (l : K.lookup f = some ⟨oc, od, .func (PySem.W.fnOf "echelon" "echelon" (defArgs s_echelon) (defBody s_echelon) (defScope s_echelon) .none kV dc pm an (.ref ct) cc), sl⟩) (c : PySem.W.codeIn K (.ref ct) "echelon" = true) (k : PySem.W.keepIn K (.ref f) = true)
    (_ : K.lookup ct = some ⟨oc9, od9, .fields vs9, sl9⟩) (_ : (vs9[11]? : Option Value) = some (.ref Pt)) (hc : PySem.W.codeHdIn K ct Pt = true) (hn : K.lookup Pt = none) :
    ∃ ct Pt, EchP K mg ct Pt :=
  have F := fun_mk (st := s_echelon) l c k
  ⟨ct, Pt, ⟨_, _, F, PySem.W.mg_of X G a, F.binds (ps := ["rows"]) fun _ _ _ _ _ _ us hl => match us, hl with | [_], _ => rfl, rfl⟩, hc, hn⟩
theorem mk_law_cell {f : Addr} {od an : Option Addr} {sl : Array (Option Value)} {oc kV dc pm cd ct : Value} (X : K.In h) (G : h.Ns mainGlobals mg) (a : PySem.W.nsIn K mainGlobals "_law_cell" = some (some (.ref f)))
    (l : K.lookup f = some ⟨oc, od, .func (PySem.W.fnOf "_law_cell" "_law_cell" (defArgs s_law_cell) (defBody s_law_cell) (defScope s_law_cell) .none kV dc pm an cd ct), sl⟩) (c : PySem.W.codeIn K cd "_law_cell" = true) (k : PySem.W.keepIn K (.ref f) = true) :
    ∃ f fd, L2.Fun K "_law_cell" "_law_cell" s_law_cell f fd ∧ mg "_law_cell" = some (.ref f) ∧ Binds K fd ["_law_script", "_law_k"] [] :=
  have F := fun_mk (st := s_law_cell) l c k
  ⟨_, _, F, PySem.W.mg_of X G a, F.binds (ps := ["_law_script", "_law_k"]) fun _ _ _ _ _ _ us hl => match us, hl with | [_, _], _ => rfl⟩
theorem mk_law_vector {f : Addr} {od an : Option Addr} {sl : Array (Option Value)} {oc kV dc pm cd ct : Value} (X : K.In h) (G : h.Ns mainGlobals mg) (a : PySem.W.nsIn K mainGlobals "_law_vector" = some (some (.ref f)))
    (l : K.lookup f = some ⟨oc, od, .func (PySem.W.fnOf "_law_vector" "_law_vector" (defArgs s_law_vector) (defBody s_law_vector) (defScope s_law_vector) .none kV dc pm an cd ct), sl⟩) (c : PySem.W.codeIn K cd "_law_vector" = true) (k : PySem.W.keepIn K (.ref f) = true) :
    ∃ f fd, L2.Fun K "_law_vector" "_law_vector" s_law_vector f fd ∧ mg "_law_vector" = some (.ref f) ∧ Binds K fd ["_law_cell_here", "_law_size"] [] :=
  have F := fun_mk (st := s_law_vector) l c k
  ⟨_, _, F, PySem.W.mg_of X G a, F.binds (ps := ["_law_cell_here", "_law_size"]) fun _ _ _ _ _ _ us hl => match us, hl with | [_, _], _ => rfl⟩
theorem mk_law_sum {f : Addr} {od an : Option Addr} {sl : Array (Option Value)} {oc kV dc pm cd ct : Value} (X : K.In h) (G : h.Ns mainGlobals mg) (a : PySem.W.nsIn K mainGlobals "_law_sum" = some (some (.ref f)))
    (l : K.lookup f = some ⟨oc, od, .func (PySem.W.fnOf "_law_sum" "_law_sum" (defArgs s_law_sum) (defBody s_law_sum) (defScope s_law_sum) .none kV dc pm an cd ct), sl⟩) (c : PySem.W.codeIn K cd "_law_sum" = true) (k : PySem.W.keepIn K (.ref f) = true) :
    ∃ f fd, L2.Fun K "_law_sum" "_law_sum" s_law_sum f fd ∧ mg "_law_sum" = some (.ref f) ∧ Binds K fd ["_law_first", "_law_vector_here", "_law_second", "_law_other"] [] :=
  have F := fun_mk (st := s_law_sum) l c k
  ⟨_, _, F, PySem.W.mg_of X G a, F.binds (ps := ["_law_first", "_law_vector_here", "_law_second", "_law_other"]) fun _ _ _ _ _ _ us hl => match us, hl with | [_, _, _, _], _ => rfl⟩
theorem mk_law_pivot {f : Addr} {od an : Option Addr} {sl : Array (Option Value)} {oc kV dc pm cd ct : Value} (X : K.In h) (G : h.Ns mainGlobals mg) (a : PySem.W.nsIn K mainGlobals "_law_pivot" = some (some (.ref f)))
    (l : K.lookup f = some ⟨oc, od, .func (PySem.W.fnOf "_law_pivot" "_law_pivot" (defArgs s_law_pivot) (defBody s_law_pivot) (defScope s_law_pivot) .none kV dc pm an cd ct), sl⟩) (c : PySem.W.codeIn K cd "_law_pivot" = true) (k : PySem.W.keepIn K (.ref f) = true) :
    ∃ f fd, L2.Fun K "_law_pivot" "_law_pivot" s_law_pivot f fd ∧ mg "_law_pivot" = some (.ref f) ∧ Binds K fd ["_law_vector_here"] [] :=
  have F := fun_mk (st := s_law_pivot) l c k
  ⟨_, _, F, PySem.W.mg_of X G a, F.binds (ps := ["_law_vector_here"]) fun _ _ _ _ _ _ us hl => match us, hl with | [_], _ => rfl⟩
theorem mk_law_gcd {f : Addr} {od an : Option Addr} {sl : Array (Option Value)} {oc kV dc pm cd ct : Value} (X : K.In h) (G : h.Ns mainGlobals mg) (a : PySem.W.nsIn K mainGlobals "_law_gcd" = some (some (.ref f)))
    (l : K.lookup f = some ⟨oc, od, .func (PySem.W.fnOf "_law_gcd" "_law_gcd" (defArgs s_law_gcd) (defBody s_law_gcd) (defScope s_law_gcd) .none kV dc pm an cd ct), sl⟩) (c : PySem.W.codeIn K cd "_law_gcd" = true) (k : PySem.W.keepIn K (.ref f) = true) :
    ∃ f fd, L2.Fun K "_law_gcd" "_law_gcd" s_law_gcd f fd ∧ mg "_law_gcd" = some (.ref f) ∧ Binds K fd ["_law_a", "_law_b"] [] :=
  have F := fun_mk (st := s_law_gcd) l c k
  ⟨_, _, F, PySem.W.mg_of X G a, F.binds (ps := ["_law_a", "_law_b"]) fun _ _ _ _ _ _ us hl => match us, hl with | [_, _], _ => rfl⟩
theorem mk_law_primitive {f : Addr} {od an : Option Addr} {sl : Array (Option Value)} {oc kV dc pm cd ct : Value} (X : K.In h) (G : h.Ns mainGlobals mg) (a : PySem.W.nsIn K mainGlobals "_law_primitive" = some (some (.ref f)))
    (l : K.lookup f = some ⟨oc, od, .func (PySem.W.fnOf "_law_primitive" "_law_primitive" (defArgs s_law_primitive) (defBody s_law_primitive) (defScope s_law_primitive) .none kV dc pm an cd ct), sl⟩) (c : PySem.W.codeIn K cd "_law_primitive" = true) (k : PySem.W.keepIn K (.ref f) = true) :
    ∃ f fd, L2.Fun K "_law_primitive" "_law_primitive" s_law_primitive f fd ∧ mg "_law_primitive" = some (.ref f) ∧ Binds K fd ["_law_vector_here"] [] :=
  have F := fun_mk (st := s_law_primitive) l c k
  ⟨_, _, F, PySem.W.mg_of X G a, F.binds (ps := ["_law_vector_here"]) fun _ _ _ _ _ _ us hl => match us, hl with | [_], _ => rfl⟩
theorem mk_law_is_echelon {f : Addr} {od an : Option Addr} {sl : Array (Option Value)} {oc kV dc pm cd ct : Value} (X : K.In h) (G : h.Ns mainGlobals mg) (a : PySem.W.nsIn K mainGlobals "_law_is_echelon" = some (some (.ref f)))
    (l : K.lookup f = some ⟨oc, od, .func (PySem.W.fnOf "_law_is_echelon" "_law_is_echelon" (defArgs s_law_is_echelon) (defBody s_law_is_echelon) (defScope s_law_is_echelon) .none kV dc pm an cd ct), sl⟩) (c : PySem.W.codeIn K cd "_law_is_echelon" = true) (k : PySem.W.keepIn K (.ref f) = true) :
    ∃ f fd, L2.Fun K "_law_is_echelon" "_law_is_echelon" s_law_is_echelon f fd ∧ mg "_law_is_echelon" = some (.ref f) ∧ Binds K fd ["_law_rows", "_law_size"] [] :=
  have F := fun_mk (st := s_law_is_echelon) l c k
  ⟨_, _, F, PySem.W.mg_of X G a, F.binds (ps := ["_law_rows", "_law_size"]) fun _ _ _ _ _ _ us hl => match us, hl with | [_, _], _ => rfl⟩
theorem mk_law_echelon {f : Addr} {od an : Option Addr} {sl : Array (Option Value)} {oc kV dc pm cd ct : Value} (X : K.In h) (G : h.Ns mainGlobals mg) (a : PySem.W.nsIn K mainGlobals "_law_echelon" = some (some (.ref f)))
    (l : K.lookup f = some ⟨oc, od, .func (PySem.W.fnOf "_law_echelon" "_law_echelon" (defArgs s_law_echelon) (defBody s_law_echelon) (defScope s_law_echelon) .none kV dc pm an cd ct), sl⟩) (c : PySem.W.codeIn K cd "_law_echelon" = true) (k : PySem.W.keepIn K (.ref f) = true) :
    ∃ f fd, L2.Fun K "_law_echelon" "_law_echelon" s_law_echelon f fd ∧ mg "_law_echelon" = some (.ref f) ∧ Binds K fd ["_law_rows"] [] :=
  have F := fun_mk (st := s_law_echelon) l c k
  ⟨_, _, F, PySem.W.mg_of X G a, F.binds (ps := ["_law_rows"]) fun _ _ _ _ _ _ us hl => match us, hl with | [_], _ => rfl⟩
theorem mk_reduced {f : Addr} {od an : Option Addr} {sl : Array (Option Value)} {oc kV dc pm cd ct : Value} (X : K.In h) (G : h.Ns mainGlobals mg) (a : PySem.W.nsIn K mainGlobals "reduced" = some (some (.ref f)))
    (l : K.lookup f = some ⟨oc, od, .func (PySem.W.fnOf "reduced" "reduced" (defArgs s_reduced) (defBody s_reduced) (defScope s_reduced) .none kV dc pm an cd ct), sl⟩) (c : PySem.W.codeIn K cd "reduced" = true) (k : PySem.W.keepIn K (.ref f) = true) :
    ∃ f fd, L2.Fun K "reduced" "reduced" s_reduced f fd ∧ mg "reduced" = some (.ref f) ∧ Binds K fd ["vector", "rows"] [] :=
  have F := fun_mk (st := s_reduced) l c k
  ⟨_, _, F, PySem.W.mg_of X G a, F.binds (ps := ["vector", "rows"]) fun _ _ _ _ _ _ us hl => match us, hl with | [_, _], _ => rfl⟩
theorem mk_law {f : Addr} {od an : Option Addr} {sl : Array (Option Value)} {oc kV dc pm cd ct : Value} (X : K.In h) (G : h.Ns mainGlobals mg) (a : PySem.W.nsIn K mainGlobals "law" = some (some (.ref f)))
    (l : K.lookup f = some ⟨oc, od, .func (PySem.W.fnOf "law" "law" (defArgs s_law) (defBody s_law) (defScope s_law) .none kV dc pm an cd ct), sl⟩) (c : PySem.W.codeIn K cd "law" = true) (k : PySem.W.keepIn K (.ref f) = true) :
    ∃ f fd, L2.Fun K "law" "law" s_law f fd ∧ mg "law" = some (.ref f) ∧ Binds K fd ["_law_script"] [] :=
  have F := fun_mk (st := s_law) l c k
  ⟨_, _, F, PySem.W.mg_of X G a, F.binds (ps := ["_law_script"]) fun _ _ _ _ _ _ us hl => match us, hl with | [_], _ => rfl⟩
theorem law_F {l : PySem.W.OpenLaw} {w : World} {fa : Addr} (hfa : mg "law" = some (.ref fa)) {ct Pt : Addr} (T : Tx K mg ct) (hc : PySem.W.codeHdIn K ct Pt = true) (hn : K.lookup Pt = none) :
    ∃ (x : Str) (fd : FuncData) (ct Pt : Addr), (∃ (fl : Addr) (ol : Obj) (fdl : FuncData), mg "echelon" = some (.ref fl) ∧ K.lookup fl = some ol ∧ ol.data = .func fdl ∧ fdl.code = .ref ct) ∧ PySem.W.codeHdIn K ct Pt = true ∧ K.lookup Pt = none ∧ L2.Fun K x x s_law fa fd ∧ (∀ (s : Shared) (u : Value), BindsTo s fd ⟨[u], []⟩ [("_law_script", u)]) ∧
      ∀ base : Heap, K.In base → base.Ns mainGlobals mg → Bl l.prog base mg ct Pt → ∀ (cdv : Value) (A : Around) (outer : List Env) (s : Shared) (H : Hp) (E : XK), Room 47 (A.deeper (PyProof.Rows.envOfC x (defScope s_law) s.heap.objs.size fa cdv)) →
        (A.deeper (PyProof.Rows.envOfC x (defScope s_law) s.heap.objs.size fa cdv)).guards = some [] → ∃ t T, JB ⟨K, [(Pt, "echelon.<locals>.<lambda>")], none, nm_law.length, none⟩ (cxOf CX0 l.prog w K mg base nm_law x (defScope s_law) fa cdv A outer s H E).nox (Zf mg) T (defBody s_law) t fb_law := by
  obtain ⟨f, fd, F, hm, _⟩ := T.F_law
  have e := hfa.symm.trans hm
  cases e
  have hx : ∃ (fl : Addr) (ol : Obj) (fdl : FuncData), mg "echelon" = some (.ref fl) ∧ K.lookup fl = some ol ∧ ol.data = .func fdl ∧ fdl.code = .ref ct := by
    obtain ⟨fe, fde, Fe, hme, _, hce⟩ := T.F_echelon
    obtain ⟨oc, od, kV, doc, pm, an, cdv, c2, osl, rfl, lk, hcd⟩ := Fe.ex
    exact ⟨fe, _, _, hme, lk, rfl, hce⟩
  refine ⟨"law", fd, ct, Pt, hx, hc, hn, F, fun s u => ?_, fun base _ _ B cdv A outer s H E hr hA => d_law T B fa cdv A outer s H E hr hA⟩
  obtain ⟨oc, od, kV, doc, pm, an, cdv, ct, osl, rfl, lk, hcd⟩ := F.ex
  exact .of_eq rfl
end
end Lw
open PySem PySem.W PyProof.Rows
set_option maxHeartbeats 0 in
theorem PySem.Challenge.cw_floodmark_k03_rows_in_echelon_form_holds : PySem.Challenge.rw_floodmark_k03_rows_in_echelon_form.Holds := by
  w_on; o_law; k_head; (case hw => w_witness2)
  k_fill
  refine Fx.walk_GT (xl := "echelon") (qn := "echelon.<locals>.<lambda>") (l := PySem.Challenge.rw_floodmark_k03_rows_in_echelon_form) (n := 63) (k := 47) (N := Lw.nm_law) (v := "_law_script") (st := Lw.s_law) (fb := Lw.fb_law) rfl (by decide) rfl ⟨rfl, by decide, by decide⟩ (fun w h Y => PySem.W.km_in_of Y) (by decide +kernel) rfl (by decide +kernel) ?F Lw.sc_law ?yes
  case yes =>
    intro ns hl hb
    exact Lw.law_yes ns hl hb
  case F =>
    intro w mg fa h KX G hmg
    have m_abs : mg "abs" = none := PySem.W.mg_none_of KX G (by k_is)
    have m_any : mg "any" = none := PySem.W.mg_none_of KX G (by k_is)
    have m_int : mg "int" = none := PySem.W.mg_none_of KX G (by k_is)
    have m_isinstance : mg "isinstance" = none := PySem.W.mg_none_of KX G (by k_is)
    have m_len : mg "len" = none := PySem.W.mg_none_of KX G (by k_is)
    have m_list : mg "list" = none := PySem.W.mg_none_of KX G (by k_is)
    have m_range : mg "range" = none := PySem.W.mg_none_of KX G (by k_is)
    have m_repr : mg "repr" = none := PySem.W.mg_none_of KX G (by k_is)
    have m_reversed : mg "reversed" = none := PySem.W.mg_none_of KX G (by k_is)
    have m_sorted : mg "sorted" = none := PySem.W.mg_none_of KX G (by k_is)
    have m_zip : mg "zip" = none := PySem.W.mg_none_of KX G (by k_is)
    have m_gcd : mg "gcd" = some (.builtin "math.gcd") := PySem.W.mg_of KX G (by k_is)
    have hE := Lw.ech_get (mg := mg) KX (by
      refine' Lw.mk_echelon KX G ?a ?l ?c ?k ?HL ?HV ?HC ?HN
      (case a => k_is); (case l => k_is); (case c => k_is); (case k => k_is); (case HL => k_is); (case HV => rfl); (case HC => rfl); (case HN => rfl))
    obtain ⟨ct, Pt, hE, hc, hn⟩ := hE
    refine Lw.law_F hmg ?TT hc hn
    case TT =>
     refine { m_abs := m_abs, m_any := m_any, m_int := m_int, m_isinstance := m_isinstance, m_len := m_len, m_list := m_list, m_range := m_range, m_repr := m_repr, m_reversed := m_reversed, m_sorted := m_sorted, m_zip := m_zip, m_gcd := m_gcd, F_law_draws := ?F_law_draws, F_pivot_of := ?F_pivot_of, F_common_divisor := ?F_common_divisor, F_primitive := ?F_primitive, F_combined := ?F_combined, F_cleared := ?F_cleared, F_echelon := hE, F_law_cell := ?F_law_cell, F_law_vector := ?F_law_vector, F_law_sum := ?F_law_sum, F_law_pivot := ?F_law_pivot, F_law_gcd := ?F_law_gcd, F_law_primitive := ?F_law_primitive, F_law_is_echelon := ?F_law_is_echelon, F_law_echelon := ?F_law_echelon, F_reduced := ?F_reduced, F_law := ?F_law }
     case F_law_draws =>
      refine' Lw.mk_law_draws KX G ?a ?l ?c ?k
      (case a => k_is); (case l => k_is); (case c => k_is); (case k => k_is)
     case F_pivot_of =>
      refine' Lw.mk_pivot_of KX G ?a ?l ?c ?k
      (case a => k_is); (case l => k_is); (case c => k_is); (case k => k_is)
     case F_common_divisor =>
      refine' Lw.mk_common_divisor KX G ?a ?l ?c ?k
      (case a => k_is); (case l => k_is); (case c => k_is); (case k => k_is)
     case F_primitive =>
      refine' Lw.mk_primitive KX G ?a ?l ?c ?k
      (case a => k_is); (case l => k_is); (case c => k_is); (case k => k_is)
     case F_combined =>
      refine' Lw.mk_combined KX G ?a ?l ?c ?k
      (case a => k_is); (case l => k_is); (case c => k_is); (case k => k_is)
     case F_cleared =>
      refine' Lw.mk_cleared KX G ?a ?l ?c ?k
      (case a => k_is); (case l => k_is); (case c => k_is); (case k => k_is)
     case F_law_cell =>
      refine' Lw.mk_law_cell KX G ?a ?l ?c ?k
      (case a => k_is); (case l => k_is); (case c => k_is); (case k => k_is)
     case F_law_vector =>
      refine' Lw.mk_law_vector KX G ?a ?l ?c ?k
      (case a => k_is); (case l => k_is); (case c => k_is); (case k => k_is)
     case F_law_sum =>
      refine' Lw.mk_law_sum KX G ?a ?l ?c ?k
      (case a => k_is); (case l => k_is); (case c => k_is); (case k => k_is)
     case F_law_pivot =>
      refine' Lw.mk_law_pivot KX G ?a ?l ?c ?k
      (case a => k_is); (case l => k_is); (case c => k_is); (case k => k_is)
     case F_law_gcd =>
      refine' Lw.mk_law_gcd KX G ?a ?l ?c ?k
      (case a => k_is); (case l => k_is); (case c => k_is); (case k => k_is)
     case F_law_primitive =>
      refine' Lw.mk_law_primitive KX G ?a ?l ?c ?k
      (case a => k_is); (case l => k_is); (case c => k_is); (case k => k_is)
     case F_law_is_echelon =>
      refine' Lw.mk_law_is_echelon KX G ?a ?l ?c ?k
      (case a => k_is); (case l => k_is); (case c => k_is); (case k => k_is)
     case F_law_echelon =>
      refine' Lw.mk_law_echelon KX G ?a ?l ?c ?k
      (case a => k_is); (case l => k_is); (case c => k_is); (case k => k_is)
     case F_reduced =>
      refine' Lw.mk_reduced KX G ?a ?l ?c ?k
      (case a => k_is); (case l => k_is); (case c => k_is); (case k => k_is)
     case F_law =>
      refine' Lw.mk_law KX G ?a ?l ?c ?k
      (case a => k_is); (case l => k_is); (case c => k_is); (case k => k_is)
