import PyProof.Rows.All
import Wide.All
import OpenK.AllK
import Wide.FinOn
import HandS.ForMost
import HandS.TupAny
import HandS.IsInst
import HandS.Wide
import HandS.Style
import HandS.Flow
import KE.SortData
import HandS.Zip
import PyProof.MaxThree
import HandS.More
import PyProof.WalksMore
import PyProof.TableTree
import KE.KStateDown
import Lean
import HandS.Defaults
import HandS.Head0
import HandS.Head1
import HandS.Head2
import HandS.HeadEnd
import HandS.HeadHook1
import HandS.HeadHook2
import HandS.HeadHook3
import HandS.HeadHook4
import KE.KIntText
import PySem.Challenge.RW_messageshelf_k26_whole_answers_fit_toget
set_option Elab.async false
set_option linter.all false
set_option maxRecDepth 100000
/-! An abstract layer over HandS: slots hold plain data, what may change is a listed resource; no heap in sight. -/
namespace Ab
open PySem PySem.Spec L2
open PyProof.Rows hiding St

/-- plain data: what a value stands for -/
inductive D where
  | non
  | bl (b : Bool)
  | int (i : Int)
  | str (s : Str)
  | lst (xs : List D)
  | tup (xs : List D)
  | obj (C : Addr) (fs : List (Str × D))
  | scr (ns : List Int)
  | dct (od : Obj) (kvs : List (Key × V))

mutual
/-- the value v is the data d, by what stands in H (or is written) -/
inductive DV (K : PySem.W.Frag) (H : Hp) : V → D → Prop
  | non : DV K H .non .non
  | bl (b : Bool) : DV K H (.bl b) (.bl b)
  | int (i : Int) : DV K H (.int i) (.int i)
  | str (x : Str) : DV K H (.str x) (.str x)
  | lst {a : Addr} {vs : List V} {ds : List D} : H a = some (.lst vs) → DVs K H vs ds → DV K H (.ref a) (.lst ds)
  | tup {a : Addr} {vs : List V} {ds : List D} : SqT K H a vs → DVs K H vs ds → DV K H (.ref a) (.tup ds)
  | obj {a C dx : Addr} {gs : List (Str × V)} {fs : List (Str × D)} : H a = some (.ins C dx gs) → DFs K H gs fs → DV K H (.ref a) (.obj C fs)
  | scr {a : Addr} {ns : List Int} : SqL K H a (ns.map V.int) → DV K H (.ref a) (.scr ns)
  | dct {a : Addr} {od : Obj} {kvs : List (Key × V)} : H a = some (.frz od (.dK kvs)) → DV K H (.ref a) (.dct od kvs)
inductive DVs (K : PySem.W.Frag) (H : Hp) : List V → List D → Prop
  | nil : DVs K H [] []
  | cons {v : V} {vs : List V} {d : D} {ds : List D} : DV K H v d → DVs K H vs ds → DVs K H (v :: vs) (d :: ds)
inductive DFs (K : PySem.W.Frag) (H : Hp) : List (Str × V) → List (Str × D) → Prop
  | nil : DFs K H [] []
  | cons {k : Str} {v : V} {gs : List (Str × V)} {d : D} {fs : List (Str × D)} : DV K H v d → DFs K H gs fs → DFs K H ((k, v) :: gs) ((k, d) :: fs)
end

theorem sqT_mono {K : PySem.W.Frag} {H H' : Hp} {a : Addr} {xs : List V} (e : Same H H') (h : SqT K H a xs) : SqT K H' a xs := by
  rcases h with (h | ⟨o, h⟩) | h
  · exact .inl (.inl (e _ _ h))
  · exact .inl (.inr ⟨o, e _ _ h⟩)
  · exact .inr h
section
variable {K : PySem.W.Frag} {H H' : Hp}
mutual
theorem DV.mono (e : Same H H') : ∀ {v : V} {d : D}, DV K H v d → DV K H' v d
  | _, _, .non => .non
  | _, _, .bl b => .bl b
  | _, _, .int i => .int i
  | _, _, .str x => .str x
  | _, _, .lst h t => .lst (e _ _ h) (DVs.mono e t)
  | _, _, .tup h t => .tup (sqT_mono e h) (DVs.mono e t)
  | _, _, .obj h t => .obj (e _ _ h) (DFs.mono e t)
  | _, _, .scr h => .scr (e.seq h)
  | _, _, .dct h => .dct (e _ _ h)
theorem DVs.mono (e : Same H H') : ∀ {vs : List V} {ds : List D}, DVs K H vs ds → DVs K H' vs ds
  | _, _, .nil => .nil
  | _, _, .cons h t => .cons (DV.mono e h) (DVs.mono e t)
theorem DFs.mono (e : Same H H') : ∀ {gs : List (Str × V)} {fs : List (Str × D)}, DFs K H gs fs → DFs K H' gs fs
  | _, _, .nil => .nil
  | _, _, .cons h t => .cons (DV.mono e h) (DFs.mono e t)
end
theorem DVs.length : ∀ {vs : List V} {ds : List D}, DVs K H vs ds → vs.length = ds.length
  | _, _, .nil => rfl
  | _, _, .cons _ t => congrArg (· + 1) t.length
theorem DVs.get : ∀ {vs : List V} {ds : List D} {i : Nat} {d : D}, DVs K H vs ds → ds[i]? = some d → ∃ v, vs[i]? = some v ∧ DV K H v d
  | _, _, _, _, .nil, e => by simp at e
  | _, _, 0, _, .cons h _, e => by simp at e; subst e; exact ⟨_, rfl, h⟩
  | _, _, i + 1, d, .cons _ t, e => by
    obtain ⟨v, h1, h2⟩ := DVs.get (i := i) (d := d) t (by simpa using e)
    exact ⟨v, by simpa using h1, h2⟩
theorem DVs.getV : ∀ {vs : List V} {ds : List D} {i : Nat} {v : V}, DVs K H vs ds → vs[i]? = some v → ∃ d, ds[i]? = some d ∧ DV K H v d
  | _, _, _, _, .nil, e => by simp at e
  | _, _, 0, _, .cons h _, e => by simp at e; subst e; exact ⟨_, rfl, h⟩
  | _, _, i + 1, d, .cons _ t, e => by
    obtain ⟨v, h1, h2⟩ := DVs.getV (i := i) (v := d) t (by simpa using e)
    exact ⟨v, by simpa using h1, h2⟩
theorem DVs.append : ∀ {vs ws : List V} {ds es : List D}, DVs K H vs ds → DVs K H ws es → DVs K H (vs ++ ws) (ds ++ es)
  | _, _, _, _, .nil, s => s
  | _, _, _, _, .cons r t, s => .cons r (DVs.append t s)
theorem DVs.take : ∀ {vs : List V} {ds : List D} (n : Nat), DVs K H vs ds → DVs K H (vs.take n) (ds.take n)
  | _, _, 0, _ => .nil
  | _, _, _ + 1, .nil => .nil
  | _, _, n + 1, .cons r t => .cons r (DVs.take n t)
theorem DVs.drop : ∀ {vs : List V} {ds : List D} (n : Nat), DVs K H vs ds → DVs K H (vs.drop n) (ds.drop n)
  | _, _, 0, r => r
  | _, _, _ + 1, .nil => .nil
  | _, _, n + 1, .cons _ t => DVs.drop n t
theorem DVs.one {v : V} {d : D} (h : DV K H v d) : DVs K H [v] [d] := .cons h .nil
theorem DVs.set {v : V} {d : D} (h : DV K H v d) : ∀ {vs : List V} {ds : List D} (i : Nat), DVs K H vs ds → DVs K H (vs.set i v) (ds.set i d)
  | _, _, _, .nil => .nil
  | _, _, 0, .cons _ t => .cons h t
  | _, _, i + 1, .cons q t => .cons q (DVs.set h i t)
end

/-- an abstract value: data, or the very value -/
inductive AV where
  | d (x : D)
  | v (w : V)
def AVR (K : PySem.W.Frag) (B : Hp) : V → AV → Prop
  | w, .d x => DV K B w x
  | w, .v u => w = u
section
variable {K : PySem.W.Frag} {B B' : Hp}
theorem AVR.mono (e : Same B B') {w : V} {a : AV} (h : AVR K B w a) : AVR K B' w a := by
  cases a with
  | d x => exact DV.mono e h
  | v u => exact h
end
abbrev AVs (K : PySem.W.Frag) (B : Hp) : List V → List AV → Prop := Paired (AVR K B)
theorem Paired.imp {α β : Type} {R S : α → β → Prop} (h : ∀ a b, R a b → S a b) : ∀ {xs : List α} {ys : List β}, Paired R xs ys → Paired S xs ys
  | _, _, .nil => .nil
  | _, _, .cons r t => .cons (h _ _ r) (Paired.imp h t)
theorem AVs.mono {K : PySem.W.Frag} {B B' : Hp} (e : Same B B') {ws : List V} {as : List AV} (h : AVs K B ws as) : AVs K B' ws as := Paired.imp (fun _ _ r => AVR.mono e r) h

/-- a resource: what stands at an address of its own -/
inductive RV where
  | lst (ds : List D)
  | ins (C dx : Addr) (fs : List (Str × AV))
  | ho (o : HO)
abbrev FsR (K : PySem.W.Frag) (B : Hp) : List (Str × V) → List (Str × AV) → Prop := Paired fun p q => p.1 = q.1 ∧ AVR K B p.2 q.2
def RVR (K : PySem.W.Frag) (B : Hp) (o : Option HO) : RV → Prop
  | .lst ds => ∃ vs, o = some (.lst vs) ∧ DVs K B vs ds
  | .ins C dx fs => ∃ gs, o = some (.ins C dx gs) ∧ FsR K B gs fs
  | .ho u => o = some u
theorem RVR.mono {K : PySem.W.Frag} {B B' : Hp} {o : Option HO} (e : Same B B') {r : RV} (h : RVR K B o r) : RVR K B' o r := by
  cases r with
  | lst ds => obtain ⟨vs, h1, h2⟩ := h; exact ⟨vs, h1, h2.mono e⟩
  | ins C dx fs => obtain ⟨gs, h1, h2⟩ := h; exact ⟨gs, h1, Paired.imp (fun _ _ r => ⟨r.1, r.2.mono e⟩) h2⟩
  | ho u => exact h
theorem RVR.there {K : PySem.W.Frag} {B : Hp} {o : Option HO} {r : RV} (h : RVR K B o r) : o ≠ none := by
  cases r with
  | lst ds => obtain ⟨vs, h1, h2⟩ := h; rw [h1]; simp
  | ins C dx fs => obtain ⟨gs, h1, h2⟩ := h; rw [h1]; simp
  | ho u => rw [show o = some u from h]; simp
abbrev RS := List (Addr × RV)
abbrev AE := List (Option AV)
def dom (R : RS) : List Addr := R.map (·.1)

structure ResR (K : PySem.W.Frag) (B H : Hp) (R : RS) : Prop where
  at_ : ∀ x ∈ R, B x.1 = none ∧ RVR K B (H x.1) x.2
  nd : (dom R).Nodup
structure EnvR (K : PySem.W.Frag) (B : Hp) (σ : St) (ρ : AE) : Prop where
  len : σ.length = ρ.length
  at_ : ∀ (i : Nat) (a : AV), ρ[i]? = some (some a) → ∃ w, σ[i]? = some (some w) ∧ AVR K B w a
structure SR (K : PySem.W.Frag) (B H : Hp) (σ : St) (ρ : AE) (R : RS) : Prop where
  bh : Same B H
  en : EnvR K B σ ρ
  rs : ResR K B H R
/-- from (R, B, H) to (R', B', H'): what is not listed stays -/
structure Step (R : RS) (B H : Hp) (R' : RS) (B' H' : Hp) : Prop where
  bb : Same B B'
  hh : ∀ a o, H a = some o → a ∉ dom R → H' a = some o
  fr : ∀ a, H a ≠ none → B a = none → a ∉ dom R → B' a = none
  al : ∀ a, H a ≠ none → H' a ≠ none
  dm : ∀ a, a ∈ dom R' → a ∈ dom R ∨ H a = none
/-- growth alone -/
structure Gr (B H B' H' : Hp) : Prop where
  bb : Same B B'
  hh : Same H H'
  fr : ∀ a, H a ≠ none → B a = none → B' a = none
  bh : Same B' H'

section
variable {K : PySem.W.Frag} {B H B1 H1 B2 H2 B' H' : Hp} {R R1 R2 R' : RS} {σ σ' : St} {ρ ρ' : AE}
theorem ResR.here (h : ResR K B H R) {x : Addr × RV} (hx : x ∈ R) : H x.1 ≠ none := (h.at_ x hx).2.there
theorem ResR.hereD (h : ResR K B H R) {a : Addr} (ha : a ∈ dom R) : H a ≠ none ∧ B a = none := by
  obtain ⟨x, hx, rfl⟩ := List.mem_map.mp ha
  exact ⟨h.here hx, (h.at_ x hx).1⟩
theorem Step.refl (R : RS) (B H : Hp) : Step R B H R B H := ⟨Same.refl _, fun _ _ h _ => h, fun _ _ h _ => h, fun _ h => h, fun _ h => .inl h⟩
theorem Step.trans (a : Step R B H R1 B1 H1) (b : Step R1 B1 H1 R2 B2 H2) : Step R B H R2 B2 H2 where
  bb := a.bb.trans b.bb
  hh := fun x o h n => b.hh x o (a.hh x o h n) fun m => by
    rcases a.dm x m with q | q
    · exact n q
    · rw [q] at h; cases h
  fr := fun x h e n => b.fr x (a.al x h) (a.fr x h e n) fun m => by
    rcases a.dm x m with q | q
    · exact n q
    · exact h q
  al := fun x h => b.al x (a.al x h)
  dm := fun x m => by
    rcases b.dm x m with q | q
    · exact a.dm x q
    · refine .inr ?_
      cases e : H x with
      | none => rfl
      | some o => exact absurd q (a.al x (by rw [e]; simp))
theorem Gr.step (g : Gr B H B' H') (R : RS) : Step R B H R B' H' :=
  ⟨g.bb, fun a o h _ => g.hh a o h, fun a h e _ => g.fr a h e, fun a h => by
    cases e : H a with
    | none => exact absurd e h
    | some o => rw [g.hh a o e]; simp, fun a h => .inl h⟩
theorem Gr.refl (h : Same B H) : Gr B H B H := ⟨Same.refl _, Same.refl _, fun _ _ h => h, h⟩
theorem Gr.trans (a : Gr B H B1 H1) (b : Gr B1 H1 B2 H2) : Gr B H B2 H2 :=
  ⟨a.bb.trans b.bb, a.hh.trans b.hh, fun x h e => b.fr x (by
    cases q : H x with
    | none => exact absurd q h
    | some o => rw [a.hh x o q]; simp) (a.fr x h e), b.bh⟩
theorem same_upd2 {p : Addr} {o : HO} (h : Same B H) : Same (upd B p o) (upd H p o) := fun b u e => by
  by_cases hb : b = p
  · subst hb; rw [upd_same] at e ⊢; exact e
  · rw [upd_ne hb] at e ⊢; exact h b u e
theorem same_updN {p : Addr} {o : HO} (h : H p = none) : Same H (upd H p o) := fun b u e => by
  rw [upd_ne (ne_of_none e h)]; exact e
theorem sub_none {p : Addr} (h : Same B H) (n : H p = none) : B p = none := Same.free h n
theorem Gr.new {p : Addr} {o : HO} (h : Same B H) (n : H p = none) : Gr B H (upd B p o) (upd H p o) :=
  ⟨same_updN (sub_none h n), same_updN n, fun a ha e => by
    have hne : a ≠ p := fun q => by subst q; exact ha n
    rw [upd_ne hne]; exact e, same_upd2 h⟩
/-- growth that B does not see -/
theorem Gr.newH {p : Addr} {o : HO} (h : Same B H) (n : H p = none) : Gr B H B (upd H p o) :=
  ⟨Same.refl _, same_updN n, fun _ _ e => e, h.trans (same_updN n)⟩
theorem EnvR.mono (e : Same B B') (h : EnvR K B σ ρ) : EnvR K B' σ ρ := ⟨h.len, fun i a q => let ⟨w, h1, h2⟩ := h.at_ i a q; ⟨w, h1, h2.mono e⟩⟩
theorem ResR.grow (h : ResR K B H R) (g : Gr B H B' H') : ResR K B' H' R := ⟨fun x hx => by
  obtain ⟨h1, h2⟩ := h.at_ x hx
  have ne := h2.there
  refine ⟨g.fr _ ne h1, ?_⟩
  cases e : H x.1 with
  | none => exact absurd e ne
  | some o => rw [g.hh _ _ e, ← e]; exact h2.mono g.bb, h.nd⟩
theorem SR.grow (h : SR K B H σ ρ R) (g : Gr B H B' H') : SR K B' H' σ ρ R := ⟨g.bh, h.en.mono g.bb, h.rs.grow g⟩
theorem EnvR.set {w : V} {a : AV} (h : EnvR K B σ ρ) (i : Nat) (r : AVR K B w a) : EnvR K B (σ.set i (some w)) (ρ.set i (some a)) := by
  refine ⟨by rw [List.length_set, List.length_set]; exact h.len, fun j b e => ?_⟩
  by_cases hj : i = j
  · subst hj
    have hl : i < ρ.length := by
      by_cases q : i < ρ.length
      · exact q
      · rw [List.getElem?_eq_none (by rw [List.length_set]; omega)] at e; cases e
    rw [List.getElem?_set_self hl] at e
    cases e
    exact ⟨w, List.getElem?_set_self (by rw [h.len]; exact hl), r⟩
  · rw [List.getElem?_set_ne hj] at e ⊢
    exact h.at_ j b e
theorem EnvR.setN (h : EnvR K B σ ρ) (i : Nat) (w : Option V) : EnvR K B (σ.set i w) (ρ.set i none) := by
  refine ⟨by rw [List.length_set, List.length_set]; exact h.len, fun j b e => ?_⟩
  by_cases hj : i = j
  · subst hj
    have hl : i < ρ.length := by
      by_cases q : i < ρ.length
      · exact q
      · rw [List.getElem?_eq_none (by rw [List.length_set]; omega)] at e; cases e
    rw [List.getElem?_set_self hl] at e
    cases e
  · rw [List.getElem?_set_ne hj] at e ⊢
    exact h.at_ j b e
/-- forgetting slots -/
structure Le (ρ' ρ : AE) : Prop where
  len : ρ'.length = ρ.length
  at_ : ∀ (i : Nat) (a : AV), ρ'[i]? = some (some a) → ρ[i]? = some (some a)
theorem EnvR.weak (h : EnvR K B σ ρ) (l : Le ρ' ρ) : EnvR K B σ ρ' := ⟨h.len.trans l.len.symm, fun i a e => h.at_ i a (l.at_ i a e)⟩
theorem Le.refl (ρ : AE) : Le ρ ρ := ⟨rfl, fun _ _ h => h⟩
theorem Le.nil : Le [] [] := Le.refl _
theorem Le.keep {x : Option AV} (l : Le ρ' ρ) : Le (x :: ρ') (x :: ρ) := ⟨by rw [List.length_cons, List.length_cons, l.len], fun i a e => by
  cases i with
  | zero => exact e
  | succ i => exact l.at_ i a (by simpa using e)⟩
theorem Le.drop {x : Option AV} (l : Le ρ' ρ) : Le (none :: ρ') (x :: ρ) := ⟨by rw [List.length_cons, List.length_cons, l.len], fun i a e => by
  cases i with
  | zero => simp at e
  | succ i => exact l.at_ i a (by simpa using e)⟩
theorem SR.weak (h : SR K B H σ ρ R) (l : Le ρ' ρ) : SR K B H σ ρ' R := ⟨h.bh, h.en.weak l, h.rs⟩
/-- wiped slots -/
def awipe (ρ : AE) : List Nat → AE
  | [] => ρ
  | v :: vs => (awipe ρ vs).set v none
theorem EnvR.wipe (h : EnvR K B σ ρ) : ∀ vs : List Nat, EnvR K B (wipe σ vs) (awipe ρ vs)
  | [] => h
  | v :: vs => (EnvR.wipe h vs).setN v none
theorem SR.wipe (h : SR K B H σ ρ R) (vs : List Nat) : SR K B H (L2.wipe σ vs) (awipe ρ vs) R := ⟨h.bh, h.en.wipe vs, h.rs⟩
theorem SR.perm (h : SR K B H σ ρ R) (p : R.Perm R') : SR K B H σ ρ R' :=
  ⟨h.bh, h.en, ⟨fun x hx => h.rs.at_ x (p.mem_iff.mpr hx), by
    have q : (dom R).Perm (dom R') := p.map (fun x : Addr × RV => x.1)
    exact q.nodup_iff.mp h.rs.nd⟩⟩
theorem Step.permL (h : Step R B H R' B' H') (p : R.Perm R1) : Step R1 B H R' B' H' := by
  have z : (dom R).Perm (dom R1) := p.map (fun x : Addr × RV => x.1)
  have q : ∀ a, a ∈ dom R1 ↔ a ∈ dom R := fun a => z.mem_iff.symm
  exact ⟨h.bb, fun a o x n => h.hh a o x fun m => n ((q a).mpr m), fun a x e n => h.fr a x e fun m => n ((q a).mpr m), h.al, fun a m => (h.dm a m).imp_left (q a).mpr⟩
end
end Ab
set_option Elab.async false
set_option linter.all false
set_option maxRecDepth 100000
set_option maxHeartbeats 1000000
namespace Ab
open PySem PySem.Spec L2
open PyProof.Rows hiding St

/-! ### what holds of a reading: expressions, tests, arguments, parts of a slice, statements -/
structure WE (K : PySem.W.Frag) (te : TE) (ρ : AE) (R : RS) (Φ : AV → RS → Prop) : Prop where
  run : ∀ (B H : Hp) (σ : St) (Q : VK), SR K B H σ ρ R → (∀ (B' H' : Hp) (v : V) (a : AV) (R' : RS), Step R B H R' B' H' → SR K B' H' σ ρ R' → AVR K B' v a → Φ a R' → Q v H') → te σ H Q
structure WT (K : PySem.W.Frag) (tt : TT) (ρ : AE) (R : RS) (Φ : Bool → RS → Prop) : Prop where
  run : ∀ (B H : Hp) (σ : St) (Q : Bool → Hp → Prop), SR K B H σ ρ R → (∀ (B' H' : Hp) (b : Bool) (R' : RS), Step R B H R' B' H' → SR K B' H' σ ρ R' → Φ b R' → Q b H') → tt σ H Q
structure WA (K : PySem.W.Frag) (ta : TA) (ρ : AE) (R : RS) (Φ : List AV → RS → Prop) : Prop where
  run : ∀ (B H : Hp) (σ : St) (Q : List V → Hp → Prop), SR K B H σ ρ R → (∀ (B' H' : Hp) (vs : List V) (as : List AV) (R' : RS), Step R B H R' B' H' → SR K B' H' σ ρ R' → AVs K B' vs as → Φ as R' → Q vs H') → ta σ H Q
structure WO (K : PySem.W.Frag) (to : TO) (ρ : AE) (R : RS) (Φ : Option Int → RS → Prop) : Prop where
  run : ∀ (B H : Hp) (σ : St) (Q : Option Int → Hp → Prop), SR K B H σ ρ R → (∀ (B' H' : Hp) (o : Option Int) (R' : RS), Step R B H R' B' H' → SR K B' H' σ ρ R' → Φ o R' → Q o H') → to σ H Q
/-- the ends of a statement, in abstract words -/
structure AEnds where
  nx : AE → RS → Prop
  rt : AV → RS → Prop
  bk : AE → RS → Prop := fun _ _ => False
  ct : AE → RS → Prop := fun _ _ => False
structure Link (K : PySem.W.Frag) (R : RS) (B H : Hp) (Δ : AEnds) (D : Ends) : Prop where
  nx : ∀ (B' H' : Hp) (σ' : St) (ρ' : AE) (R' : RS), Step R B H R' B' H' → SR K B' H' σ' ρ' R' → Δ.nx ρ' R' → D.nx σ' H'
  rt : ∀ (B' H' : Hp) (v : V) (a : AV) (R' : RS), Step R B H R' B' H' → Same B' H' → ResR K B' H' R' → AVR K B' v a → Δ.rt a R' → D.rt v H'
  bk : ∀ (B' H' : Hp) (σ' : St) (ρ' : AE) (R' : RS), Step R B H R' B' H' → SR K B' H' σ' ρ' R' → Δ.bk ρ' R' → D.bk σ' H'
  ct : ∀ (B' H' : Hp) (σ' : St) (ρ' : AE) (R' : RS), Step R B H R' B' H' → SR K B' H' σ' ρ' R' → Δ.ct ρ' R' → D.ct σ' H'
structure WS (K : PySem.W.Frag) (ts : TS) (ρ : AE) (R : RS) (Δ : AEnds) : Prop where
  run : ∀ (B H : Hp) (σ : St) (D : Ends), SR K B H σ ρ R → Link K R B H Δ D → ts D σ H
theorem Link.step {K : PySem.W.Frag} {R R1 : RS} {B H B1 H1 : Hp} {Δ : AEnds} {D : Ends} (l : Link K R B H Δ D) (s : Step R B H R1 B1 H1) : Link K R1 B1 H1 Δ D :=
  ⟨fun _ _ _ _ _ t => l.nx _ _ _ _ _ (s.trans t), fun _ _ _ _ _ t => l.rt _ _ _ _ _ (s.trans t), fun _ _ _ _ _ t => l.bk _ _ _ _ _ (s.trans t), fun _ _ _ _ _ t => l.ct _ _ _ _ _ (s.trans t)⟩

section
variable {K : PySem.W.Frag} {ρ ρ' : AE} {R R' : RS} {ta tb tc te : TE} {tt tu : TT} {Φ : AV → RS → Prop} {Ψ : Bool → RS → Prop}

/-! ### names, constants -/
theorem we_var {i : Nat} {a : AV} (h : ρ[i]? = some (some a)) (q : Φ a R) : WE K (tVar i) ρ R Φ := ⟨fun B H σ Q S k => by
  obtain ⟨w, h1, h2⟩ := S.en.at_ i a h
  exact ⟨w, h1, k B H w a R (Step.refl _ _ _) S h2 q⟩⟩
def absC : V → AV
  | .non => .d .non
  | .bl b => .d (.bl b)
  | .int i => .d (.int i)
  | .str s => .d (.str s)
  | w => .v w
theorem absC_ok {B : Hp} (w : V) : AVR K B w (absC w) := by
  cases w with
  | non => exact DV.non
  | bl b => exact DV.bl b
  | int i => exact DV.int i
  | str s => exact DV.str s
  | _ => exact (rfl : _ = _)
theorem we_c {w : V} (q : Φ (absC w) R) : WE K (tC w) ρ R Φ := ⟨fun B H σ Q S k => k B H w _ R (Step.refl _ _ _) S (absC_ok w) q⟩
/-- what is written -/
theorem we_w {w : V} {d : D} (h : ∀ B, DV K B w d) (q : Φ (.d d) R) : WE K (tC w) ρ R Φ := ⟨fun B H σ Q S k => k B H w (.d d) R (Step.refl _ _ _) S (h B) q⟩
theorem WE.mono {Φ' : AV → RS → Prop} (h : WE K te ρ R Φ) (q : ∀ a R', Φ a R' → Φ' a R') : WE K te ρ R Φ' := ⟨fun B H σ Q S k => h.run B H σ Q S fun B' H' v a R' s S' r z => k B' H' v a R' s S' r (q a R' z)⟩
theorem WT.mono {Ψ' : Bool → RS → Prop} (h : WT K tt ρ R Ψ) (q : ∀ a R', Ψ a R' → Ψ' a R') : WT K tt ρ R Ψ' := ⟨fun B H σ Q S k => h.run B H σ Q S fun B' H' b R' s S' z => k B' H' b R' s S' (q b R' z)⟩

/-! ### operators by values -/
/-- r does on values what f says on abstract values -/
structure AO (K : PySem.W.Frag) (r : R2) (f : AV → AV → (AV → Prop) → Prop) : Prop where
  run : ∀ (B H : Hp) (x y : V) (a b : AV) (k : AV → Prop) (Q : VK), Same B H → AVR K B x a → AVR K B y b → f a b k → (∀ (B' H' : Hp) (v : V) (c : AV), Gr B H B' H' → AVR K B' v c → k c → Q v H') → r x y H Q
theorem we_op {r : R2} {f : AV → AV → (AV → Prop) → Prop} (ho : AO K r f) (h : WE K ta ρ R fun x R1 => WE K tb ρ R1 fun y R2 => f x y fun z => Φ z R2) : WE K (tOp r ta tb) ρ R Φ := ⟨fun B H σ Q S k => by
  refine h.run B H σ _ S fun B1 H1 x a R1 s1 S1 r1 q1 => ?_
  refine q1.run B1 H1 σ _ S1 fun B2 H2 y b R2 s2 S2 r2 q2 => ?_
  exact ho.run B2 H2 x y a b _ Q S2.bh (r1.mono s2.bb) r2 q2 fun B3 H3 v c g r3 z => k B3 H3 v c R2 ((s1.trans s2).trans (g.step _)) (S2.grow g) r3 z⟩
structure AU (K : PySem.W.Frag) (r : V → Hp → VK → Prop) (f : AV → (AV → Prop) → Prop) : Prop where
  run : ∀ (B H : Hp) (x : V) (a : AV) (k : AV → Prop) (Q : VK), Same B H → AVR K B x a → f a k → (∀ (B' H' : Hp) (v : V) (c : AV), Gr B H B' H' → AVR K B' v c → k c → Q v H') → r x H Q
theorem we_un {r : V → Hp → VK → Prop} {f : AV → (AV → Prop) → Prop} (ho : AU K r f) (h : WE K ta ρ R fun x R1 => f x fun z => Φ z R1) : WE K (tUn r ta) ρ R Φ := ⟨fun B H σ Q S k => by
  refine h.run B H σ _ S fun B1 H1 x a R1 s1 S1 r1 q1 => ?_
  exact ho.run B1 H1 x a _ Q S1.bh r1 q1 fun B3 H3 v c g r3 z => k B3 H3 v c R1 (s1.trans (g.step _)) (S1.grow g) r3 z⟩
/-- a built-in's call by values -/
structure AC (K : PySem.W.Frag) (r : List V → Hp → VK → Prop) (f : List AV → (AV → Prop) → Prop) : Prop where
  run : ∀ (B H : Hp) (xs : List V) (as : List AV) (k : AV → Prop) (Q : VK), Same B H → AVs K B xs as → f as k → (∀ (B' H' : Hp) (v : V) (c : AV), Gr B H B' H' → AVR K B' v c → k c → Q v H') → r xs H Q
theorem we_cb {t : TA} {r : List V → Hp → VK → Prop} {f : List AV → (AV → Prop) → Prop} (ho : AC K r f) (h : WA K t ρ R fun as R1 => f as fun z => Φ z R1) : WE K (tCB r t) ρ R Φ := ⟨fun B H σ Q S k => by
  refine h.run B H σ _ S fun B1 H1 xs as R1 s1 S1 r1 q1 => ?_
  exact ho.run B1 H1 xs as _ Q S1.bh r1 q1 fun B3 H3 v c g r3 z => k B3 H3 v c R1 (s1.trans (g.step _)) (S1.grow g) r3 z⟩

/-! ### arguments, displays -/
theorem wa_nil {Φ : List AV → RS → Prop} (q : Φ [] R) : WA K tNil ρ R Φ := ⟨fun B H σ Q S k => k B H [] [] R (Step.refl _ _ _) S .nil q⟩
theorem wa_cons {t : TA} {Φ : List AV → RS → Prop} (h : WE K ta ρ R fun a R1 => WA K t ρ R1 fun as R2 => Φ (a :: as) R2) : WA K (tCons ta t) ρ R Φ := ⟨fun B H σ Q S k => by
  refine h.run B H σ _ S fun B1 H1 x a R1 s1 S1 r1 q1 => ?_
  refine q1.run B1 H1 σ _ S1 fun B2 H2 xs as R2 s2 S2 r2 q2 => ?_
  exact k B2 H2 (x :: xs) (a :: as) R2 (s1.trans s2) S2 (.cons (r1.mono s2.bb) r2) q2⟩
/-- all are data -/
def datas : List AV → Option (List D)
  | [] => some []
  | .d x :: r => (datas r).map (x :: ·)
  | .v _ :: _ => none
theorem datas_ok {B : Hp} : ∀ {vs : List V} {as : List AV} {ds : List D}, AVs K B vs as → datas as = some ds → DVs K B vs ds
  | _, _, ds, .nil, e => by cases e; exact .nil
  | _, .d x :: r, ds, .cons h t, e => by
    unfold datas at e
    cases q : datas r with
    | none => rw [q] at e; cases e
    | some es => rw [q] at e; cases e; exact .cons h (datas_ok t q)
  | _, .v _ :: r, ds, .cons h t, e => by cases e
theorem dvs_paired {B : Hp} : ∀ {vs : List V} {ds : List D}, DVs K B vs ds → AVs K B vs (ds.map .d)
  | _, _, .nil => .nil
  | _, _, .cons h t => .cons h (dvs_paired t)
theorem small_line {n : Nat} (h : n ≤ 1000000) : n ≤ sizeLine := Nat.le_trans h (by decide)
theorem we_tup {t : TA} (h : WA K t ρ R fun as R1 => ∃ ds, datas as = some ds ∧ ds.length ≤ 1000000 ∧ Φ (.d (.tup ds)) R1) : WE K (tTup t) ρ R Φ := ⟨fun B H σ Q S k => by
  refine h.run B H σ _ S fun B1 H1 xs as R1 s1 S1 r1 ⟨ds, e, hl, q1⟩ => ?_
  have r2 := datas_ok r1 e
  refine ⟨small_line (by rw [r2.length]; exact hl), fun p hp => ?_⟩
  have g := Gr.new (o := .tup xs) S1.bh hp
  exact k _ _ _ (.d (.tup ds)) R1 (s1.trans (g.step _)) (S1.grow g) (DV.tup (SqT.of upd_same) (r2.mono g.bb)) q1⟩
/-- a new list as data -/
theorem we_lst {t : TA} (h : WA K t ρ R fun as R1 => ∃ ds, datas as = some ds ∧ ds.length ≤ 1000000 ∧ Φ (.d (.lst ds)) R1) : WE K (tLst t) ρ R Φ := ⟨fun B H σ Q S k => by
  refine h.run B H σ _ S fun B1 H1 xs as R1 s1 S1 r1 ⟨ds, e, hl, q1⟩ => ?_
  have r2 := datas_ok r1 e
  refine ⟨small_line (by rw [r2.length]; exact hl), fun p hp => ?_⟩
  have g := Gr.new (o := .lst xs) S1.bh hp
  exact k _ _ _ (.d (.lst ds)) R1 (s1.trans (g.step _)) (S1.grow g) (DV.lst upd_same (r2.mono g.bb)) q1⟩
/-- a resource more -/
theorem SR.more {B H : Hp} {σ : St} {p : Addr} {o : HO} {r : RV} (S : SR K B H σ ρ R) (hp : H p = none) (hr : RVR K B (some o) r) : SR K B (upd H p o) σ ρ ((p, r) :: R) ∧ Step R B H ((p, r) :: R) B (upd H p o) := by
  have hB : B p = none := sub_none S.bh hp
  refine ⟨⟨S.bh.trans (same_updN hp), S.en, ⟨fun x hx => ?_, ?_⟩⟩, ⟨Same.refl _, fun a u e _ => same_updN hp a u e, fun a _ e _ => e, fun a h => ?_, fun a m => ?_⟩⟩
  · rcases List.mem_cons.mp hx with rfl | hx
    · exact ⟨hB, by rw [upd_same]; exact hr⟩
    · obtain ⟨h1, h2⟩ := S.rs.at_ x hx
      have hne : x.1 ≠ p := fun e => by
        have := h2.there
        rw [e] at this
        exact this hp
      exact ⟨h1, by rw [upd_ne hne]; exact h2⟩
  · show (p :: dom R).Nodup
    exact List.nodup_cons.mpr ⟨fun m => (S.rs.hereD m).1 hp, S.rs.nd⟩
  · by_cases e : a = p
    · subst e; exact absurd hp h
    · rw [upd_ne e]; exact h
  · have m' : a ∈ p :: dom R := m
    rcases List.mem_cons.mp m' with e | m
    · subst e; exact .inr hp
    · exact .inl m
/-- a new list of one's own -/
theorem we_own {t : TA} (h : WA K t ρ R fun as R1 => ∃ ds, datas as = some ds ∧ ds.length ≤ 1000000 ∧ ∀ p, Φ (.v (.ref p)) ((p, .lst ds) :: R1)) : WE K (tLst t) ρ R Φ := ⟨fun B H σ Q S k => by
  refine h.run B H σ _ S fun B1 H1 xs as R1 s1 S1 r1 ⟨ds, e, hl, q1⟩ => ?_
  have r2 := datas_ok r1 e
  refine ⟨small_line (by rw [r2.length]; exact hl), fun p hp => ?_⟩
  obtain ⟨S2, s2⟩ := SR.more (o := .lst xs) (r := .lst ds) S1 hp ⟨xs, rfl, r2⟩
  exact k _ _ _ (.v (.ref p)) _ (s1.trans s2) S2 rfl (q1 p)⟩

/-! ### tests -/
theorem wt_B (h : WE K te ρ R fun a R1 => ∃ b, a = .d (.bl b) ∧ Ψ b R1) : WT K (tB te) ρ R Ψ := ⟨fun B H σ Q S k => by
  refine h.run B H σ _ S fun B1 H1 x a R1 s1 S1 r1 ⟨b, e, q1⟩ => ?_
  subst e
  cases r1
  exact ⟨b, rfl, k B1 H1 b R1 s1 S1 q1⟩⟩
theorem wt_test (h : WE K te ρ R fun a R1 => ∃ b, a = .d (.bl b) ∧ Ψ b R1) : WT K (tTest te) ρ R Ψ := ⟨fun B H σ Q S k => by
  refine h.run B H σ _ S fun B1 H1 x a R1 s1 S1 r1 ⟨b, e, q1⟩ => ?_
  subst e
  cases r1
  exact ⟨b, rfl, k B1 H1 b R1 s1 S1 q1⟩⟩
theorem wt_yes (q : Ψ true R) : WT K tYes ρ R Ψ := ⟨fun B H σ Q S k => k B H true R (Step.refl _ _ _) S q⟩
theorem wt_not (h : WT K tt ρ R fun b R1 => Ψ (!b) R1) : WT K (tNot tt) ρ R Ψ := ⟨fun B H σ Q S k =>
  h.run B H σ _ S fun B1 H1 b R1 s1 S1 q1 => k B1 H1 (!b) R1 s1 S1 q1⟩
theorem wt_and (h : WT K tt ρ R fun b R1 => (b = true → WT K tu ρ R1 Ψ) ∧ (b = false → Ψ false R1)) : WT K (tAnd tt tu) ρ R Ψ := ⟨fun B H σ Q S k => by
  refine h.run B H σ _ S fun B1 H1 b R1 s1 S1 ⟨q1, q2⟩ => ?_
  cases b with
  | true => exact (q1 rfl).run B1 H1 σ Q S1 fun B2 H2 c R2 s2 S2 q => k B2 H2 c R2 (s1.trans s2) S2 q
  | false => exact k B1 H1 false R1 s1 S1 (q2 rfl)⟩
theorem wt_or (h : WT K tt ρ R fun b R1 => (b = true → Ψ true R1) ∧ (b = false → WT K tu ρ R1 Ψ)) : WT K (tOr tt tu) ρ R Ψ := ⟨fun B H σ Q S k => by
  refine h.run B H σ _ S fun B1 H1 b R1 s1 S1 ⟨q1, q2⟩ => ?_
  cases b with
  | false => exact (q2 rfl).run B1 H1 σ Q S1 fun B2 H2 c R2 s2 S2 q => k B2 H2 c R2 (s1.trans s2) S2 q
  | true => exact k B1 H1 true R1 s1 S1 (q1 rfl)⟩
theorem we_if (h : WT K tt ρ R fun b R1 => (b = true → WE K ta ρ R1 Φ) ∧ (b = false → WE K tb ρ R1 Φ)) : WE K (tIf tt ta tb) ρ R Φ := ⟨fun B H σ Q S k => by
  refine h.run B H σ _ S fun B1 H1 b R1 s1 S1 ⟨q1, q2⟩ => ?_
  cases b with
  | true => exact (q1 rfl).run B1 H1 σ Q S1 fun B2 H2 v a R2 s2 S2 r2 q => k B2 H2 v a R2 (s1.trans s2) S2 r2 q
  | false => exact (q2 rfl).run B1 H1 σ Q S1 fun B2 H2 v a R2 s2 S2 r2 q => k B2 H2 v a R2 (s1.trans s2) S2 r2 q⟩
theorem we_andV (h : WE K ta ρ R fun a R1 => ∃ b, a = .d (.bl b) ∧ (b = true → WE K tb ρ R1 Φ) ∧ (b = false → Φ (.d (.bl false)) R1)) : WE K (tAndV ta tb) ρ R Φ := ⟨fun B H σ Q S k => by
  refine h.run B H σ _ S fun B1 H1 x a R1 s1 S1 r1 ⟨b, e, q1, q2⟩ => ?_
  subst e
  cases r1
  refine ⟨b, rfl, ?_⟩
  cases b with
  | true => exact (q1 rfl).run B1 H1 σ Q S1 fun B2 H2 v a R2 s2 S2 r2 q => k B2 H2 v a R2 (s1.trans s2) S2 r2 q
  | false => exact k B1 H1 _ (.d (.bl false)) R1 s1 S1 (DV.bl false) (q2 rfl)⟩
theorem we_orV (h : WE K ta ρ R fun a R1 => ∃ b, a = .d (.bl b) ∧ (b = true → Φ (.d (.bl true)) R1) ∧ (b = false → WE K tb ρ R1 Φ)) : WE K (tOrV ta tb) ρ R Φ := ⟨fun B H σ Q S k => by
  refine h.run B H σ _ S fun B1 H1 x a R1 s1 S1 r1 ⟨b, e, q1, q2⟩ => ?_
  subst e
  cases r1
  refine ⟨b, rfl, ?_⟩
  cases b with
  | false => exact (q2 rfl).run B1 H1 σ Q S1 fun B2 H2 v a R2 s2 S2 r2 q => k B2 H2 v a R2 (s1.trans s2) S2 r2 q
  | true => exact k B1 H1 _ (.d (.bl true)) R1 s1 S1 (DV.bl true) (q1 rfl)⟩
theorem we_notV (h : WE K ta ρ R fun a R1 => ∃ b, a = .d (.bl b) ∧ Φ (.d (.bl (!b))) R1) : WE K (tNotV ta) ρ R Φ := ⟨fun B H σ Q S k => by
  refine h.run B H σ _ S fun B1 H1 x a R1 s1 S1 r1 ⟨b, e, q1⟩ => ?_
  subst e
  cases r1
  exact ⟨b, rfl, k B1 H1 _ (.d (.bl (!b))) R1 s1 S1 (DV.bl _) q1⟩⟩
theorem we_chain {r r' : R2} {f f' : AV → AV → (AV → Prop) → Prop} (ho : AO K r f) (ho' : AO K r' f')
    (h : WE K ta ρ R fun x R1 => WE K tb ρ R1 fun y R2 => f x y fun z => ∃ b, z = .d (.bl b) ∧ (b = true → WE K tc ρ R2 fun w R3 => f' y w fun u => Φ u R3) ∧ (b = false → Φ (.d (.bl false)) R2)) : WE K (tChain r r' ta tb tc) ρ R Φ := ⟨fun B H σ Q S k => by
  refine h.run B H σ _ S fun B1 H1 x a R1 s1 S1 r1 q1 => ?_
  refine q1.run B1 H1 σ _ S1 fun B2 H2 y b R2 s2 S2 r2 q2 => ?_
  refine ho.run B2 H2 x y a b _ _ S2.bh (r1.mono s2.bb) r2 q2 fun B3 H3 v c g r3 z => ?_
  obtain ⟨bb, e, p1, p2⟩ := z
  subst e
  cases r3
  have S3 := S2.grow g
  have s3 := (s1.trans s2).trans (g.step R2)
  refine ⟨bb, rfl, ?_⟩
  cases bb with
  | true =>
    refine (p1 rfl).run B3 H3 σ _ S3 fun B4 H4 w e R4 s4 S4 r4 q4 => ?_
    exact ho'.run B4 H4 y w b e _ Q S4.bh ((r2.mono g.bb).mono s4.bb) r4 q4 fun B5 H5 v c g5 r5 z5 => k B5 H5 v c R4 ((s3.trans s4).trans (g5.step _)) (S4.grow g5) r5 z5
  | false => exact k B3 H3 _ (.d (.bl false)) R2 s3 S3 (DV.bl false) (p2 rfl)⟩

/-! ### statements -/
variable {t1 t2 : TS} {Δ : AEnds}
theorem ws_next (q : Δ.nx ρ R) : WS K tNext ρ R Δ := ⟨fun B H σ D S l => l.nx B H σ ρ R (Step.refl _ _ _) S q⟩
theorem ws_break (q : Δ.bk ρ R) : WS K tBreak ρ R Δ := ⟨fun B H σ D S l => l.bk B H σ ρ R (Step.refl _ _ _) S q⟩
theorem ws_cont (q : Δ.ct ρ R) : WS K tCont ρ R Δ := ⟨fun B H σ D S l => l.ct B H σ ρ R (Step.refl _ _ _) S q⟩
theorem ws_seq (h : WS K t1 ρ R { Δ with nx := fun ρ1 R1 => WS K t2 ρ1 R1 Δ }) : WS K (tSeq t1 t2) ρ R Δ := ⟨fun B H σ D S l =>
  h.run B H σ _ S ⟨fun B1 H1 σ1 ρ1 R1 s1 S1 q => q.run B1 H1 σ1 D S1 (l.step s1), l.rt, l.bk, l.ct⟩⟩
theorem ws_drop (h : WE K te ρ R fun _ R1 => Δ.nx ρ R1) : WS K (tDrop te) ρ R Δ := ⟨fun B H σ D S l =>
  h.run B H σ _ S fun B1 H1 _ _ R1 s1 S1 _ q => l.nx B1 H1 σ ρ R1 s1 S1 q⟩
theorem ws_ret (h : WE K te ρ R Δ.rt) : WS K (tRet te) ρ R Δ := ⟨fun B H σ D S l =>
  h.run B H σ _ S fun B1 H1 v a R1 s1 S1 r q => l.rt B1 H1 v a R1 s1 S1.bh S1.rs r q⟩
theorem ws_retN (q : Δ.rt (.d .non) R) : WS K tRetN ρ R Δ := ⟨fun B H σ D S l => l.rt B H .non (.d .non) R (Step.refl _ _ _) S.bh S.rs DV.non q⟩
theorem ws_if {u : TS} (h : WT K tt ρ R fun b R1 => (b = true → WS K t1 ρ R1 Δ) ∧ (b = false → WS K u ρ R1 Δ)) : WS K (tIfS tt t1 u) ρ R Δ := ⟨fun B H σ D S l => by
  refine h.run B H σ _ S fun B1 H1 b R1 s1 S1 ⟨q1, q2⟩ => ?_
  cases b with
  | true => exact (q1 rfl).run B1 H1 σ D S1 (l.step s1)
  | false => exact (q2 rfl).run B1 H1 σ D S1 (l.step s1)⟩
theorem SR.set {B H : Hp} {σ : St} {w : V} {a : AV} (S : SR K B H σ ρ R) (i : Nat) (r : AVR K B w a) : SR K B H (σ.set i (some w)) (ρ.set i (some a)) R := ⟨S.bh, S.en.set i r, S.rs⟩
theorem ws_set {i : Nat} (h : WE K te ρ R fun a R1 => Δ.nx (ρ.set i (some a)) R1) : WS K (tAsg te (gName i)) ρ R Δ := ⟨fun B H σ D S l =>
  h.run B H σ _ S fun B1 H1 w a R1 s1 S1 r q => l.nx B1 H1 _ _ R1 s1 (S1.set i r) q⟩
theorem ws_par {i j : Nat} {t : TA} (h : WA K t ρ R fun as R1 => ∃ a b, as = [a, b] ∧ Δ.nx ((ρ.set i (some a)).set j (some b)) R1) : WS K (tPar i j t) ρ R Δ := ⟨fun B H σ D S l => by
  refine h.run B H σ _ S fun B1 H1 ws as R1 s1 S1 r ⟨a, b, e, q⟩ => ?_
  subst e
  cases r with
  | cons r1 r2 =>
    cases r2 with
    | cons r2 r3 =>
      cases r3
      exact ⟨_, _, rfl, l.nx B1 H1 _ _ R1 s1 ((S1.set i r1).set j r2) q⟩⟩
theorem ws_par3 {i j m : Nat} {t : TA} (h : WA K t ρ R fun as R1 => ∃ a b c, as = [a, b, c] ∧ Δ.nx (((ρ.set i (some a)).set j (some b)).set m (some c)) R1) : WS K (tPar3 i j m t) ρ R Δ := ⟨fun B H σ D S l => by
  refine h.run B H σ _ S fun B1 H1 ws as R1 s1 S1 r ⟨a, b, c, e, q⟩ => ?_
  subst e
  cases r with
  | cons r1 r2 =>
    cases r2 with
    | cons r2 r3 =>
      cases r3 with
      | cons r3 r4 =>
        cases r4
        exact ⟨_, _, _, rfl, l.nx B1 H1 _ _ R1 s1 (((S1.set i r1).set j r2).set m r3) q⟩⟩
theorem WS.mono {Δ' : AEnds} (h : WS K t1 ρ R Δ) (h1 : ∀ ρ R, Δ.nx ρ R → Δ'.nx ρ R) (h2 : ∀ a R, Δ.rt a R → Δ'.rt a R) (h3 : ∀ ρ R, Δ.bk ρ R → Δ'.bk ρ R) (h4 : ∀ ρ R, Δ.ct ρ R → Δ'.ct ρ R) : WS K t1 ρ R Δ' := ⟨fun B H σ D S l =>
  h.run B H σ D S ⟨fun B' H' σ' ρ' R' s S' q => l.nx B' H' σ' ρ' R' s S' (h1 _ _ q), fun B' H' v a R' s hb hr r q => l.rt B' H' v a R' s hb hr r (h2 _ _ q), fun B' H' σ' ρ' R' s S' q => l.bk B' H' σ' ρ' R' s S' (h3 _ _ q), fun B' H' σ' ρ' R' s S' q => l.ct B' H' σ' ρ' R' s S' (h4 _ _ q)⟩⟩
theorem ws_weak (l : Le ρ' ρ) (h : WS K t1 ρ' R Δ) : WS K t1 ρ R Δ := ⟨fun B H σ D S k => h.run B H σ D (S.weak l) k⟩
theorem ws_perm (p : R.Perm R') (h : WS K t1 ρ R' Δ) : WS K t1 ρ R Δ := ⟨fun B H σ D S k => by
  have s : Step R B H R' B H := ⟨Same.refl _, fun _ _ h _ => h, fun _ _ h _ => h, fun _ h => h, fun a h => .inl ((p.map (fun x : Addr × RV => x.1)).mem_iff.mpr h)⟩
  exact h.run B H σ D (S.perm p) (k.step s)⟩
/-- a resource becomes data -/
theorem ws_freeze {i : Nat} {p : Addr} {ds : List D} (h1 : ρ[i]? = some (some (.v (.ref p)))) (h2 : R.Perm ((p, .lst ds) :: R')) (h : WS K t1 (ρ.set i (some (.d (.lst ds)))) R' Δ) : WS K t1 ρ R Δ := ws_perm h2 ⟨fun B H σ D S k => by
  obtain ⟨hB, vs, hH, hv⟩ := S.rs.at_ (p, .lst ds) List.mem_cons_self
  have hH : H p = some (.lst vs) := hH
  have hB : B p = none := hB
  have hb : Same B (upd B p (.lst vs)) := same_updN hB
  have nd : (p :: dom R').Nodup := S.rs.nd
  have S1 : SR K (upd B p (.lst vs)) H σ ρ R' := ⟨fun b u e => by
    by_cases q : b = p
    · subst q; rw [upd_same] at e; rw [hH]; exact e
    · rw [upd_ne q] at e; exact S.bh b u e, S.en.mono hb, ⟨fun x hx => by
    obtain ⟨q1, q2⟩ := S.rs.at_ x (List.mem_cons_of_mem _ hx)
    have hne : x.1 ≠ p := fun e => (List.nodup_cons.mp nd).1 (e ▸ List.mem_map.mpr ⟨x, hx, rfl⟩)
    exact ⟨by rw [upd_ne hne]; exact q1, q2.mono hb⟩, (List.nodup_cons.mp nd).2⟩⟩
  obtain ⟨w, e1, e2⟩ := S1.en.at_ i _ h1
  have e2 : w = .ref p := e2
  subst e2
  have hs : σ.set i (some (.ref p)) = σ := by
    apply List.ext_getElem?
    intro j
    by_cases q : i = j
    · subst q
      rw [List.getElem?_set_self (List.getElem?_eq_some_iff.mp e1).1, e1]
    · rw [List.getElem?_set_ne q]
  have S2 := S1.set (w := .ref p) (a := .d (.lst ds)) i (DV.lst upd_same (hv.mono hb))
  rw [hs] at S2
  refine h.run _ H σ D S2 (k.step ⟨hb, fun _ _ h _ => h, fun a _ e n => ?_, fun _ h => h, fun a m => .inl (List.mem_cons_of_mem _ m)⟩)
  have hne : a ≠ p := fun e => n (e ▸ List.mem_cons_self)
  rw [upd_ne hne]; exact e⟩
end
end Ab
set_option Elab.async false
set_option linter.all false
set_option maxRecDepth 100000
set_option maxHeartbeats 1000000
namespace Ab
open PySem PySem.Spec L2
open PyProof.Rows hiding St

/-! ### targets -/
theorem wipe_get (σ : St) (j : Nat) : ∀ vs : List Nat, (wipe σ vs)[j]? = if j ∈ vs then (σ[j]?).map (fun _ => none) else σ[j]?
  | [] => by simp [wipe]
  | v :: vs => by
    have ih := wipe_get σ j vs
    show ((wipe σ vs).set v none)[j]? = _
    by_cases hj : v = j
    · subst hj
      rw [if_pos List.mem_cons_self]
      by_cases hl : v < (wipe σ vs).length
      · rw [List.getElem?_set_self hl]
        have hl' : v < σ.length := by rw [wipe_length] at hl; exact hl
        rw [List.getElem?_eq_getElem hl']
        rfl
      · rw [List.getElem?_eq_none (by rw [List.length_set]; omega)]
        have hl' : ¬ v < σ.length := by rw [wipe_length] at hl; exact hl
        rw [List.getElem?_eq_none (by omega)]
        rfl
    · rw [List.getElem?_set_ne hj, ih]
      by_cases hm : j ∈ vs
      · rw [if_pos hm, if_pos (List.mem_cons_of_mem _ hm)]
      · rw [if_neg hm, if_neg (fun q => by
          rcases List.mem_cons.mp q with e | e
          · exact hj e.symm
          · exact hm e)]
theorem wipe_set {σ : St} {i : Nat} {y : Option V} {vs : List Nat} (h : i ∈ vs) : wipe (σ.set i y) vs = wipe σ vs := by
  apply List.ext_getElem?
  intro j
  rw [wipe_get, wipe_get]
  by_cases hj : i = j
  · subst hj
    rw [if_pos h, if_pos h]
    by_cases hl : i < σ.length
    · rw [List.getElem?_set_self hl, List.getElem?_eq_getElem hl]; rfl
    · rw [List.getElem?_eq_none (by rw [List.length_set]; omega), List.getElem?_eq_none (by omega)]
  · rw [List.getElem?_set_ne hj]
theorem wipe_wipe {σ : St} {vs : List Nat} : wipe (wipe σ vs) vs = wipe σ vs := by
  apply List.ext_getElem?
  intro j
  rw [wipe_get, wipe_get]
  by_cases h : j ∈ vs
  · rw [if_pos h, if_pos h]
    cases σ[j]? <;> rfl
  · rw [if_neg h, if_neg h]

structure GS (K : PySem.W.Frag) (g : TG) (sl : List Nat) (a : AV) (ρ ρ' : AE) : Prop where
  run : ∀ (B H : Hp) (σ : St) (w : V) (Q : St → Hp → Prop), Same B H → EnvR K B σ ρ → AVR K B w a → (∀ σ', EnvR K B σ' ρ' → (∀ vs : List Nat, (∀ i ∈ sl, i ∈ vs) → wipe σ' vs = wipe σ vs) → Q σ' H) → g w σ H Q
structure GSs (K : PySem.W.Frag) (g : TGs) (sl : List Nat) (as : List AV) (ρ ρ' : AE) : Prop where
  run : ∀ (B H : Hp) (σ : St) (ws : List V) (Q : St → Hp → Prop), Same B H → EnvR K B σ ρ → AVs K B ws as → (∀ σ', EnvR K B σ' ρ' → (∀ vs : List Nat, (∀ i ∈ sl, i ∈ vs) → wipe σ' vs = wipe σ vs) → Q σ' H) → g ws σ H Q
section
variable {K : PySem.W.Frag} {ρ ρ' ρ1 ρ2 : AE} {R R' : RS} {ta tb te : TE} {tt : TT} {Φ : AV → RS → Prop} {Δ : AEnds} {a : AV} {as : List AV}
theorem g_name {i : Nat} : GS K (gName i) [i] a ρ (ρ.set i (some a)) := ⟨fun B H σ w Q hb e r k => k _ (e.set i r) fun vs h => wipe_set (h i (by simp))⟩
theorem gs_nil : GSs K gNil [] [] ρ ρ := ⟨fun B H σ ws Q hb e r k => by cases r; exact ⟨rfl, k σ e fun _ _ => rfl⟩⟩
theorem gs_cons {t : TG} {u : TGs} {s1 s2 : List Nat} (h1 : GS K t s1 a ρ ρ1) (h2 : GSs K u s2 as ρ1 ρ2) : GSs K (gCons t u) (s1 ++ s2) (a :: as) ρ ρ2 := ⟨fun B H σ ws Q hb e r k => by
  cases r with
  | cons r1 r2 =>
    refine ⟨_, _, rfl, ?_⟩
    refine h1.run B H σ _ _ hb e r1 fun σ1 e1 w1 => ?_
    refine h2.run B H σ1 _ _ hb e1 r2 fun σ2 e2 w2 => ?_
    exact k σ2 e2 fun vs h => (w2 vs fun i m => h i (List.mem_append_right _ m)).trans (w1 vs fun i m => h i (List.mem_append_left _ m))⟩
theorem g_tup {u : TGs} {sl : List Nat} {n : Nat} {ds : List D} (hn : ds.length = n) (h : GSs K u sl (ds.map .d) ρ ρ') : GS K (gTup K n u) sl (.d (.tup ds)) ρ ρ' := ⟨fun B H σ w Q hb e r k => by
  cases (show DV K B w (.tup ds) from r) with
  | tup hq hv => exact ⟨_, _, rfl, sqT_mono hb hq, by rw [hv.length]; exact hn, h.run B H σ _ Q hb e (dvs_paired hv) k⟩⟩

/-- target = e, the target a written tuple -/
theorem ws_asg {g : TG} (h : WE K te ρ R fun a R1 => ∃ sl ρ1, GS K g sl a ρ ρ1 ∧ Δ.nx ρ1 R1) : WS K (tAsg te g) ρ R Δ := ⟨fun B H σ D S l =>
  h.run B H σ _ S fun B1 H1 w a R1 s1 S1 r ⟨sl, ρ1, hg, q⟩ => hg.run B1 H1 σ w _ S1.bh S1.en r fun σ' e' _ => l.nx B1 H1 σ' ρ1 R1 s1 ⟨S1.bh, e', S1.rs⟩ q⟩

/-! ### what is walked -/
structure ItOk (K : PySem.W.Frag) (J : It) (B : Hp) (ys : List D) : Prop where
  go : ∀ (i : Nat) (y : D) (B2 H2 : Hp), ys[i]? = some y → Same B B2 → Same B2 H2 → J.go i H2 ∧ ∀ x H3, J.yld i H2 x H3 → ∃ B3, Gr B2 H2 B3 H3 ∧ DV K B3 x y
  stop : ∀ (B2 H2 : Hp), Same B B2 → Same B2 H2 → J.stop ys.length H2
structure WI (K : PySem.W.Frag) (wi : TI) (ρ : AE) (R : RS) (Φ : List D → RS → Prop) : Prop where
  run : ∀ (B H : Hp) (σ : St) (Rk : It → Hp → Prop), SR K B H σ ρ R → (∀ (B' H' : Hp) (J : It) (ys : List D) (R' : RS), Step R B H R' B' H' → SR K B' H' σ ρ R' → ItOk K J B' ys → Φ ys R' → Rk J H') → wi σ H Rk
theorem dv_lst {B : Hp} {w : V} {ds : List D} (h : AVR K B w (.d (.lst ds))) : ∃ p vs, w = .ref p ∧ B p = some (.lst vs) ∧ DVs K B vs ds := by
  cases (show DV K B w (.lst ds) from h) with
  | lst h1 h2 => exact ⟨_, _, rfl, h1, h2⟩
theorem dv_tup {B : Hp} {w : V} {ds : List D} (h : AVR K B w (.d (.tup ds))) : ∃ p vs, w = .ref p ∧ SqT K B p vs ∧ DVs K B vs ds := by
  cases (show DV K B w (.tup ds) from h) with
  | tup h1 h2 => exact ⟨_, _, rfl, h1, h2⟩
theorem itl_ok {B : Hp} {p : Addr} {vs : List V} {ds : List D} (h1 : SqL K B p vs) (h2 : DVs K B vs ds) (inj : ∀ B2 xs, Same B B2 → SqL K B2 p xs → xs = vs) : ItOk K (Itl K p) B ds where
  go := fun i y B2 H2 e hb hh => by
    obtain ⟨v, hv, hd⟩ := h2.get e
    refine ⟨⟨vs, v, (hb.trans hh).seq h1, hv⟩, fun x H3 q => ?_⟩
    obtain ⟨rfl, q⟩ := q
    have e2 := q vs ((hb.trans hh).seq h1)
    rw [hv] at e2
    cases e2
    exact ⟨B2, Gr.refl hh, hd.mono hb⟩
  stop := fun B2 H2 hb hh => ⟨vs, (hb.trans hh).seq h1, by rw [h2.length]; exact Nat.le_refl _⟩
theorem wi_list {tl : TE} {Φ : List D → RS → Prop} (h : WE K tl ρ R fun a R1 => ∃ ds, a = .d (.lst ds) ∧ Φ ds R1) : WI K (iList K tl) ρ R Φ := ⟨fun B H σ Rk S k => by
  refine h.run B H σ _ S fun B1 H1 w a R1 s1 S1 r ⟨ds, e, q⟩ => ?_
  subst e
  obtain ⟨p, vs, rfl, h1, h2⟩ := dv_lst r
  refine ⟨p, rfl, ⟨vs, SqL.of (S1.bh _ _ h1)⟩, k B1 H1 _ ds R1 s1 S1 ⟨fun i y B2 H2 e hb hh => ?_, fun B2 H2 hb hh => ⟨vs, SqL.of (hh _ _ (hb _ _ h1)), by rw [h2.length]; exact Nat.le_refl _⟩⟩ q⟩
  obtain ⟨v, hv, hd⟩ := h2.get e
  refine ⟨⟨vs, v, SqL.of (hh _ _ (hb _ _ h1)), hv⟩, fun x H3 q => ?_⟩
  obtain ⟨rfl, q⟩ := q
  have e2 := q vs (SqL.of (hh _ _ (hb _ _ h1)))
  rw [hv] at e2
  cases e2
  exact ⟨B2, Gr.refl hh, hd.mono hb⟩⟩
theorem wi_tup {tl : TE} {Φ : List D → RS → Prop} (h : WE K tl ρ R fun a R1 => ∃ ds, a = .d (.tup ds) ∧ Φ ds R1) : WI K (iTup K tl) ρ R Φ := ⟨fun B H σ Rk S k => by
  refine h.run B H σ _ S fun B1 H1 w a R1 s1 S1 r ⟨ds, e, q⟩ => ?_
  subst e
  obtain ⟨p, vs, rfl, h1, h2⟩ := dv_tup r
  refine ⟨p, rfl, ⟨vs, sqT_mono S1.bh h1⟩, k B1 H1 _ ds R1 s1 S1 ⟨fun i y B2 H2 e hb hh => ?_, fun B2 H2 hb hh => ⟨vs, sqT_mono (hb.trans hh) h1, by rw [h2.length]; exact Nat.le_refl _⟩⟩ q⟩
  obtain ⟨v, hv, hd⟩ := h2.get e
  refine ⟨⟨vs, v, sqT_mono (hb.trans hh) h1, hv⟩, fun x H3 q => ?_⟩
  obtain ⟨rfl, q⟩ := q
  have e2 := q vs (sqT_mono (hb.trans hh) h1)
  rw [hv] at e2
  cases e2
  exact ⟨B2, Gr.refl hh, hd.mono hb⟩⟩
/-- 0, 1, .., n - 1 -/
def upto (n : Nat) : List D := (List.range n).map fun i => D.int (i : Nat)
theorem upto_get {n i : Nat} {y : D} (h : (upto n)[i]? = some y) : i < n ∧ y = .int (i : Nat) := by
  unfold upto at h
  rw [List.getElem?_map] at h
  by_cases hi : i < n
  · rw [List.getElem?_range hi] at h
    cases h
    exact ⟨hi, rfl⟩
  · rw [List.getElem?_eq_none (by simpa using hi)] at h
    cases h
theorem upto_len (n : Nat) : (upto n).length = n := by unfold upto; simp
theorem wi_rng1 {t : TA} {Φ : List D → RS → Prop} (h : WA K t ρ R fun as R1 => ∃ n : Int, as = [.d (.int n)] ∧ -(2 ^ 62) ≤ n ∧ n < 2 ^ 62 ∧ Φ (upto n.toNat) R1) : WI K (iRng1 t) ρ R Φ := ⟨fun B H σ Rk S k => by
  refine h.run B H σ _ S fun B1 H1 ws as R1 s1 S1 r ⟨n, e, h1, h2, q⟩ => ?_
  subst e
  cases r with
  | cons r1 r2 =>
    cases r2
    cases r1
    refine ⟨n, rfl, h1, h2, k B1 H1 _ _ R1 s1 S1 ⟨fun i y B2 H2 e hb hh => ?_, fun B2 H2 _ _ => ?_⟩ q⟩
    · obtain ⟨hi, rfl⟩ := upto_get e
      refine ⟨hi, fun x H3 q => ?_⟩
      obtain ⟨rfl, rfl⟩ := q
      exact ⟨B2, Gr.refl hh, by rw [Int.zero_add]; exact DV.int _⟩
    · rw [upto_len]; exact Nat.le_refl _⟩
theorem wi_rng2 {t : TA} {Φ : List D → RS → Prop} (h : WA K t ρ R fun as R1 => ∃ lo hi : Int, as = [.d (.int lo), .d (.int hi)] ∧ (-(2 ^ 62) ≤ lo ∧ lo < 2 ^ 62 ∧ -(2 ^ 62) ≤ hi ∧ hi < 2 ^ 62) ∧ Φ ((List.range (hi - lo).toNat).map fun i => D.int (lo + (i : Nat))) R1) : WI K (iRng2 t) ρ R Φ := ⟨fun B H σ Rk S k => by
  refine h.run B H σ _ S fun B1 H1 ws as R1 s1 S1 r ⟨lo, hi, e, hb, q⟩ => ?_
  subst e
  cases r with
  | cons r1 r2 =>
    cases r2 with
    | cons r2 r3 =>
      cases r3
      cases r1
      cases r2
      refine ⟨lo, hi, rfl, hb, k B1 H1 _ _ R1 s1 S1 ⟨fun i y B2 H2 e hb hh => ?_, fun B2 H2 _ _ => ?_⟩ q⟩
      · rw [List.getElem?_map] at e
        by_cases hi' : i < (hi - lo).toNat
        · rw [List.getElem?_range hi'] at e
          cases e
          refine ⟨hi', fun x H3 q => ?_⟩
          obtain ⟨rfl, rfl⟩ := q
          exact ⟨B2, Gr.refl hh, DV.int _⟩
        · rw [List.getElem?_eq_none (by simpa using hi')] at e
          cases e
      · rw [List.length_map, List.length_range]; exact Nat.le_refl _⟩
theorem wi_rng3 {t : TA} {Φ : List D → RS → Prop} (h : WA K t ρ R fun as R1 => ∃ (i j c : Int) (n : Nat), as = [.d (.int i), .d (.int j), .d (.int c)] ∧ RgC i j c n ∧ Φ ((List.range n).map fun (k : Nat) => D.int (i + (k : Int) * c)) R1) : WI K (iRng3 t) ρ R Φ := ⟨fun B H σ Rk S k => by
  refine h.run B H σ _ S fun B1 H1 ws as R1 s1 S1 r ⟨i0, j0, c, n, e, hb, q⟩ => ?_
  subst e
  cases r with
  | cons r1 r2 =>
    cases r2 with
    | cons r2 r3 =>
      cases r3 with
      | cons r3 r4 =>
        cases r4
        cases r1
        cases r2
        cases r3
        refine ⟨i0, j0, c, n, rfl, hb, k B1 H1 _ _ R1 s1 S1 ⟨fun i y B2 H2 e hb hh => ?_, fun B2 H2 _ _ => ?_⟩ q⟩
        · rw [List.getElem?_map] at e
          by_cases hi' : i < n
          · rw [List.getElem?_range hi'] at e
            cases e
            refine ⟨hi', fun x H3 q => ?_⟩
            obtain ⟨rfl, rfl⟩ := q
            exact ⟨B2, Gr.refl hh, DV.int _⟩
          · rw [List.getElem?_eq_none (by simpa using hi')] at e
            cases e
        · rw [List.length_map, List.length_range]; exact Nat.le_refl _⟩
/-- (0, x), (1, y), .. -/
def enumD (ds : List D) : List D := ds.zipIdx.map fun p => D.tup [.int (p.2 : Nat), p.1]
theorem enumD_get {ds : List D} {i : Nat} {y : D} (h : (enumD ds)[i]? = some y) : ∃ d, ds[i]? = some d ∧ y = .tup [.int (i : Nat), d] := by
  unfold enumD at h
  rw [List.getElem?_map, List.getElem?_zipIdx] at h
  cases e : ds[i]? with
  | none => rw [e] at h; cases h
  | some d =>
    rw [e] at h
    simp at h
    exact ⟨d, rfl, h.symm⟩
theorem wi_enum {t : TA} {Φ : List D → RS → Prop} (h : WA K t ρ R fun as R1 => ∃ ds, as = [.d (.lst ds)] ∧ Φ (enumD ds) R1) : WI K (iEnum K t) ρ R Φ := ⟨fun B H σ Rk S k => by
  refine h.run B H σ _ S fun B1 H1 ws as R1 s1 S1 r ⟨ds, e, q⟩ => ?_
  subst e
  cases r with
  | cons r1 r2 =>
    cases r2
    obtain ⟨p, vs, rfl, h1, h2⟩ := dv_lst r1
    refine ⟨p, vs, rfl, SqL.of (S1.bh _ _ h1), k B1 H1 _ _ R1 s1 S1 ⟨fun i y B2 H2 e hb hh => ?_, fun B2 H2 hb hh => ?_⟩ q⟩
    · obtain ⟨d, hd, rfl⟩ := enumD_get e
      obtain ⟨v, hv, hvd⟩ := h2.get hd
      have hl : SqL K H2 p vs := SqL.of (hh _ _ (hb _ _ h1))
      refine ⟨⟨vs, v, hl, hv⟩, fun x H3 q => ?_⟩
      obtain ⟨T, z, rfl, nT, rfl, q⟩ := q
      have e2 := q vs hl
      rw [hv] at e2
      cases e2
      have g := Gr.new (o := .tup [.int (i : Nat), v]) hh nT
      exact ⟨_, g, DV.tup (SqT.of upd_same) (.cons (DV.int _) (.cons ((hvd.mono hb).mono g.bb) .nil))⟩
    · refine ⟨vs, SqL.of (hh _ _ (hb _ _ h1)), ?_⟩
      unfold enumD
      rw [List.length_map, List.length_zipIdx, h2.length]
      exact Nat.le_refl _⟩
theorem wi_str {Φ : List D → RS → Prop} (h : WE K te ρ R fun a R1 => ∃ s : Str, a = .d (.str s) ∧ Φ (s.cps.toList.map fun c => D.str ⟨#[c]⟩) R1) : WI K (iStr te) ρ R Φ := ⟨fun B H σ Rk S k => by
  refine h.run B H σ _ S fun B1 H1 w a R1 s1 S1 r ⟨s, e, q⟩ => ?_
  subst e
  cases (show DV K B1 w (.str s) from r)
  refine ⟨s, rfl, k B1 H1 _ _ R1 s1 S1 ⟨fun i y B2 H2 e hb hh => ?_, fun B2 H2 hb hh => ?_⟩ q⟩
  · rw [List.getElem?_map] at e
    cases e2 : s.cps.toList[i]? with
    | none => rw [e2] at e; cases e
    | some c =>
      rw [e2] at e
      cases e
      have hi : s.cps[i]? = some c := by simpa using e2
      refine ⟨?_, fun x H3 q => ?_⟩
      · show i < s.cps.size
        exact (Array.getElem?_eq_some_iff.mp hi).1
      · obtain ⟨rfl, c', h1, rfl⟩ := q
        rw [hi] at h1
        cases h1
        exact ⟨B2, Gr.refl hh, DV.str _⟩
  · show s.cps.size ≤ _
    rw [List.length_map]
    simp⟩

/-! ### loops -/
theorem ws_for {wi : TI} {g : TG} {body : TS} (h : WI K wi ρ R fun ys R1 => ∃ Pv : Nat → AE → RS → Prop, Pv 0 ρ R1 ∧
      (∀ i y ρ' R', ys[i]? = some y → Pv i ρ' R' → ∃ sl ρ2, GS K g sl (.d y) ρ' ρ2 ∧ WS K body ρ2 R' { nx := fun ρ3 R3 => ∃ ρ4, Le ρ4 ρ3 ∧ Pv (i + 1) ρ4 R3, rt := Δ.rt, bk := Δ.nx, ct := fun ρ3 R3 => ∃ ρ4, Le ρ4 ρ3 ∧ Pv (i + 1) ρ4 R3 }) ∧
      (∀ ρ' R', Pv ys.length ρ' R' → Δ.nx ρ' R')) : WS K (tFor wi g body) ρ R Δ := ⟨fun B H σ D S l => by
  refine h.run B H σ _ S fun B1 H1 J ys R1 s1 S1 ok ⟨Pv, p0, turn, fin⟩ => ?_
  refine ⟨fun i m σ' H' => m = ys.length - i ∧ i ≤ ys.length ∧ ∃ B' ρ' R', Step R1 B1 H1 R' B' H' ∧ SR K B' H' σ' ρ' R' ∧ Pv i ρ' R', ⟨ys.length, by simp, Nat.zero_le _, B1, ρ, R1, Step.refl _ _ _, S1, p0⟩, ?_⟩
  rintro i m σ' H' ⟨rfl, hi, B', ρ', R', s', S', p⟩
  by_cases hlt : i < ys.length
  · obtain ⟨hgo, hy⟩ := ok.go i ys[i] B' H' (List.getElem?_eq_getElem hlt) s'.bb S'.bh
    refine .inr ⟨hgo, fun σ3 H3 => ∃ B3 ρ3 R3, Step R1 B1 H1 R3 B3 H3 ∧ SR K B3 H3 σ3 ρ3 R3 ∧ Pv (i + 1) ρ3 R3, fun σ3 H3 ⟨B3, ρ3, R3, a, b, c⟩ => ⟨ys.length - (i + 1), by omega, rfl, hlt, B3, ρ3, R3, a, b, c⟩, fun x H2 y => ?_⟩
    obtain ⟨B2, g2, dv⟩ := hy x H2 y
    have S2 := S'.grow g2
    have s2 := s'.trans (g2.step R')
    obtain ⟨sl, ρ2, hg, hw⟩ := turn i ys[i] ρ' R' (List.getElem?_eq_getElem hlt) p
    refine hg.run B2 H2 σ' x _ S2.bh S2.en dv fun σ2 e2 _ => ?_
    refine hw.run B2 H2 σ2 _ ⟨S2.bh, e2, S2.rs⟩ ⟨fun B3 H3 σ3 ρ3 R3 s3 S3 ⟨ρ4, le, q⟩ => ⟨B3, ρ4, R3, s2.trans s3, S3.weak le, q⟩, ?_, ?_, fun B3 H3 σ3 ρ3 R3 s3 S3 ⟨ρ4, le, q⟩ => ⟨B3, ρ4, R3, s2.trans s3, S3.weak le, q⟩⟩
    · exact fun B3 H3 v a R3 s3 hb hr r q => l.rt B3 H3 v a R3 (s1.trans (s2.trans s3)) hb hr r q
    · exact fun B3 H3 σ3 ρ3 R3 s3 S3 q => l.nx B3 H3 σ3 ρ3 R3 (s1.trans (s2.trans s3)) S3 q
  · have e : i = ys.length := by omega
    subst e
    exact .inl ⟨ok.stop B' H' s'.bb S'.bh, l.nx B' H' σ' ρ' R' (s1.trans s') S' (fin ρ' R' p)⟩⟩
/-- a fold over typed items -/
theorem ws_forF {α β : Type} {wi : TI} {g : TG} {body : TS} (xs : List α) (enc : α → D) (step : β → α → β) (b0 : β) (I : β → AE → RS → Prop) (h : WI K wi ρ R fun ys R1 => ys = xs.map enc ∧ I b0 ρ R1)
    (turn : ∀ (pre : List α) (x : α) (post : List α) (ρ' : AE) (R' : RS), xs = pre ++ x :: post → I (pre.foldl step b0) ρ' R' → ∃ sl ρ2, GS K g sl (.d (enc x)) ρ' ρ2 ∧ WS K body ρ2 R' { nx := fun ρ3 R3 => ∃ ρ4, Le ρ4 ρ3 ∧ I (step (pre.foldl step b0) x) ρ4 R3, rt := Δ.rt, bk := Δ.nx, ct := fun ρ3 R3 => ∃ ρ4, Le ρ4 ρ3 ∧ I (step (pre.foldl step b0) x) ρ4 R3 })
    (fin : ∀ ρ' R', I (xs.foldl step b0) ρ' R' → Δ.nx ρ' R') : WS K (tFor wi g body) ρ R Δ := by
  refine ws_for ⟨fun B H σ Rk S k => h.run B H σ Rk S fun B' H' J ys R' s S' ok ⟨e, q⟩ => k B' H' J ys R' s S' ok ?_⟩
  subst e
  refine ⟨fun i ρ' R' => I ((xs.take i).foldl step b0) ρ' R', q, fun i y ρ' R' hy p => ?_, fun ρ' R' p => fin ρ' R' (by rw [List.length_map, List.take_length] at p; exact p)⟩
  rw [List.getElem?_map] at hy
  have hi : i < xs.length := by
    by_cases q : i < xs.length
    · exact q
    · rw [List.getElem?_eq_none (by omega)] at hy; cases hy
  rw [List.getElem?_eq_getElem hi] at hy
  cases hy
  have e : xs = xs.take i ++ xs[i] :: xs.drop (i + 1) := by
    rw [← List.drop_eq_getElem_cons hi, List.take_append_drop]
  obtain ⟨sl, ρ2, hg, hw⟩ := turn (xs.take i) xs[i] (xs.drop (i + 1)) ρ' R' e p
  have e2 : (xs.take (i + 1)).foldl step b0 = step ((xs.take i).foldl step b0) xs[i] := by
    rw [List.take_add_one, List.getElem?_eq_getElem hi, Option.toList_some, List.foldl_append]
    rfl
  refine ⟨sl, ρ2, hg, ?_⟩
  rw [← e2] at hw
  exact hw
theorem ws_while {c : TT} {body : TS} (W : Nat → AE → RS → Prop) (m0 : Nat) (w0 : W m0 ρ R)
    (turn : ∀ m ρ' R', W m ρ' R' → WT K c ρ' R' fun b R1 => (b = true → WS K body ρ' R1 { nx := fun ρ3 R3 => ∃ m' ρ4, m' < m ∧ Le ρ4 ρ3 ∧ W m' ρ4 R3, rt := Δ.rt, bk := Δ.nx, ct := fun ρ3 R3 => ∃ m' ρ4, m' < m ∧ Le ρ4 ρ3 ∧ W m' ρ4 R3 }) ∧ (b = false → Δ.nx ρ' R1)) : WS K (tWhile c body) ρ R Δ := ⟨fun B H σ D S l => by
  refine ⟨fun m σ' H' => ∃ B' ρ' R', Step R B H R' B' H' ∧ SR K B' H' σ' ρ' R' ∧ W m ρ' R', ⟨m0, B, ρ, R, Step.refl _ _ _, S, w0⟩, ?_⟩
  rintro m σ' H' ⟨B', ρ', R', s', S', w⟩
  refine (turn m ρ' R' w).run B' H' σ' _ S' fun B1 H1 b R1 s1 S1 ⟨q1, q2⟩ => ?_
  cases b with
  | true =>
    rw [if_pos rfl]
    refine ⟨fun σ3 H3 => ∃ m' B3 ρ3 R3, m' < m ∧ Step R B H R3 B3 H3 ∧ SR K B3 H3 σ3 ρ3 R3 ∧ W m' ρ3 R3, fun σ3 H3 ⟨m', B3, ρ3, R3, lt, a, b, c⟩ => ⟨m', lt, B3, ρ3, R3, a, b, c⟩, ?_⟩
    refine (q1 rfl).run B1 H1 σ' _ S1 ⟨fun B3 H3 σ3 ρ3 R3 s3 S3 ⟨m', ρ4, lt, le, q⟩ => ⟨m', B3, ρ4, R3, lt, (s'.trans s1).trans s3, S3.weak le, q⟩, ?_, ?_, fun B3 H3 σ3 ρ3 R3 s3 S3 ⟨m', ρ4, lt, le, q⟩ => ⟨m', B3, ρ4, R3, lt, (s'.trans s1).trans s3, S3.weak le, q⟩⟩
    · exact fun B3 H3 v a R3 s3 hb hr r q => l.rt B3 H3 v a R3 ((s'.trans s1).trans s3) hb hr r q
    · exact fun B3 H3 σ3 ρ3 R3 s3 S3 q => l.nx B3 H3 σ3 ρ3 R3 ((s'.trans s1).trans s3) S3 q
  | false =>
    rw [if_neg Bool.false_ne_true]
    exact l.nx B1 H1 σ' ρ' R1 (s'.trans s1) S1 (q2 rfl)⟩

/-! ### comprehensions -/
theorem we_lc {wi : TI} {g : TG} {vs : List Nat} (h : WI K wi ρ R fun ys R1 => ∃ Pv : Nat → List D → RS → Prop, Pv 0 [] R1 ∧
      (∀ i y acc R', ys[i]? = some y → Pv i acc R' → ∃ sl ρ2, GS K g sl (.d y) (awipe ρ vs) ρ2 ∧ (∀ j ∈ sl, j ∈ vs) ∧ WT K tt ρ2 R' fun b R2 => (b = true → WE K te ρ2 R2 fun a R3 => ∃ z, a = .d z ∧ acc.length < 10000000 ∧ Pv (i + 1) (acc ++ [z]) R3) ∧ (b = false → Pv (i + 1) acc R2)) ∧
      (∀ acc R', Pv ys.length acc R' → Φ (.d (.lst acc)) R')) : WE K (tLc wi g tt te vs) ρ R Φ := ⟨fun B H σ Q S k => by
  refine h.run B H σ _ S fun B1 H1 J ys R1 s1 S1 ok ⟨Pv, p0, turn, fin⟩ => ?_
  intro Dl nD
  have nB : B1 Dl = none := sub_none S1.bh nD
  have g0 := Gr.newH (o := .lst []) S1.bh nD
  have n1 : Dl ∉ dom R1 := fun m => (S1.rs.hereD m).1 nD
  refine ⟨fun i m H' => m = ys.length - i ∧ i ≤ ys.length ∧ ∃ B' R' acc ws, Step R1 B1 H1 R' B' H' ∧ SR K B' H' σ ρ R' ∧ (Dl ∉ dom R' ∧ B' Dl = none) ∧ H' Dl = some (.lst ws) ∧ DVs K B' ws acc ∧ Pv i acc R', ⟨ys.length, by simp, Nat.zero_le _, B1, R1, [], [], g0.step _, S1.grow g0, ⟨n1, nB⟩, upd_same, .nil, p0⟩, ?_⟩
  rintro i m H' ⟨rfl, hi, B', R', acc, ws, s', S', ⟨nR', nB'⟩, hH, hacc, p⟩
  by_cases hlt : i < ys.length
  · obtain ⟨hgo, hy⟩ := ok.go i ys[i] B' H' (List.getElem?_eq_getElem hlt) s'.bb S'.bh
    refine .inr ⟨hgo, fun H3 => ∃ B3 R3 acc3 ws3, Step R1 B1 H1 R3 B3 H3 ∧ SR K B3 H3 σ ρ R3 ∧ (Dl ∉ dom R3 ∧ B3 Dl = none) ∧ H3 Dl = some (.lst ws3) ∧ DVs K B3 ws3 acc3 ∧ Pv (i + 1) acc3 R3, fun H3 ⟨B3, R3, acc3, ws3, a, b, c, d, e, f⟩ => ⟨ys.length - (i + 1), by omega, rfl, hlt, B3, R3, acc3, ws3, a, b, c, d, e, f⟩, fun x H2 y => ?_⟩
    obtain ⟨B2, g2, dv⟩ := hy x H2 y
    have S2 := S'.grow g2
    have s2 := s'.trans (g2.step R')
    have nB2 : B2 Dl = none := g2.fr Dl (by rw [hH]; simp) nB'
    have hH2 : H2 Dl = some (.lst ws) := g2.hh _ _ hH
    obtain ⟨sl, ρ2, hg, hsl, hw⟩ := turn i ys[i] acc R' (List.getElem?_eq_getElem hlt) p
    refine hg.run B2 H2 (wipe σ vs) x _ S2.bh (S2.en.wipe vs) dv fun σ2 e2 w2 => ⟨(w2 vs hsl).trans wipe_wipe, ?_⟩
    refine hw.run B2 H2 σ2 _ ⟨S2.bh, e2, S2.rs⟩ fun B3 H3 b R3 s3 S3 ⟨q1, q2⟩ => ?_
    have s23 := s2.trans s3
    have hH3 : H3 Dl = some (.lst ws) := s3.hh _ _ hH2 nR'
    have nB3 : B3 Dl = none := s3.fr Dl (by rw [hH2]; simp) nB2 nR'
    have nR3 : Dl ∉ dom R3 := fun m => by
      rcases s3.dm Dl m with q | q
      · exact nR' q
      · rw [hH2] at q; cases q
    have S3' : SR K B3 H3 σ ρ R3 := ⟨S3.bh, S2.en.mono s3.bb, S3.rs⟩
    cases b with
    | false =>
      rw [if_neg Bool.false_ne_true]
      exact ⟨B3, R3, acc, ws, s23, S3', ⟨nR3, nB3⟩, hH3, (hacc.mono g2.bb).mono s3.bb, q2 rfl⟩
    | true =>
      rw [if_pos rfl]
      refine (q1 rfl).run B3 H3 σ2 _ S3 fun B4 H4 v a R4 s4 S4 r4 ⟨z, ea, hl, q⟩ => ?_
      subst ea
      have hH4 : H4 Dl = some (.lst ws) := s4.hh _ _ hH3 nR3
      have hacc4 : DVs K B4 ws acc := ((hacc.mono g2.bb).mono s3.bb).mono s4.bb
      have s24 := s23.trans s4
      have S4' : SR K B4 H4 σ ρ R4 := ⟨S4.bh, (S2.en.mono s3.bb).mono s4.bb, S4.rs⟩
      have nB4 : B4 Dl = none := s4.fr Dl (by rw [hH3]; simp) nB3 nR3
      have nR4 : Dl ∉ dom R4 := fun m => by
        rcases s4.dm Dl m with q | q
        · exact nR3 q
        · rw [hH3] at q; cases q
      refine ⟨ws, hH4, Nat.lt_of_lt_of_le (by rw [hacc4.length]; exact hl) (by decide), B4, R4, acc ++ [z], ws ++ [v], ?_, ?_, ⟨nR4, nB4⟩, upd_same, hacc4.append (DVs.one r4), q⟩
      · refine ⟨s24.bb, fun a o h n => ?_, s24.fr, fun a h => ?_, s24.dm⟩
        · rw [upd_ne (ne_of_none h nD)]; exact s24.hh a o h n
        · by_cases e : a = Dl
          · subst e; exact absurd nD h
          · rw [upd_ne e]; exact s24.al a h
      · refine ⟨fun b u e => ?_, S4'.en, ⟨fun x hx => ?_, S4'.rs.nd⟩⟩
        · rw [upd_ne (ne_of_none e nB4)]; exact S4'.bh b u e
        · have hne : x.1 ≠ Dl := fun q => nR4 (List.mem_map.mpr ⟨x, hx, q⟩)
          rw [upd_ne hne]; exact S4'.rs.at_ x hx
  · have e : i = ys.length := by omega
    subst e
    refine .inl ⟨ok.stop B' H' s'.bb S'.bh, ?_⟩
    have hb : Same B' (upd B' Dl (.lst ws)) := same_updN nB'
    refine k (upd B' Dl (.lst ws)) H' (.ref Dl) (.d (.lst acc)) R' (s1.trans ⟨s'.bb.trans hb, s'.hh, fun a h e n => ?_, s'.al, s'.dm⟩) ⟨fun b u e => ?_, S'.en.mono hb, ⟨fun x hx => ?_, S'.rs.nd⟩⟩ (DV.lst upd_same (hacc.mono hb)) (fin acc R' p)
    · have hne : a ≠ Dl := fun q => by subst q; exact h nD
      rw [upd_ne hne]; exact s'.fr a h e n
    · by_cases q : b = Dl
      · subst q; rw [upd_same] at e; rw [hH]; exact e
      · rw [upd_ne q] at e; exact S'.bh b u e
    · obtain ⟨h1, h2⟩ := S'.rs.at_ x hx
      have hne : x.1 ≠ Dl := fun q => nR' (List.mem_map.mpr ⟨x, hx, q⟩)
      exact ⟨by rw [upd_ne hne]; exact h1, h2.mono hb⟩⟩
end
end Ab
set_option Elab.async false
set_option linter.all false
set_option maxRecDepth 100000
set_option maxHeartbeats 1000000
namespace Ab
open PySem PySem.Spec L2
open PyProof.Rows hiding St

/-! ### promises over abstract values -/
abbrev FT := List AV → RS → (AV → RS → Prop) → Prop
def spG (K : PySem.W.Frag) (F : FT) : Sp := fun vs H Q _ => ∃ (B : Hp) (as : List AV) (R : RS), Same B H ∧ AVs K B vs as ∧ ResR K B H R ∧
  F as R fun a R' => ∀ (B' H' : Hp) (v : V), Step R B H R' B' H' → Same B' H' → ResR K B' H' R' → AVR K B' v a → Q v H'
section
variable {K : PySem.W.Frag} {ρ ρ' : AE} {R R' Rc Rf : RS} {ta tb te : TE} {tt : TT} {Φ : AV → RS → Prop} {Δ : AEnds} {B H B' H' : Hp} {σ : St}
theorem dom_append (Rc Rf : RS) : dom (Rc ++ Rf) = dom Rc ++ dom Rf := List.map_append
theorem SR.frame (S : SR K B H σ ρ (Rc ++ Rf)) (s : Step Rc B H R' B' H') (hb : Same B' H') (hr : ResR K B' H' R') : SR K B' H' σ ρ (R' ++ Rf) ∧ Step (Rc ++ Rf) B H (R' ++ Rf) B' H' := by
  have nd : (dom Rc ++ dom Rf).Nodup := by rw [← dom_append]; exact S.rs.nd
  have dj : ∀ a, a ∈ dom Rf → a ∉ dom Rc := fun a h1 h2 => (List.nodup_append.mp nd).2.2 a h2 a h1 rfl
  have hf : ∀ x ∈ Rf, B x.1 = none ∧ RVR K B (H x.1) x.2 := fun x hx => S.rs.at_ x (List.mem_append_right _ hx)
  have hf2 : ∀ x ∈ Rf, B' x.1 = none ∧ RVR K B' (H' x.1) x.2 := fun x hx => by
    obtain ⟨h1, h2⟩ := hf x hx
    have n := dj x.1 (List.mem_map.mpr ⟨x, hx, rfl⟩)
    refine ⟨s.fr _ h2.there h1 n, ?_⟩
    cases e : H x.1 with
    | none => exact absurd e h2.there
    | some o => rw [s.hh _ _ e n, ← e]; exact h2.mono s.bb
  have dj2 : ∀ a, a ∈ dom Rf → a ∉ dom R' := fun a h1 h2 => by
    rcases s.dm a h2 with q | q
    · exact dj a h1 q
    · obtain ⟨x, hx, rfl⟩ := List.mem_map.mp h1
      exact (hf x hx).2.there q
  refine ⟨⟨hb, S.en.mono s.bb, ⟨fun x hx => ?_, ?_⟩⟩, ⟨s.bb, fun a o h n => s.hh a o h fun m => n (by rw [dom_append]; exact List.mem_append_left _ m), fun a h e n => s.fr a h e fun m => n (by rw [dom_append]; exact List.mem_append_left _ m), s.al, fun a m => ?_⟩⟩
  · rcases List.mem_append.mp hx with q | q
    · exact hr.at_ x q
    · exact hf2 x q
  · rw [dom_append]
    exact List.nodup_append.mpr ⟨hr.nd, (List.nodup_append.mp nd).2.1, fun a h1 b h2 e => dj2 b h2 (e ▸ h1)⟩
  · rw [dom_append] at m ⊢
    rcases List.mem_append.mp m with q | q
    · rcases s.dm a q with z | z
      · exact .inl (List.mem_append_left _ z)
      · exact .inr z
    · exact .inl (List.mem_append_right _ q)
theorem Step.perm (p : R.Perm R') : Step R B H R' B H := ⟨Same.refl _, fun _ _ h _ => h, fun _ _ h _ => h, fun _ h => h, fun a h => .inl ((p.map (fun x : Addr × RV => x.1)).mem_iff.mpr h)⟩
/-- a call: the callee takes the resources Rc, the rest Rf is framed -/
theorem we_call {F : FT} {E : XK} {t : TA} (h : WA K t ρ R fun as R1 => ∃ Rc Rf, R1.Perm (Rc ++ Rf) ∧ F as Rc fun a R' => Φ a (R' ++ Rf)) (mono : ∀ as R P P', F as R P → (∀ a R', P a R' → P' a R') → F as R P') : WE K (tCall (spG K F) [] E t) ρ R Φ := ⟨fun B H σ Q S k => by
  refine h.run B H σ _ S fun B1 H1 vs as R1 s1 S1 r1 ⟨Rc, Rf, hp, q⟩ => ?_
  rw [List.append_nil]
  have S2 := S1.perm hp
  refine ⟨B1, as, Rc, S1.bh, r1, ⟨fun x hx => S2.rs.at_ x (List.mem_append_left _ hx), ?_⟩, mono _ _ _ _ q fun a R' z B' H' v st hb hr rv => ?_⟩
  · have := S2.rs.nd
    rw [dom_append] at this
    exact (List.nodup_append.mp this).1
  · obtain ⟨S3, s3⟩ := S2.frame st hb hr
    exact k B' H' v a _ ((s1.trans (Step.perm hp)).trans s3) S3 rv z⟩
/-- .. of no resource -/
abbrev Mono (F : FT) : Prop := ∀ as R P P', F as R P → (∀ a R', P a R' → P' a R') → F as R P'
theorem we_call0 {F : FT} {E : XK} {t : TA} (mono : Mono F) (h : WA K t ρ R fun as R1 => F as [] fun a R' => Φ a (R' ++ R1)) : WE K (tCall (spG K F) [] E t) ρ R Φ :=
  we_call ⟨fun B H σ Q S k => h.run B H σ Q S fun B' H' vs as R' s S' r q => k B' H' vs as R' s S' r ⟨[], R', List.Perm.refl _, q⟩⟩ mono
/-- .. of all resources -/
theorem we_callA {F : FT} {E : XK} {t : TA} (mono : Mono F) (h : WA K t ρ R fun as R1 => F as R1 Φ) : WE K (tCall (spG K F) [] E t) ρ R Φ :=
  we_call ⟨fun B H σ Q S k => h.run B H σ Q S fun B' H' vs as R' s S' r q => k B' H' vs as R' s S' r ⟨R', [], by rw [List.append_nil], mono _ _ _ _ q fun a R'' z => by rw [List.append_nil]; exact z⟩⟩ mono
theorem fs_look : ∀ {gs : List (Str × V)} {fs : List (Str × AV)} {f : Str}, FsR K B gs fs → (gs.lookup f = none ↔ fs.lookup f = none) ∧ ∀ a, fs.lookup f = some a → ∃ v, gs.lookup f = some v ∧ AVR K B v a
  | _, _, _, .nil => ⟨⟨fun _ => rfl, fun _ => rfl⟩, fun a h => by cases h⟩
  | (k, v) :: gs, (k', a) :: fs, f, .cons r t => by
    obtain ⟨e, rv⟩ := r
    cases e
    obtain ⟨h1, h2⟩ := fs_look (f := f) t
    by_cases hk : f == k
    · simp only [List.lookup, hk]
      exact ⟨by simp, fun b hb => ⟨v, rfl, by cases hb; exact rv⟩⟩
    · have hk' : (f == k) = false := by simpa using hk
      simp only [List.lookup, hk']
      exact ⟨h1, h2⟩
theorem dfs_fsr : ∀ {gs : List (Str × V)} {fs : List (Str × D)}, DFs K B gs fs → FsR K B gs (fs.map fun p => (p.1, .d p.2))
  | _, _, .nil => .nil
  | _, _, .cons h t => .cons ⟨rfl, h⟩ (dfs_fsr t)
/-- what an abstract value is as an instance: its class and its fields -/
def insA (R : RS) : AV → Option (Addr × List (Str × AV))
  | .d (.obj C fs) => some (C, fs.map fun p => (p.1, .d p.2))
  | .v (.ref p) => match (R.find? fun (x : Addr × RV) => x.1 == p).map (fun (x : Addr × RV) => x.2) with
    | some (RV.ins C _ fs) => some (C, fs)
    | _ => none
  | _ => none
theorem insA_ok (S : SR K B H σ ρ R) {v : V} {a : AV} {C : Addr} {fs : List (Str × AV)} (r : AVR K B v a) (h : insA R a = some (C, fs)) : ∃ p dx gs, v = .ref p ∧ H p = some (.ins C dx gs) ∧ FsR K B gs fs := by
  cases a with
  | d x =>
    cases x with
    | obj C' fs' =>
      have h' : some (C', fs'.map fun p => (p.1, AV.d p.2)) = some (C, fs) := h
      cases h'
      cases (show DV K B v (.obj C fs') from r) with
      | obj h1 h2 => exact ⟨_, _, _, rfl, S.bh _ _ h1, dfs_fsr h2⟩
    | _ => cases h
  | v w =>
    cases (show v = w from r)
    cases v with
    | ref p =>
      unfold insA at h
      simp only at h
      cases e : R.find? fun x => x.1 == p with
      | none => rw [e] at h; simp at h
      | some x =>
        rw [e] at h
        have hm : x ∈ R := List.mem_of_find?_eq_some e
        have hp : x.1 = p := by simpa using List.find?_some e
        obtain ⟨q, rv⟩ := x
        cases hp
        cases rv with
        | ins C' dx fs' =>
          simp at h
          obtain ⟨rfl, rfl⟩ := h
          obtain ⟨_, gs, h1, h2⟩ := S.rs.at_ _ hm
          exact ⟨_, dx, gs, rfl, h1, h2⟩
        | _ => simp at h
    | _ => cases h
/-- e.f -/
theorem we_fld {f : Str} (h : WE K te ρ R fun a R1 => ∃ C fs b, insA R1 a = some (C, fs) ∧ Cls K C ∧ NoAttr K C f ∧ fs.lookup f = some b ∧ Φ b R1) : WE K (tFld K te f) ρ R Φ := ⟨fun B H σ Q S k => by
  refine h.run B H σ _ S fun B1 H1 v a R1 s1 S1 r1 ⟨C, fs, b, hi, hc, hn, hl, q⟩ => ?_
  obtain ⟨p, dx, gs, rfl, hp, hf⟩ := insA_ok S1 r1 hi
  obtain ⟨w, h1, h2⟩ := (fs_look (f := f) hf).2 b hl
  exact ⟨p, C, dx, gs, w, rfl, hp, hc, hn, h1, k B1 H1 w b R1 s1 S1 h2 q⟩⟩
def aput (f : Str) (v : AV) : List (Str × AV) → List (Str × AV)
  | [] => [(f, v)]
  | (g, x) :: r => if g = f then (g, v) :: r else (g, x) :: aput f v r
theorem fs_put {f : Str} {v : V} {a : AV} (r : AVR K B v a) : ∀ {gs : List (Str × V)} {fs : List (Str × AV)}, FsR K B gs fs → FsR K B (putF f v gs) (aput f a fs)
  | _, _, .nil => .cons ⟨rfl, r⟩ .nil
  | (k, w) :: gs, (k', b) :: fs, .cons q t => by
    obtain ⟨e, rv⟩ := q
    cases e
    show FsR K B (if k = f then (k, v) :: gs else (k, w) :: putF f v gs) (if k = f then (k, a) :: fs else (k, b) :: aput f a fs)
    by_cases hk : k = f
    · rw [if_pos hk, if_pos hk]; exact .cons ⟨rfl, r⟩ t
    · rw [if_neg hk, if_neg hk]; exact .cons ⟨rfl, rv⟩ (fs_put r t)
/-- a resource is changed -/
def setR (R : RS) (p : Addr) (r : RV) : RS := R.map fun x => if x.1 = p then (p, r) else x
theorem dom_setR (R : RS) (p : Addr) (r : RV) : dom (setR R p r) = dom R := by
  unfold dom setR
  rw [List.map_map]
  apply List.map_congr_left
  intro x _
  show (if x.1 = p then (p, r) else x).1 = x.1
  split
  · rename_i h; exact h.symm
  · rfl
theorem SR.setR {p : Addr} {o : HO} {r : RV} (S : SR K B H σ ρ R) (hp : p ∈ dom R) (hr : RVR K B (some o) r) : SR K B (upd H p o) σ ρ (setR R p r) ∧ Step R B H (Ab.setR R p r) B (upd H p o) := by
  obtain ⟨h1, hB⟩ := S.rs.hereD hp
  refine ⟨⟨fun b u e => ?_, S.en, ⟨fun x hx => ?_, by rw [dom_setR]; exact S.rs.nd⟩⟩, ⟨Same.refl _, fun a u e n => ?_, fun a _ e _ => e, fun a e => ?_, fun a m => .inl (by rw [dom_setR] at m; exact m)⟩⟩
  · rw [upd_ne (ne_of_none e hB)]; exact S.bh b u e
  · obtain ⟨y, hy, rfl⟩ := List.mem_map.mp hx
    by_cases e : y.1 = p
    · simp only [if_pos e]
      exact ⟨hB, by rw [upd_same]; exact hr⟩
    · simp only [if_neg e]
      obtain ⟨q1, q2⟩ := S.rs.at_ y hy
      exact ⟨q1, by rw [upd_ne e]; exact q2⟩
  · have hne : a ≠ p := fun q => by subst q; exact n hp
    rw [upd_ne hne]; exact e
  · by_cases q : a = p
    · subst q; rw [upd_same]; simp
    · rw [upd_ne q]; exact e
/-- e.f = value, e an instance of one's own -/
theorem ws_fld {f : Str} {tv : TE} (h : WE K tv ρ R fun b R1 => WE K te ρ R1 fun a R2 => ∃ p C dx fs, a = .v (.ref p) ∧ (p, .ins C dx fs) ∈ R2 ∧ Cls K C ∧ NoAttr K C f ∧ fs.length < 1000 ∧ Δ.nx ρ (setR R2 p (.ins C dx (aput f b fs)))) : WS K (sFld K te tv f) ρ R Δ := ⟨fun B H σ D S l => by
  refine h.run B H σ _ S fun B1 H1 v b R1 s1 S1 r1 q1 => ?_
  refine q1.run B1 H1 σ _ S1 fun B2 H2 w a R2 s2 S2 r2 ⟨p, C, dx, fs, e, hm, hc, hn, hl, q⟩ => ?_
  subst e
  cases (show w = .ref p from r2)
  obtain ⟨_, gs, h1, h2⟩ := S2.rs.at_ _ hm
  have hlen : gs.length = fs.length := Paired.length h2
  have hp : p ∈ dom R2 := List.mem_map.mpr ⟨_, hm, rfl⟩
  obtain ⟨S3, s3⟩ := S2.setR (o := .ins C dx (putF f v gs)) (r := .ins C dx (aput f b fs)) hp ⟨_, rfl, fs_put (r1.mono s2.bb) h2⟩
  exact ⟨p, C, dx, gs, rfl, h1, hc, hn, by omega, l.nx B2 _ σ ρ _ ((s1.trans s2).trans s3) S3 q⟩⟩
/-- a method's call: self is an instance; the callee takes Rc -/
theorem we_meth {F : FT} {E : XK} {t : TA} {C : Addr} {m : Str} (mono : Mono F) (h : WE K te ρ R fun a R1 => ∃ fs, insA R1 a = some (C, fs) ∧ fs.lookup m = none ∧ WA K t ρ R1 fun as R2 => ∃ Rc Rf, R2.Perm (Rc ++ Rf) ∧ F (a :: as) Rc fun b R' => Φ b (R' ++ Rf)) : WE K (tMeth C m (spG K F) [] E te t) ρ R Φ := ⟨fun B H σ Q S k => by
  refine h.run B H σ _ S fun B1 H1 v a R1 s1 S1 r1 ⟨fs, hi, hl, q1⟩ => ?_
  obtain ⟨p, dx, gs, rfl, hp, hf⟩ := insA_ok S1 r1 hi
  refine ⟨p, dx, gs, rfl, hp, (fs_look (f := m) hf).1.mpr hl, ?_⟩
  refine q1.run B1 H1 σ _ S1 fun B2 H2 vs as R2 s2 S2 r2 ⟨Rc, Rf, hp, q⟩ => ?_
  rw [List.append_nil]
  have S3 := S2.perm hp
  refine ⟨B2, a :: as, Rc, S2.bh, .cons (r1.mono s2.bb) r2, ⟨fun x hx => S3.rs.at_ x (List.mem_append_left _ hx), ?_⟩, mono _ _ _ _ q fun a R' z B' H' v st hb hr rv => ?_⟩
  · have := S3.rs.nd
    rw [dom_append] at this
    exact (List.nodup_append.mp this).1
  · obtain ⟨S4, s4⟩ := S3.frame st hb hr
    exact k B' H' v a _ (((s1.trans s2).trans (Step.perm hp)).trans s4) S4 rv z⟩
/-- a new instance -/
theorem we_make {F : FT} {E : XK} {t : TA} {C : Addr} (mono : Mono F) (h : WA K t ρ R fun as R1 => ∃ Rc Rf, R1.Perm (Rc ++ Rf) ∧ ∀ x dx, F (.v (.ref x) :: as) ((x, .ins C dx []) :: Rc) fun a R' => a = .d .non ∧ Φ (.v (.ref x)) (R' ++ Rf)) : WE K (tMake C (spG K F) [] E t) ρ R Φ := ⟨fun B H σ Q S k => by
  refine h.run B H σ _ S fun B1 H1 vs as R1 s1 S1 r1 ⟨Rc, Rf, hp, q⟩ => ?_
  intro x dx nx ndx nex
  rw [List.append_nil]
  have S2 := S1.perm hp
  have g := Gr.newH (o := .own x) S2.bh ndx
  have S3 := S2.grow g
  have nx' : (upd H1 dx (.own x)) x = none := by rw [upd_ne (Ne.symm nex)]; exact nx
  obtain ⟨S4, s4⟩ := SR.more (o := .ins C dx []) (r := .ins C dx []) S3 nx' ⟨[], rfl, .nil⟩
  have S4' : SR K B1 _ σ ρ (((x, .ins C dx []) :: Rc) ++ Rf) := S4
  refine ⟨B1, .v (.ref x) :: as, (x, .ins C dx []) :: Rc, S4.bh, .cons rfl r1, ⟨fun y hy => S4'.rs.at_ y (List.mem_append_left _ hy), ?_⟩, mono _ _ _ _ (q x dx) fun a R' ⟨ea, z⟩ B' H' v st hb hr rv => ?_⟩
  · have := S4'.rs.nd
    rw [dom_append] at this
    exact (List.nodup_append.mp this).1
  · subst ea
    cases (show DV K B' v .non from rv)
    obtain ⟨S5, s5⟩ := S4'.frame st hb hr
    refine ⟨rfl, k B' H' (.ref x) (.v (.ref x)) _ ((((s1.trans (Step.perm hp)).trans (g.step _)).trans s4).trans s5) S5 rfl z⟩⟩

/-! ### a def -/
def astart (N : List Str) (as : List AV) : AE := as.map some ++ List.replicate (N.length - as.length) none
theorem env_start {N : List Str} {vs : List V} {as : List AV} (r : AVs K B vs as) : EnvR K B (L2.start N vs) (astart N as) := by
  have hl := Paired.length r
  refine ⟨?_, fun i a e => ?_⟩
  · unfold L2.start astart
    rw [List.length_append, List.length_append, List.length_map, List.length_map, List.length_replicate, List.length_replicate, hl]
  · unfold astart at e
    unfold L2.start
    by_cases hi : i < as.length
    · rw [List.getElem?_append_left (by simpa using hi), List.getElem?_map] at e
      rw [List.getElem?_append_left (by rw [List.length_map, hl]; exact hi), List.getElem?_map]
      have key : ∀ {vs : List V} {as : List AV} {i : Nat} {a : AV}, AVs K B vs as → as[i]? = some a → ∃ w, vs[i]? = some w ∧ AVR K B w a := by
        intro vs as i a r
        induction r generalizing i with
        | nil => intro h; simp at h
        | cons q t ih =>
          intro h
          cases i with
          | zero => simp at h; subst h; exact ⟨_, rfl, q⟩
          | succ i => exact ih (by simpa using h)
      cases ea : as[i]? with
      | none => rw [ea] at e; cases e
      | some b =>
        rw [ea] at e
        cases e
        obtain ⟨w, h1, h2⟩ := key r ea
        exact ⟨w, by rw [h1]; rfl, h2⟩
    · rw [List.getElem?_append_right (by simpa using hi), List.getElem?_replicate] at e
      split at e <;> cases e
end
section
variable {P : Program} {w : World} {K : PySem.W.Frag} {mg : Str → Option Value} {base : Heap}
/-- THE RULE for a def over abstract values -/
theorem okG {x qual : Str} {st : Stmt} {f : Addr} {fd : FuncData} {N ps : List Str} {k : Nat} {F : FT} (U : Fun K x qual st f fd) (S : FnScope N ps (defScope st)) (len : ∀ as R P, F as R P → as.length = ps.length)
    (hbody : ∀ (cdv : Value) (A : Around) (outer : List Env) (s : Shared) (H : Hp) (E : XK) (as : List AV) (R : RS) (P0 : AV → RS → Prop), Room k (A.deeper (envOfC qual (defScope st) s.heap.objs.size f cdv)) → F as R P0 →
      ∃ t, PSs (cxOf CX0 P w K mg base N qual (defScope st) f cdv A outer s H E).nox (defBody st) t ∧ WS K t (astart N as) R { nx := fun _ R' => P0 (.d .non) R', rt := P0 }) : FnOk P w K mg base CX0 (k + 1) f fd ps (spG K F) := by
  refine U.ok S (fun vs H Q E h => ?_) (fun cdv A outer s H vs Q E hr h => ?_)
  · obtain ⟨B, as, R, _, r, _, q⟩ := h
    rw [Paired.length r]
    exact len _ _ _ q
  · obtain ⟨B, as, R, hb, r, hr', q⟩ := h
    obtain ⟨t, ht, hw⟩ := hbody cdv A outer s H E as R _ hr q
    refine ⟨t, ht, ?_⟩
    refine hw.run B H (L2.start N vs) _ ⟨hb, env_start r, hr'⟩ ⟨fun B' H' σ' ρ' R' s' S' z => ?_, fun B' H' v a R' s' hb' hr'' rv z => z B' H' v s' hb' hr'' rv, fun _ _ _ _ _ _ _ z => z, fun _ _ _ _ _ _ _ z => z⟩
    exact z B' H' .non s' S'.bh S'.rs DV.non
end
end Ab
set_option Elab.async false
set_option linter.all false
set_option maxRecDepth 100000
set_option maxHeartbeats 1000000
namespace Ab
open PySem PySem.Spec L2
open PyProof.Rows hiding St

/-! ### operators found by their readings -/
class AOc (K : PySem.W.Frag) (r : R2) (f : outParam (AV → AV → (AV → Prop) → Prop)) : Prop where
  ok : AO K r f
class ACc (K : PySem.W.Frag) (r : List V → Hp → VK → Prop) (f : outParam (List AV → (AV → Prop) → Prop)) : Prop where
  ok : AC K r f
section
variable {K : PySem.W.Frag} {ρ ρ' : AE} {R R' : RS} {ta tb tc te : TE} {tt : TT} {Φ : AV → RS → Prop} {Δ : AEnds} {B H B' H' : Hp} {σ : St}
theorem we_opc {r : R2} {f : AV → AV → (AV → Prop) → Prop} [ho : AOc K r f] (h : WE K ta ρ R fun x R1 => WE K tb ρ R1 fun y R2 => f x y fun z => Φ z R2) : WE K (tOp r ta tb) ρ R Φ := we_op ho.ok h
theorem we_cbc {t : TA} {r : List V → Hp → VK → Prop} {f : List AV → (AV → Prop) → Prop} [ho : ACc K r f] (h : WA K t ρ R fun as R1 => f as fun z => Φ z R1) : WE K (tCB r t) ρ R Φ := we_cb ho.ok h
theorem we_chainc {r r' : R2} {f f' : AV → AV → (AV → Prop) → Prop} [ho : AOc K r f] [ho' : AOc K r' f']
    (h : WE K ta ρ R fun x R1 => WE K tb ρ R1 fun y R2 => f x y fun z => ∃ b, z = .d (.bl b) ∧ (b = true → WE K tc ρ R2 fun w R3 => f' y w fun u => Φ u R3) ∧ (b = false → Φ (.d (.bl false)) R2)) : WE K (tChain r r' ta tb tc) ρ R Φ := we_chain ho.ok ho'.ok h
/-- two ints -/
inductive fI2 (g : Int → Int → D) : AV → AV → (AV → Prop) → Prop
  | i {i j : Int} {k : AV → Prop} : k (.d (g i j)) → fI2 g (.d (.int i)) (.d (.int j)) k
inductive fI2c (C : Int → Int → Prop) (g : Int → Int → D) : AV → AV → (AV → Prop) → Prop
  | i {i j : Int} {k : AV → Prop} : C i j → k (.d (g i j)) → fI2c C g (.d (.int i)) (.d (.int j)) k
theorem dv_int {B : Hp} {x : V} {i : Int} (h : AVR K B x (.d (.int i))) : x = .int i := by cases (show DV K B x (.int i) from h); rfl
theorem dv_str {B : Hp} {x : V} {s : Str} (h : AVR K B x (.d (.str s))) : x = .str s := by cases (show DV K B x (.str s) from h); rfl
theorem dv_bl {B : Hp} {x : V} {b : Bool} (h : AVR K B x (.d (.bl b))) : x = .bl b := by cases (show DV K B x (.bl b) from h); rfl
instance ao_i {g : Int → Int → Int} : AOc K (rI0 fun i j => .int (g i j)) (fI2 fun i j => .int (g i j)) := ⟨⟨fun B H x y a b k Q hb r1 r2 hf q => by
  cases hf with
  | i h => rw [dv_int r1, dv_int r2]; exact ⟨_, _, rfl, rfl, q B H _ (.d (.int _)) (Gr.refl hb) (DV.int _) h⟩⟩⟩
instance ao_b {g : Int → Int → Bool} : AOc K (rI0 fun i j => .bl (g i j)) (fI2 fun i j => .bl (g i j)) := ⟨⟨fun B H x y a b k Q hb r1 r2 hf q => by
  cases hf with
  | i h => rw [dv_int r1, dv_int r2]; exact ⟨_, _, rfl, rfl, q B H _ (.d (.bl _)) (Gr.refl hb) (DV.bl _) h⟩⟩⟩
instance ao_ic {C : Int → Int → Prop} {g : Int → Int → Int} : AOc K (rI C fun i j => .int (g i j)) (fI2c C fun i j => .int (g i j)) := ⟨⟨fun B H x y a b k Q hb r1 r2 hf q => by
  cases hf with
  | i hc h => rw [dv_int r1, dv_int r2]; exact ⟨_, _, rfl, rfl, hc, q B H _ (.d (.int _)) (Gr.refl hb) (DV.int _) h⟩⟩⟩

/-! ### + -/
def rPlus (K : PySem.W.Frag) : R2 := fun x y H Q => rI0 (fun i j => .int (i + j)) x y H Q ∨ (rCat x y H Q ∨ rCatA K x y H Q)
theorem op_plus {X : Cx} : OpR X (binaryOp .Add) (rPlus X.K) := op_add.or (op_cat.or op_catA)
inductive fPlus : AV → AV → (AV → Prop) → Prop
  | i {i j : Int} {k : AV → Prop} : k (.d (.int (i + j))) → fPlus (.d (.int i)) (.d (.int j)) k
  | l {xs ys : List D} {k : AV → Prop} : xs.length + ys.length ≤ 1000000 → k (.d (.lst (xs ++ ys))) → fPlus (.d (.lst xs)) (.d (.lst ys)) k
  | t {xs ys : List D} {k : AV → Prop} : xs.length + ys.length ≤ 1000000 → k (.d (.tup (xs ++ ys))) → fPlus (.d (.tup xs)) (.d (.tup ys)) k
instance ao_plus : AOc K (rPlus K) fPlus := ⟨⟨fun B H x y a b k Q hb r1 r2 hf q => by
  cases hf with
  | i h => rw [dv_int r1, dv_int r2]; exact .inl ⟨_, _, rfl, rfl, q B H _ (.d (.int _)) (Gr.refl hb) (DV.int _) h⟩
  | @l xs ys _ hl h =>
    obtain ⟨p, vs, rfl, h1, h2⟩ := dv_lst r1
    obtain ⟨p2, vs2, rfl, h3, h4⟩ := dv_lst r2
    refine .inr (.inl ⟨p, p2, vs, vs2, rfl, rfl, hb _ _ h1, hb _ _ h3, small_line (by rw [h2.length, h4.length]; exact hl), fun p3 n3 => ?_⟩)
    have g := Gr.new (o := .lst (vs ++ vs2)) hb n3
    exact q _ _ _ (.d (.lst (xs ++ ys))) g (DV.lst upd_same ((h2.append h4).mono g.bb)) h
  | @t xs ys _ hl h =>
    obtain ⟨p, vs, rfl, h1, h2⟩ := dv_tup r1
    obtain ⟨p2, vs2, rfl, h3, h4⟩ := dv_tup r2
    refine .inr (.inr ⟨p, p2, vs, vs2, rfl, rfl, sqT_mono hb h1, sqT_mono hb h3, small_line (by rw [h2.length, h4.length]; exact hl), fun e => ?_, fun e1 e => ?_, fun e1 e2 p3 n3 => ?_⟩)
    · subst e
      cases h2
      exact q B H _ (.d (.tup ([] ++ ys))) (Gr.refl hb) r2 h
    · subst e
      cases h4
      refine q B H _ (.d (.tup (xs ++ []))) (Gr.refl hb) ?_ h
      rw [List.append_nil]
      exact r1
    · have g := Gr.new (o := .tup (vs ++ vs2)) hb n3
      exact q _ _ _ (.d (.tup (xs ++ ys))) g (DV.tup (SqT.of upd_same) ((h2.append h4).mono g.bb)) h⟩⟩

/-! ### == of scalars, of data -/
inductive fEq (neg : Bool) : AV → AV → (AV → Prop) → Prop
  | i {i j : Int} {k : AV → Prop} : k (.d (.bl (decide (i = j) ^^ neg))) → fEq neg (.d (.int i)) (.d (.int j)) k
  | s {i j : Str} {k : AV → Prop} : k (.d (.bl (decide (i = j) ^^ neg))) → fEq neg (.d (.str i)) (.d (.str j)) k
  | b {i j : Bool} {k : AV → Prop} : k (.d (.bl (decide (i = j) ^^ neg))) → fEq neg (.d (.bl i)) (.d (.bl j)) k
theorem decV_int {i j : Int} : decide (V.int i = V.int j) = decide (i = j) := by by_cases h : i = j <;> simp [h]
theorem decV_str {i j : Str} : decide (V.str i = V.str j) = decide (i = j) := by by_cases h : i = j <;> simp [h]
theorem decV_bl {i j : Bool} : decide (V.bl i = V.bl j) = decide (i = j) := by by_cases h : i = j <;> simp [h]
instance ao_eq : AOc K rEq (fEq false) := ⟨⟨fun B H x y a b k Q hb r1 r2 hf q => by
  cases hf with
  | i h => rw [dv_int r1, dv_int r2]; exact ⟨rfl, q B H _ (.d (.bl _)) (Gr.refl hb) (by rw [decV_int]; exact DV.bl _) (by rw [Bool.xor_false] at h; exact h)⟩
  | s h => rw [dv_str r1, dv_str r2]; exact ⟨rfl, q B H _ (.d (.bl _)) (Gr.refl hb) (by rw [decV_str]; exact DV.bl _) (by rw [Bool.xor_false] at h; exact h)⟩
  | b h => rw [dv_bl r1, dv_bl r2]; exact ⟨rfl, q B H _ (.d (.bl _)) (Gr.refl hb) (by rw [decV_bl]; exact DV.bl _) (by rw [Bool.xor_false] at h; exact h)⟩⟩⟩
instance ao_ne : AOc K rNe (fEq true) := ⟨⟨fun B H x y a b k Q hb r1 r2 hf q => by
  cases hf with
  | i h => rw [dv_int r1, dv_int r2]; exact ⟨rfl, q B H _ (.d (.bl _)) (Gr.refl hb) (by rw [decV_int]; exact DV.bl _) (by rw [Bool.xor_true] at h; exact h)⟩
  | s h => rw [dv_str r1, dv_str r2]; exact ⟨rfl, q B H _ (.d (.bl _)) (Gr.refl hb) (by rw [decV_str]; exact DV.bl _) (by rw [Bool.xor_true] at h; exact h)⟩
  | b h => rw [dv_bl r1, dv_bl r2]; exact ⟨rfl, q B H _ (.d (.bl _)) (Gr.refl hb) (by rw [decV_bl]; exact DV.bl _) (by rw [Bool.xor_true] at h; exact h)⟩⟩⟩
/-- ints in lists and tuples: how deep at most 3 -/
inductive Fl : D → PyData → Prop
  | int (i : Int) : Fl (.int i) (.int i)
theorem dpAll_ints {B : Hp} : ∀ {vs : List V} {ns : List Int}, DVs K B vs (ns.map .int) → DpAll K B vs (ns.map .int)
  | _, [], .nil => .nil
  | _, n :: ns, .cons h t => by
    cases h
    exact .cons (.int n) (dpAll_ints t)
theorem dp_tupI {B : Hp} {v : V} {ns : List Int} (h : DV K B v (.tup (ns.map .int))) : Dp K B v (.tuple (ns.map .int)) := by
  cases h with
  | tup h1 h2 => exact .tup h1 (dpAll_ints h2)
theorem dp_lstI {B : Hp} {v : V} {ns : List Int} (h : DV K B v (.lst (ns.map .int))) : Dp K B v (.list (ns.map .int)) := by
  cases h with
  | lst h1 h2 => exact .lst (SqL.of h1) (dpAll_ints h2)
theorem dpAll_tups {B : Hp} : ∀ {vs : List V} {ts : List (List Int)}, DVs K B vs (ts.map fun ns => .tup (ns.map .int)) → DpAll K B vs (ts.map fun ns => .tuple (ns.map .int))
  | _, [], .nil => .nil
  | _, n :: ns, .cons h t => .cons (dp_tupI h) (dpAll_tups t)
theorem dp_lstT {B : Hp} {v : V} {ts : List (List Int)} (h : DV K B v (.lst (ts.map fun ns => .tup (ns.map .int)))) : Dp K B v (.list (ts.map fun ns => .tuple (ns.map .int))) := by
  cases h with
  | lst h1 h2 => exact .lst (SqL.of h1) (dpAll_tups h2)
theorem dp_mono {d : PyData} {v : V} (e : Same B H) (h : Dp K B v d) : Dp K H v d := by
  have key : (∀ (d : PyData) (v : V), Dp K B v d → Dp K H v d) := by
    intro d
    refine PyData.rec (motive_1 := fun d => ∀ v, Dp K B v d → Dp K H v d) (motive_2 := fun ds => ∀ vs, DpAll K B vs ds → DpAll K H vs ds) (motive_3 := fun _ => True) (motive_4 := fun _ => True) ?_ ?_ ?_ ?_ ?_ ?_ ?_ ?_ ?_ ?_ ?_ ?_ d
    · intro v h; cases h; exact .non
    · intro b v h; cases h; exact .bl b
    · intro i v h; cases h; exact .int i
    · intro s v h; cases h; exact .str s
    · intro xs ih v h
      cases h with
      | lst h1 h2 => exact .lst (e.seq h1) (ih _ h2)
    · intro xs ih v h
      cases h with
      | tup h1 h2 => exact .tup (sqT_mono e h1) (ih _ h2)
    · intro kvs _ v h; cases h
    · intro vs h; cases h; exact .nil
    · intro d ds h1 h2 vs h
      cases h with
      | cons a b => exact .cons (h1 _ a) (h2 _ b)
    · trivial
    · intros; trivial
    · intros; trivial
  exact key d v h
theorem canLayInts : ∀ ns : List Int, PyData.canLayAll0 (ns.map .int) = true
  | [] => by simp [PyData.canLayAll0]
  | n :: ns => by simp [PyData.canLayAll0, PyData.canLay0, canLayInts ns]
theorem canLayTups : ∀ ts : List (List Int), PyData.canLayAll0 (ts.map fun ns => .tuple (ns.map .int)) = true
  | [] => by simp [PyData.canLayAll0]
  | n :: ns => by simp [PyData.canLayAll0, PyData.canLay0, canLayInts n, canLayTups ns]
theorem depthInts : ∀ ns : List Int, PyData.depthAll (ns.map .int) = 0
  | [] => by simp [PyData.depthAll]
  | n :: ns => by simp [PyData.depthAll, PyData.depth, depthInts ns]
theorem depthTups : ∀ ts : List (List Int), PyData.depthAll (ts.map fun ns => .tuple (ns.map .int)) ≤ 1
  | [] => by simp [PyData.depthAll]
  | n :: ns => by
    have := depthTups ns
    simp only [List.map_cons, PyData.depthAll, PyData.depth, depthInts n]
    omega
theorem shaped_lstI (ns : List Int) : SeqAt.shaped (.list (ns.map .int)) = true := by simp [SeqAt.shaped, PyData.canLay0, canLayInts, PyData.depth, depthInts]
theorem shaped_tupI (ns : List Int) : SeqAt.shaped (.tuple (ns.map .int)) = true := by simp [SeqAt.shaped, PyData.canLay0, canLayInts, PyData.depth, depthInts]
theorem shaped_lstT (ts : List (List Int)) : SeqAt.shaped (.list (ts.map fun ns => .tuple (ns.map .int))) = true := by
  have h := depthTups ts
  have h2 : (PyData.list (ts.map fun ns => .tuple (ns.map .int))).depth ≤ 64 := by
    rw [PyData.depth]
    exact Nat.le_trans (Nat.add_le_add_right h 1) (by decide)
  simp [SeqAt.shaped, PyData.canLay0, canLayTups, h2]
theorem eqv_ints : ∀ xs ys : List Int, PyData.eqvAll (xs.map .int) (ys.map .int) = decide (xs = ys)
  | [], [] => by simp [PyData.eqvAll]
  | [], _ :: _ => by simp [PyData.eqvAll]
  | _ :: _, [] => by simp [PyData.eqvAll]
  | x :: xs, y :: ys => by
    have := eqv_ints xs ys
    simp only [List.map_cons, PyData.eqvAll, PyData.eqv, this]
    by_cases h : x = y <;> simp [h]
inductive fEqD (neg : Bool) : AV → AV → (AV → Prop) → Prop
  | l {xs ys : List Int} {k : AV → Prop} : k (.d (.bl (decide (xs = ys) ^^ neg))) → fEqD neg (.d (.lst (xs.map .int))) (.d (.lst (ys.map .int))) k
  | t {xs ys : List Int} {k : AV → Prop} : k (.d (.bl (decide (xs = ys) ^^ neg))) → fEqD neg (.d (.tup (xs.map .int))) (.d (.tup (ys.map .int))) k
  | n {xs : List (List Int)} {k : AV → Prop} : k (.d (.bl (decide (xs = []) ^^ neg))) → fEqD neg (.d (.lst (xs.map fun ns => .tup (ns.map .int)))) (.d (.lst [])) k
theorem eqD_case {neg : Bool} {x y : V} {a b : AV} {k : AV → Prop} (r1 : AVR K B x a) (r2 : AVR K B y b) (hf : fEqD neg a b k) : ∃ d e, Dp K B x d ∧ Dp K B y e ∧ SeqAt.shaped d = true ∧ SeqAt.shaped e = true ∧ k (.d (.bl (PyData.eqv d e ^^ neg))) := by
  cases hf with
  | @l xs ys _ h => exact ⟨_, _, dp_lstI r1, dp_lstI r2, shaped_lstI _, shaped_lstI _, by rw [PyData.eqv, eqv_ints]; exact h⟩
  | @t xs ys _ h => exact ⟨_, _, dp_tupI r1, dp_tupI r2, shaped_tupI _, shaped_tupI _, by rw [PyData.eqv, eqv_ints]; exact h⟩
  | @n xs _ h =>
    refine ⟨_, _, dp_lstT r1, dp_lstI (ns := []) r2, shaped_lstT _, shaped_lstI [], ?_⟩
    have e : PyData.eqvAll (xs.map fun ns => .tuple (ns.map .int)) [] = decide (xs = []) := by cases xs <;> simp [PyData.eqvAll]
    rw [PyData.eqv, List.map_nil, e]
    exact h
instance ao_eqD : AOc K (rEqD K) (fEqD false) := ⟨⟨fun B H x y a b k Q hb r1 r2 hf q => by
  obtain ⟨d, e, h1, h2, h3, h4, h5⟩ := eqD_case r1 r2 hf
  rw [Bool.xor_false] at h5
  exact ⟨d, e, dp_mono hb h1, dp_mono hb h2, h3, h4, q B H _ (.d (.bl _)) (Gr.refl hb) (DV.bl _) h5⟩⟩⟩
instance ao_neD : AOc K (rNeD K) (fEqD true) := ⟨⟨fun B H x y a b k Q hb r1 r2 hf q => by
  obtain ⟨d, e, h1, h2, h3, h4, h5⟩ := eqD_case r1 r2 hf
  rw [Bool.xor_true] at h5
  exact ⟨d, e, dp_mono hb h1, dp_mono hb h2, h3, h4, q B H _ (.d (.bl _)) (Gr.refl hb) (DV.bl _) h5⟩⟩⟩

/-! ### in, is None -/
def flatA : D → Option V
  | .non => some .non
  | .bl b => some (.bl b)
  | .int i => some (.int i)
  | .str s => some (.str s)
  | _ => none
theorem flatA_ok {v : V} {d : D} {u : V} (h : DV K B v d) (e : flatA d = some u) : v = u ∧ flatV u = true := by
  cases h <;> first
    | (cases e; exact ⟨rfl, rfl⟩)
    | cases e
def flatAs : List D → Option (List V)
  | [] => some []
  | d :: r => match flatA d, flatAs r with
    | some v, some vs => some (v :: vs)
    | _, _ => none
theorem flatAs_ok : ∀ {vs : List V} {ds : List D} {us : List V}, DVs K B vs ds → flatAs ds = some us → vs = us ∧ us.all flatV = true
  | _, _, us, .nil, e => by cases e; exact ⟨rfl, rfl⟩
  | _, d :: r, us, .cons h t, e => by
    unfold flatAs at e
    cases e1 : flatA d with
    | none => rw [e1] at e; cases e
    | some v =>
      cases e2 : flatAs r with
      | none => rw [e1, e2] at e; cases e
      | some ws =>
        rw [e1, e2] at e
        cases e
        obtain ⟨h1, h2⟩ := flatA_ok h e1
        obtain ⟨h3, h4⟩ := flatAs_ok t e2
        exact ⟨by rw [h1, h3], by rw [List.all_cons, h2, h4]; rfl⟩
inductive fIn (neg : Bool) : AV → AV → (AV → Prop) → Prop
  | t {x : D} {ys : List D} {u : V} {us : List V} {k : AV → Prop} : flatA x = some u → flatAs ys = some us → k (.d (.bl (if neg then !inV u us else inV u us))) → fIn neg (.d x) (.d (.tup ys)) k
  | l {x : D} {ys : List D} {u : V} {us : List V} {k : AV → Prop} : flatA x = some u → flatAs ys = some us → k (.d (.bl (if neg then !inV u us else inV u us))) → fIn neg (.d x) (.d (.lst ys)) k
instance ao_in {neg : Bool} : AOc K (rIn K neg) (fIn neg) := ⟨⟨fun B H x y a b k Q hb r1 r2 hf q => by
  cases hf with
  | t e1 e2 h =>
    obtain ⟨p, vs, rfl, h1, h2⟩ := dv_tup r2
    obtain ⟨rfl, f1⟩ := flatA_ok r1 e1
    obtain ⟨rfl, f2⟩ := flatAs_ok h2 e2
    exact ⟨p, _, rfl, .inr (sqT_mono hb h1), f1, f2, q B H _ (.d (.bl _)) (Gr.refl hb) (DV.bl _) h⟩
  | l e1 e2 h =>
    obtain ⟨p, vs, rfl, h1, h2⟩ := dv_lst r2
    obtain ⟨rfl, f1⟩ := flatA_ok r1 e1
    obtain ⟨rfl, f2⟩ := flatAs_ok h2 e2
    exact ⟨p, _, rfl, .inl (SqL.of (hb _ _ h1)), f1, f2, q B H _ (.d (.bl _)) (Gr.refl hb) (DV.bl _) h⟩⟩⟩
theorem inV_ints (v : Int) : ∀ ns : List Int, inV (.int v) (ns.map .int) = decide (v ∈ ns)
  | [] => rfl
  | n :: ns => by
    have ih := inV_ints v ns
    unfold inV at ih ⊢
    rw [List.map_cons, List.any_cons, ih]
    show ((n == v) || decide (v ∈ ns)) = decide (v ∈ n :: ns)
    by_cases h : v = n
    · subst h; simp
    · have : (n == v) = false := by simp; exact fun e => h e.symm
      rw [this]; simp [h]
theorem flatAs_ints : ∀ ns : List Int, flatAs (ns.map .int) = some (ns.map V.int)
  | [] => rfl
  | n :: ns => by
    show (match flatA (.int n), flatAs (ns.map .int) with | some v, some vs => some (v :: vs) | _, _ => none) = _
    rw [flatAs_ints ns]
    rfl
def rIsNo : R2 := fun x y H Q => y = .non ∧ Q (.bl (decide (x = .non))) H
def rNotNo : R2 := fun x y H Q => y = .non ∧ Q (.bl (!decide (x = .non))) H
theorem op_isNo {X : Cx} : OpR X (compareOp .Is) rIsNo := op_isN
theorem op_notNo {X : Cx} : OpR X (compareOp .IsNot) rNotNo := op_notN
def isNoD : D → Bool
  | .non => true
  | _ => false
theorem isNoD_ok {x : V} {d : D} (h : DV K B x d) : decide (x = .non) = isNoD d := by cases h <;> rfl
inductive fNo (neg : Bool) : AV → AV → (AV → Prop) → Prop
  | i {d : D} {k : AV → Prop} : k (.d (.bl (isNoD d ^^ neg))) → fNo neg (.d d) (.d .non) k
instance ao_isNo : AOc K rIsNo (fNo false) := ⟨⟨fun B H x y a b k Q hb r1 r2 hf q => by
  cases hf with
  | i h =>
    cases (show DV K B y .non from r2)
    refine ⟨rfl, q B H _ (.d (.bl _)) (Gr.refl hb) (DV.bl _) ?_⟩
    rw [isNoD_ok r1]
    rw [Bool.xor_false] at h
    exact h⟩⟩
instance ao_notNo : AOc K rNotNo (fNo true) := ⟨⟨fun B H x y a b k Q hb r1 r2 hf q => by
  cases hf with
  | i h =>
    cases (show DV K B y .non from r2)
    refine ⟨rfl, q B H _ (.d (.bl _)) (Gr.refl hb) (DV.bl _) ?_⟩
    rw [isNoD_ok r1]
    rw [Bool.xor_true] at h
    exact h⟩⟩

/-! ### x[i] -/
inductive fIx : AV → AV → (AV → Prop) → Prop
  | l {ds : List D} {i : Int} {d : D} {k : AV → Prop} : atI ds i = some d → k (.d d) → fIx (.d (.lst ds)) (.d (.int i)) k
  | t {ds : List D} {i : Int} {d : D} {k : AV → Prop} : atI ds i = some d → k (.d d) → fIx (.d (.tup ds)) (.d (.int i)) k
  | sc {ns : List Int} {i n : Int} {k : AV → Prop} : atI ns i = some n → k (.d (.int n)) → fIx (.d (.scr ns)) (.d (.int i)) k
theorem dv_scr {B : Hp} {w : V} {ns : List Int} (h : AVR K B w (.d (.scr ns))) : ∃ p, w = .ref p ∧ SqL K B p (ns.map V.int) := by
  cases (show DV K B w (.scr ns) from h) with
  | scr h1 => exact ⟨_, rfl, h1⟩
theorem atI_map {α β : Type} {f : α → β} {xs : List α} {i : Int} {x : α} (e : atI xs i = some x) : atI (xs.map f) i = some (f x) := by
  unfold atI at e ⊢
  rw [List.length_map]
  cases q : ixN xs.length i with
  | none => rw [q] at e; cases e
  | some j =>
    rw [q] at e
    show (xs.map f)[j]? = some (f x)
    rw [List.getElem?_map, show xs[j]? = some x from e]
    rfl
theorem atI_dvs {vs : List V} {ds : List D} {i : Int} {d : D} (h : DVs K B vs ds) (e : atI ds i = some d) : ∃ v, atI vs i = some v ∧ DV K B v d := by
  unfold atI at e ⊢
  rw [h.length]
  cases q : ixN ds.length i with
  | none => rw [q] at e; cases e
  | some j => rw [q] at e; exact h.get e
instance ao_ix : AOc K (rIx K) fIx := ⟨⟨fun B H x y a b k Q hb r1 r2 hf q => by
  cases hf with
  | l e h =>
    obtain ⟨p, vs, rfl, h1, h2⟩ := dv_lst r1
    rw [dv_int r2]
    obtain ⟨v, h3, h4⟩ := atI_dvs h2 e
    exact .inl ⟨p, vs, _, v, rfl, rfl, SqL.of (hb _ _ h1), h3, q B H v (.d _) (Gr.refl hb) h4 h⟩
  | t e h =>
    obtain ⟨p, vs, rfl, h1, h2⟩ := dv_tup r1
    rw [dv_int r2]
    obtain ⟨v, h3, h4⟩ := atI_dvs h2 e
    exact .inr (.inl ⟨p, vs, _, v, rfl, rfl, sqT_mono hb h1, h3, q B H v (.d _) (Gr.refl hb) h4 h⟩)
  | sc e h =>
    obtain ⟨p, rfl, h1⟩ := dv_scr r1
    rw [dv_int r2]
    exact .inl ⟨p, _, _, _, rfl, rfl, hb.seq h1, atI_map e, q B H _ (.d (.int _)) (Gr.refl hb) (DV.int _) h⟩⟩⟩
/-- .. of an own list -/
theorem we_ixR (h : WE K ta ρ R fun a R1 => WE K tb ρ R1 fun b R2 => ∃ p i ds d, a = .v (.ref p) ∧ b = .d (.int i) ∧ (p, .lst ds) ∈ R2 ∧ atI ds i = some d ∧ Φ (.d d) R2) : WE K (tOp (rIx K) ta tb) ρ R Φ := ⟨fun B H σ Q S k => by
  refine h.run B H σ _ S fun B1 H1 x a R1 s1 S1 r1 q1 => ?_
  refine q1.run B1 H1 σ _ S1 fun B2 H2 y b R2 s2 S2 r2 ⟨p, i, ds, d, ea, eb, hm, e, q⟩ => ?_
  subst ea
  subst eb
  cases (show x = .ref p from r1)
  rw [dv_int r2]
  obtain ⟨_, vs, h1, h2⟩ := S2.rs.at_ _ hm
  obtain ⟨v, h3, h4⟩ := atI_dvs h2 e
  exact .inl ⟨p, vs, i, v, rfl, rfl, SqL.of h1, h3, k B2 H2 v (.d d) R2 (s1.trans s2) S2 h4 q⟩⟩
/-- own list == [] -/
theorem we_eqNilR (h : WE K ta ρ R fun a R1 => WE K tb ρ R1 fun b R2 => ∃ p ts, a = .v (.ref p) ∧ b = .d (.lst []) ∧ (p, .lst (ts.map fun (ns : List Int) => D.tup (ns.map .int))) ∈ R2 ∧ Φ (.d (.bl (decide (ts = [])))) R2) : WE K (tOp (rEqD K) ta tb) ρ R Φ := ⟨fun B H σ Q S k => by
  refine h.run B H σ _ S fun B1 H1 x a R1 s1 S1 r1 q1 => ?_
  refine q1.run B1 H1 σ _ S1 fun B2 H2 y b R2 s2 S2 r2 ⟨p, ts, ea, eb, hm, q⟩ => ?_
  subst ea
  subst eb
  cases (show x = .ref p from r1)
  obtain ⟨_, vs, h1, h2⟩ := S2.rs.at_ _ hm
  have d1 : DV K H2 (.ref p) (.lst (ts.map fun (ns : List Int) => D.tup (ns.map .int))) := DV.lst h1 (h2.mono S2.bh)
  refine ⟨_, _, dp_lstT d1, dp_mono S2.bh (dp_lstI (ns := []) r2), shaped_lstT _, shaped_lstI [], ?_⟩
  have e : PyData.eqvAll (ts.map fun ns => .tuple (ns.map .int)) [] = decide (ts = []) := by cases ts <;> simp [PyData.eqvAll]
  rw [PyData.eqv, List.map_nil, e]
  exact k B2 H2 _ (.d (.bl _)) R2 (s1.trans s2) S2 (DV.bl _) q⟩

/-! ### slices -/
def rSlU (K : PySem.W.Frag) : V → Option Int → Option Int → Hp → VK → Prop := fun x lo hi H Q => rSlL K x lo hi H Q ∨ rSlA K x lo hi H Q
theorem sl_any {X : Cx} : SlR X (rSlU X.K) := sl_list.or sl_tupA
def cutD (ds : List D) (lo hi : Option Int) : List D := (ds.drop (HT.sIx ds.length 0 lo)).take (HT.sIx ds.length ds.length hi - HT.sIx ds.length 0 lo)
theorem cut_dvs {vs : List V} {ds : List D} {lo hi : Option Int} (h : DVs K B vs ds) : DVs K B (cutV vs lo hi) (cutD ds lo hi) := by
  unfold cutV cutD
  rw [h.length]
  exact (h.drop _).take _
theorem wo_none {Ψ : Option Int → RS → Prop} (q : Ψ none R) : WO K tNoPart ρ R Ψ := ⟨fun B H σ Q S k => k B H none R (Step.refl _ _ _) S q⟩
theorem wo_some {Ψ : Option Int → RS → Prop} (h : WE K te ρ R fun a R1 => ∃ i, a = .d (.int i) ∧ Ψ (some i) R1) : WO K (tPart te) ρ R Ψ := ⟨fun B H σ Q S k => by
  refine h.run B H σ _ S fun B1 H1 x a R1 s1 S1 r1 ⟨i, e, q⟩ => ?_
  subst e
  rw [dv_int r1]
  exact ⟨i, rfl, k B1 H1 (some i) R1 s1 S1 q⟩⟩
inductive fSl : AV → Option Int → Option Int → (AV → Prop) → Prop
  | l {ds : List D} {lo hi : Option Int} {k : AV → Prop} : k (.d (.lst (cutD ds lo hi))) → fSl (.d (.lst ds)) lo hi k
  | t {ds : List D} {lo hi : Option Int} {k : AV → Prop} : k (.d (.tup (cutD ds lo hi))) → fSl (.d (.tup ds)) lo hi k
theorem we_sl {tl th : TO} (h : WE K te ρ R fun a R1 => WO K tl ρ R1 fun lo R2 => WO K th ρ R2 fun hi R3 => fSl a lo hi fun z => Φ z R3) : WE K (tSl (rSlU K) te tl th) ρ R Φ := ⟨fun B H σ Q S k => by
  refine h.run B H σ _ S fun B1 H1 x a R1 s1 S1 r1 q1 => ?_
  refine q1.run B1 H1 σ _ S1 fun B2 H2 lo R2 s2 S2 q2 => ?_
  refine q2.run B2 H2 σ _ S2 fun B3 H3 hi R3 s3 S3 q3 => ?_
  have r3 := (r1.mono s2.bb).mono s3.bb
  have s := (s1.trans s2).trans s3
  cases q3 with
  | @l ds _ _ _ h =>
    obtain ⟨p, vs, rfl, h1, h2⟩ := dv_lst r3
    refine .inl ⟨p, vs, rfl, SqL.of (S3.bh _ _ h1), fun p2 n2 => ?_⟩
    have g := Gr.new (o := .lst (cutV vs lo hi)) S3.bh n2
    exact k _ _ _ (.d (.lst (cutD ds lo hi))) R3 (s.trans (g.step _)) (S3.grow g) (DV.lst upd_same ((cut_dvs h2).mono g.bb)) h
  | @t ds _ _ _ h =>
    obtain ⟨p, vs, rfl, h1, h2⟩ := dv_tup r3
    refine .inr ⟨p, vs, rfl, sqT_mono S3.bh h1, fun hw => ?_, fun hw p2 n2 => ?_⟩
    · have e : cutD ds lo hi = ds := by
        unfold cutD
        rw [h2.length] at hw
        rw [hw.1, hw.2, Nat.sub_zero, List.drop_zero, List.take_length]
      rw [e] at h
      exact k B3 H3 _ (.d (.tup ds)) R3 s S3 r3 h
    · have g := Gr.new (o := .tup (cutV vs lo hi)) S3.bh n2
      exact k _ _ _ (.d (.tup (cutD ds lo hi))) R3 (s.trans (g.step _)) (S3.grow g) (DV.tup (SqT.of upd_same) ((cut_dvs h2).mono g.bb)) h⟩

/-! ### append, xs[i] = v -/
theorem we_append {t : TE} (h : WE K ta ρ R fun a R1 => ∃ p ds0, a = .v (.ref p) ∧ (p, .lst ds0) ∈ R1 ∧ WE K t ρ R1 fun b R2 => ∃ d ds, b = .d d ∧ (p, .lst ds) ∈ R2 ∧ ds.length < 10000000 ∧ Φ (.d .non) (setR R2 p (.lst (ds ++ [d])))) : WE K (tBM K "list" rAppend ta (tCons t tNil)) ρ R Φ := ⟨fun B H σ Q S k => by
  refine h.run B H σ _ S fun B1 H1 x a R1 s1 S1 r1 ⟨p, ds0, ea, hm0, q1⟩ => ?_
  subst ea
  cases (show x = .ref p from r1)
  obtain ⟨_, vs0, h01, _⟩ := S1.rs.at_ _ hm0
  refine ⟨.inl ⟨rfl, vs0, SqL.of h01⟩, ?_⟩
  refine q1.run B1 H1 σ _ S1 fun B2 H2 y b R2 s2 S2 r2 ⟨d, ds, eb, hm, hl, q⟩ => ?_
  subst eb
  obtain ⟨_, vs, h1, h2⟩ := S2.rs.at_ _ hm
  have hp : p ∈ dom R2 := List.mem_map.mpr ⟨_, hm, rfl⟩
  obtain ⟨S3, s3⟩ := S2.setR (o := .lst (vs ++ [y])) (r := .lst (ds ++ [d])) hp ⟨_, rfl, h2.append (DVs.one r2)⟩
  exact ⟨p, vs, y, rfl, rfl, h1, Nat.lt_of_lt_of_le (by rw [h2.length]; exact hl) (by decide), k B2 _ .non (.d .non) _ ((s1.trans s2).trans s3) S3 DV.non q⟩⟩
theorem ws_setI {tv : TE} (h : WE K tv ρ R fun v R1 => WE K ta ρ R1 fun a R2 => WE K tb ρ R2 fun b R3 => ∃ d p i j ds, v = .d d ∧ a = .v (.ref p) ∧ b = .d (.int i) ∧ (p, .lst ds) ∈ R3 ∧ ixN ds.length i = some j ∧ Δ.nx ρ (setR R3 p (.lst (ds.set j d)))) : WS K (tAsg tv (gSub ta tb rSetL)) ρ R Δ := ⟨fun B H σ D S l => by
  refine h.run B H σ _ S fun B1 H1 x a R1 s1 S1 r1 q1 => ?_
  refine q1.run B1 H1 σ _ S1 fun B2 H2 y b R2 s2 S2 r2 q2 => ?_
  refine q2.run B2 H2 σ _ S2 fun B3 H3 z c R3 s3 S3 r3 ⟨d, p, i, j, ds, ev, ea, eb, hm, hj, q⟩ => ?_
  subst ev
  subst ea
  subst eb
  cases (show y = .ref p from r2)
  rw [dv_int r3]
  obtain ⟨_, vs, h1, h2⟩ := S3.rs.at_ _ hm
  have hp : p ∈ dom R3 := List.mem_map.mpr ⟨_, hm, rfl⟩
  obtain ⟨S4, s4⟩ := S3.setR (o := .lst (vs.set j x)) (r := .lst (ds.set j d)) hp ⟨_, rfl, DVs.set ((r1.mono s2.bb).mono s3.bb) j h2⟩
  exact ⟨p, vs, i, j, rfl, rfl, h1, by rw [h2.length]; exact hj, l.nx B3 _ σ ρ _ (((s1.trans s2).trans s3).trans s4) S4 q⟩⟩
end
end Ab
set_option Elab.async false
set_option linter.all false
set_option maxRecDepth 100000
set_option maxHeartbeats 1000000
namespace Ab
open PySem PySem.Spec L2
open PyProof.Rows hiding St

/-! ### built-ins by their names -/
def rLenA (K : PySem.W.Frag) : List V → Hp → VK → Prop := fun xs H Q => ∃ x n, xs = [x] ∧ LenV K x H n ∧ Q (.int (n : Nat)) H
theorem cl_len {X : Cx} : CallR X (.builtin "len") (rLenA X.K) := call_len
def rIntA : List V → Hp → VK → Prop := fun xs H Q => (∃ i, xs = [.int i] ∧ Q (.int i) H) ∨ ∃ k, xs = [.bl k] ∧ Q (.int (if k then 1 else 0)) H
theorem cl_int {X : Cx} : CallR X (.type "int") rIntA := call_int1
def rMax2A : List V → Hp → VK → Prop := fun xs H Q => ∃ i j : Int, xs = [.int i, .int j] ∧ Q (.int (max i j)) H
theorem cl_max2 {X : Cx} (hc : X.calm = true) : CallR X (.builtin "max") rMax2A := by
  intro pins s σ H xs us Q I r h
  obtain ⟨i, j, e, q⟩ := h
  refine call_max2 hc pins s σ H xs us Q I r ⟨i, j, e, ?_⟩
  have e2 : (if j > i then j else i) = max i j := by omega
  rw [e2]
  exact q
def rMax3A : List V → Hp → VK → Prop := fun xs H Q => ∃ i j k : Int, xs = [.int i, .int j, .int k] ∧ Q (.int (max (max i j) k)) H
theorem vals3 {x y z : V} {us : List Value} (r : Vals [x, y, z] us) : ∃ u v w, us = [u, v, w] ∧ RelV x u ∧ RelV y v ∧ RelV z w := by
  cases r with
  | cons r1 r2 =>
    cases r2 with
    | cons r3 r4 =>
      cases r4 with
      | cons r5 r6 => cases r6; exact ⟨_, _, _, rfl, r1, r3, r5⟩
theorem cl_max3 {X : Cx} (hc : X.calm = true) : CallR X (.builtin "max") rMax3A := by
  intro pins s σ H xs us Q I r h
  obtain ⟨i, j, k, rfl, q⟩ := h
  obtain ⟨u, v, w', rfl, ⟨t, rfl⟩, ⟨t', rfl⟩, ⟨t2, rfl⟩⟩ := vals3 r
  refine max_three_ints (I.ok.hd hc) fun h' tk kk => ⟨.int (max (max i j) k), H, I.kept kk, ?_, q⟩
  by_cases h1 : j > i
  · rw [if_pos h1]
    by_cases h2 : k > j
    · rw [if_pos h2]; exact ⟨_, by rw [show max (max i j) k = k by omega]⟩
    · rw [if_neg h2]; exact ⟨_, by rw [show max (max i j) k = j by omega]⟩
  · rw [if_neg h1]
    by_cases h2 : k > i
    · rw [if_pos h2]; exact ⟨_, by rw [show max (max i j) k = k by omega]⟩
    · rw [if_neg h2]; exact ⟨_, by rw [show max (max i j) k = i by omega]⟩
def rMin2A : List V → Hp → VK → Prop := fun xs H Q => ∃ i j : Int, xs = [.int i, .int j] ∧ Q (.int (min i j)) H
theorem cl_min2 {X : Cx} (hc : X.calm = true) : CallR X (.builtin "min") rMin2A := by
  intro pins s σ H xs us Q I r h
  obtain ⟨i, j, e, q⟩ := h
  refine call_min2 hc pins s σ H xs us Q I r ⟨i, j, e, ?_⟩
  have e2 : (if j < i then j else i) = min i j := by omega
  rw [e2]
  exact q
def rAbsA : List V → Hp → VK → Prop := fun xs H Q => ∃ i, xs = [.int i] ∧ Q (.int (if i < 0 then -i else i)) H
theorem cl_abs {X : Cx} : CallR X (.builtin "abs") rAbsA := call_abs
theorem cl_all {X : Cx} (hc : X.calm = true) : CallR X (.builtin "all") (rAll X.K) := cr_all hc
theorem cl_any {X : Cx} (hc : X.calm = true) : CallR X (.builtin "any") (rAny X.K) := cr_any hc
theorem cl_min {X : Cx} (hc : X.calm = true) : CallR X (.builtin "min") (rMin X.K) := cr_min hc
def rListA (K : PySem.W.Frag) : List V → Hp → VK → Prop := fun xs H Q => ∃ p ys, xs = [.ref p] ∧ (SqL K H p ys ∨ SqT K H p ys) ∧ ∀ l, H l = none → Q (.ref l) (upd H l (.lst ys))
theorem cl_list {X : Cx} : CallR X (.type "list") (rListA X.K) := call_list_of
def rTupA (K : PySem.W.Frag) : List V → Hp → VK → Prop := fun xs H Q => ∃ p ys, xs = [.ref p] ∧ ((SqL K H p ys ∧ ∀ l, H l = none → Q (.ref l) (upd H l (.tup ys))) ∨ (SqT K H p ys ∧ Q (.ref p) H))
theorem cl_tup {X : Cx} : CallR X (.type "tuple") (rTupA X.K) := call_tuple_of
def rOrdA : List V → Hp → VK → Prop := fun xs H Q => ∃ x, xs = [.str x] ∧ x.length = 1 ∧ Q (.int (x.cps.getD 0 0 : Nat)) H
theorem cl_ord {X : Cx} : CallR X (.builtin "ord") rOrdA := call_ord
def rStrA : List V → Hp → VK → Prop := fun xs H Q => ∃ i : Int, xs = [.int i] ∧ i.natAbs.log2 < 1920 ∧ Q (.str (toString i)) H
theorem cl_str {X : Cx} : CallR X (.type "str") rStrA := call_str_int

section
variable {K : PySem.W.Frag} {ρ ρ' : AE} {R R' : RS} {ta tb tc te : TE} {tt : TT} {Φ : AV → RS → Prop} {Δ : AEnds} {B H B' H' : Hp} {σ : St}
theorem avs1 {xs : List V} {a : AV} (r : AVs K B xs [a]) : ∃ x, xs = [x] ∧ AVR K B x a := by
  cases r with
  | cons r1 r2 => cases r2; exact ⟨_, rfl, r1⟩
theorem avs2 {xs : List V} {a b : AV} (r : AVs K B xs [a, b]) : ∃ x y, xs = [x, y] ∧ AVR K B x a ∧ AVR K B y b := by
  cases r with
  | cons r1 r2 =>
    cases r2 with
    | cons r2 r3 => cases r3; exact ⟨_, _, rfl, r1, r2⟩
theorem avs3 {xs : List V} {a b c : AV} (r : AVs K B xs [a, b, c]) : ∃ x y z, xs = [x, y, z] ∧ AVR K B x a ∧ AVR K B y b ∧ AVR K B z c := by
  cases r with
  | cons r1 r2 =>
    cases r2 with
    | cons r2 r3 =>
      cases r3 with
      | cons r3 r4 => cases r4; exact ⟨_, _, _, rfl, r1, r2, r3⟩
inductive fLen : List AV → (AV → Prop) → Prop
  | l {ds : List D} {k : AV → Prop} : k (.d (.int (ds.length : Nat))) → fLen [.d (.lst ds)] k
  | t {ds : List D} {k : AV → Prop} : k (.d (.int (ds.length : Nat))) → fLen [.d (.tup ds)] k
  | sc {ns : List Int} {k : AV → Prop} : k (.d (.int (ns.length : Nat))) → fLen [.d (.scr ns)] k
  | s {s : Str} {k : AV → Prop} : s.length ≤ 1000000 → k (.d (.int (s.length : Nat))) → fLen [.d (.str s)] k
instance ac_len : ACc K (rLenA K) fLen := ⟨⟨fun B H xs as k Q hb r hf q => by
  cases hf with
  | @l ds _ h =>
    obtain ⟨x, rfl, r1⟩ := avs1 r
    obtain ⟨p, vs, rfl, h1, h2⟩ := dv_lst r1
    exact ⟨_, ds.length, rfl, .inl ⟨vs, SqL.of (hb _ _ h1), h2.length.symm⟩, q B H _ (.d (.int _)) (Gr.refl hb) (DV.int _) h⟩
  | @t ds _ h =>
    obtain ⟨x, rfl, r1⟩ := avs1 r
    obtain ⟨p, vs, rfl, h1, h2⟩ := dv_tup r1
    exact ⟨_, ds.length, rfl, .inr ⟨vs, sqT_mono hb h1, h2.length.symm⟩, q B H _ (.d (.int _)) (Gr.refl hb) (DV.int _) h⟩
  | @sc ns _ h =>
    obtain ⟨x, rfl, r1⟩ := avs1 r
    obtain ⟨p, rfl, h1⟩ := dv_scr r1
    exact ⟨_, ns.length, rfl, .inl ⟨_, hb.seq h1, (List.length_map _).symm⟩, q B H _ (.d (.int _)) (Gr.refl hb) (DV.int _) h⟩
  | @s s _ hl h =>
    obtain ⟨x, rfl, r1⟩ := avs1 r
    rw [dv_str r1]
    exact ⟨_, s.length, rfl, ⟨small_line hl, rfl⟩, q B H _ (.d (.int _)) (Gr.refl hb) (DV.int _) h⟩⟩⟩
inductive fInt : List AV → (AV → Prop) → Prop
  | i {i : Int} {k : AV → Prop} : k (.d (.int i)) → fInt [.d (.int i)] k
  | b {b : Bool} {k : AV → Prop} : k (.d (.int (if b then 1 else 0))) → fInt [.d (.bl b)] k
instance ac_int : ACc K rIntA fInt := ⟨⟨fun B H xs as k Q hb r hf q => by
  cases hf with
  | i h =>
    obtain ⟨x, rfl, r1⟩ := avs1 r
    rw [dv_int r1]
    exact .inl ⟨_, rfl, q B H _ (.d (.int _)) (Gr.refl hb) (DV.int _) h⟩
  | b h =>
    obtain ⟨x, rfl, r1⟩ := avs1 r
    rw [dv_bl r1]
    exact .inr ⟨_, rfl, q B H _ (.d (.int _)) (Gr.refl hb) (DV.int _) h⟩⟩⟩
inductive fC2 (g : Int → Int → Int) : List AV → (AV → Prop) → Prop
  | i {i j : Int} {k : AV → Prop} : k (.d (.int (g i j))) → fC2 g [.d (.int i), .d (.int j)] k
instance ac_max2 : ACc K rMax2A (fC2 fun i j => max i j) := ⟨⟨fun B H xs as k Q hb r hf q => by
  cases hf with
  | i h =>
    obtain ⟨x, y, rfl, r1, r2⟩ := avs2 r
    rw [dv_int r1, dv_int r2]
    exact ⟨_, _, rfl, q B H _ (.d (.int _)) (Gr.refl hb) (DV.int _) h⟩⟩⟩
instance ac_min2 : ACc K rMin2A (fC2 fun i j => min i j) := ⟨⟨fun B H xs as k Q hb r hf q => by
  cases hf with
  | i h =>
    obtain ⟨x, y, rfl, r1, r2⟩ := avs2 r
    rw [dv_int r1, dv_int r2]
    exact ⟨_, _, rfl, q B H _ (.d (.int _)) (Gr.refl hb) (DV.int _) h⟩⟩⟩
inductive fMax3 : List AV → (AV → Prop) → Prop
  | i {i j m : Int} {k : AV → Prop} : k (.d (.int (max (max i j) m))) → fMax3 [.d (.int i), .d (.int j), .d (.int m)] k
instance ac_max3 : ACc K rMax3A fMax3 := ⟨⟨fun B H xs as k Q hb r hf q => by
  cases hf with
  | i h =>
    obtain ⟨x, y, z, rfl, r1, r2, r3⟩ := avs3 r
    rw [dv_int r1, dv_int r2, dv_int r3]
    exact ⟨_, _, _, rfl, q B H _ (.d (.int _)) (Gr.refl hb) (DV.int _) h⟩⟩⟩
inductive fAbs : List AV → (AV → Prop) → Prop
  | i {i : Int} {k : AV → Prop} : k (.d (.int (if i < 0 then -i else i))) → fAbs [.d (.int i)] k
instance ac_abs : ACc K rAbsA fAbs := ⟨⟨fun B H xs as k Q hb r hf q => by
  cases hf with
  | i h =>
    obtain ⟨x, rfl, r1⟩ := avs1 r
    rw [dv_int r1]
    exact ⟨_, rfl, q B H _ (.d (.int _)) (Gr.refl hb) (DV.int _) h⟩⟩⟩
theorem dvs_bls : ∀ {vs : List V} {bs : List Bool}, DVs K B vs (bs.map .bl) → vs = bs.map .bl
  | _, [], .nil => rfl
  | _, b :: bs, .cons h t => by cases h; rw [dvs_bls t]; rfl
theorem dvs_ints : ∀ {vs : List V} {ns : List Int}, DVs K B vs (ns.map .int) → vs = ns.map .int
  | _, [], .nil => rfl
  | _, b :: bs, .cons h t => by cases h; rw [dvs_ints t]; rfl
inductive fAll : List AV → (AV → Prop) → Prop
  | i {bs : List Bool} {k : AV → Prop} : k (.d (.bl (bs.all id))) → fAll [.d (.lst (bs.map .bl))] k
instance ac_all : ACc K (rAll K) fAll := ⟨⟨fun B H xs as k Q hb r hf q => by
  cases hf with
  | @i bs _ h =>
    obtain ⟨x, rfl, r1⟩ := avs1 r
    obtain ⟨p, vs, rfl, h1, h2⟩ := dv_lst r1
    have e := dvs_bls h2
    subst e
    exact ⟨p, bs, rfl, SqL.of (hb _ _ h1), q B H _ (.d (.bl _)) (Gr.refl hb) (DV.bl _) h⟩⟩⟩
inductive fAny : List AV → (AV → Prop) → Prop
  | i {bs : List Bool} {k : AV → Prop} : k (.d (.bl (bs.any id))) → fAny [.d (.lst (bs.map .bl))] k
instance ac_any : ACc K (rAny K) fAny := ⟨⟨fun B H xs as k Q hb r hf q => by
  cases hf with
  | @i bs _ h =>
    obtain ⟨x, rfl, r1⟩ := avs1 r
    obtain ⟨p, vs, rfl, h1, h2⟩ := dv_lst r1
    have e := dvs_bls h2
    subst e
    exact ⟨p, bs, rfl, SqL.of (hb _ _ h1), q B H _ (.d (.bl _)) (Gr.refl hb) (DV.bl _) h⟩⟩⟩
inductive fMin : List AV → (AV → Prop) → Prop
  | i {ns : List Int} {k : AV → Prop} : 0 < ns.length → (∀ m, m ∈ ns → (∀ y, y ∈ ns → m ≤ y) → k (.d (.int m))) → fMin [.d (.lst (ns.map .int))] k
instance ac_min : ACc K (rMin K) fMin := ⟨⟨fun B H xs as k Q hb r hf q => by
  cases hf with
  | @i ns _ hl h =>
    obtain ⟨x, rfl, r1⟩ := avs1 r
    obtain ⟨p, vs, rfl, h1, h2⟩ := dv_lst r1
    have e := dvs_ints h2
    subst e
    exact ⟨p, ns, rfl, SqL.of (hb _ _ h1), hl, fun m h3 h4 => q B H _ (.d (.int _)) (Gr.refl hb) (DV.int _) (h m h3 h4)⟩⟩⟩
inductive fList : List AV → (AV → Prop) → Prop
  | l {ds : List D} {k : AV → Prop} : k (.d (.lst ds)) → fList [.d (.lst ds)] k
  | t {ds : List D} {k : AV → Prop} : k (.d (.lst ds)) → fList [.d (.tup ds)] k
instance ac_list : ACc K (rListA K) fList := ⟨⟨fun B H xs as k Q hb r hf q => by
  cases hf with
  | @l ds _ h =>
    obtain ⟨x, rfl, r1⟩ := avs1 r
    obtain ⟨p, vs, rfl, h1, h2⟩ := dv_lst r1
    refine ⟨p, vs, rfl, .inl (SqL.of (hb _ _ h1)), fun l nl => ?_⟩
    have g := Gr.new (o := .lst vs) hb nl
    exact q _ _ _ (.d (.lst ds)) g (DV.lst upd_same (h2.mono g.bb)) h
  | @t ds _ h =>
    obtain ⟨x, rfl, r1⟩ := avs1 r
    obtain ⟨p, vs, rfl, h1, h2⟩ := dv_tup r1
    refine ⟨p, vs, rfl, .inr (sqT_mono hb h1), fun l nl => ?_⟩
    have g := Gr.new (o := .lst vs) hb nl
    exact q _ _ _ (.d (.lst ds)) g (DV.lst upd_same (h2.mono g.bb)) h⟩⟩
inductive fTup : List AV → (AV → Prop) → Prop
  | l {ds : List D} {k : AV → Prop} : k (.d (.tup ds)) → fTup [.d (.lst ds)] k
  | t {ds : List D} {k : AV → Prop} : k (.d (.tup ds)) → fTup [.d (.tup ds)] k
instance ac_tup : ACc K (rTupA K) fTup := ⟨⟨fun B H xs as k Q hb r hf q => by
  cases hf with
  | @l ds _ h =>
    obtain ⟨x, rfl, r1⟩ := avs1 r
    obtain ⟨p, vs, rfl, h1, h2⟩ := dv_lst r1
    refine ⟨p, vs, rfl, .inl ⟨SqL.of (hb _ _ h1), fun l nl => ?_⟩⟩
    have g := Gr.new (o := .tup vs) hb nl
    exact q _ _ _ (.d (.tup ds)) g (DV.tup (SqT.of upd_same) (h2.mono g.bb)) h
  | @t ds _ h =>
    obtain ⟨x, rfl, r1⟩ := avs1 r
    obtain ⟨p, vs, rfl, h1, h2⟩ := dv_tup r1
    exact ⟨p, vs, rfl, .inr ⟨sqT_mono hb h1, q B H _ (.d (.tup ds)) (Gr.refl hb) r1 h⟩⟩⟩⟩
inductive fOrd : List AV → (AV → Prop) → Prop
  | i {s : Str} {k : AV → Prop} : s.length = 1 → k (.d (.int (s.cps.getD 0 0 : Nat))) → fOrd [.d (.str s)] k
instance ac_ord : ACc K rOrdA fOrd := ⟨⟨fun B H xs as k Q hb r hf q => by
  cases hf with
  | i hl h =>
    obtain ⟨x, rfl, r1⟩ := avs1 r
    rw [dv_str r1]
    exact ⟨_, rfl, hl, q B H _ (.d (.int _)) (Gr.refl hb) (DV.int _) h⟩⟩⟩
inductive fStr : List AV → (AV → Prop) → Prop
  | i {i : Int} {k : AV → Prop} : i.natAbs.log2 < 1920 → k (.d (.str (toString i))) → fStr [.d (.int i)] k
instance ac_str : ACc K rStrA fStr := ⟨⟨fun B H xs as k Q hb r hf q => by
  cases hf with
  | i hl h =>
    obtain ⟨x, rfl, r1⟩ := avs1 r
    rw [dv_int r1]
    exact ⟨_, rfl, hl, q B H _ (.d (.str _)) (Gr.refl hb) (DV.str _) h⟩⟩⟩

/-! ### sorted: lists of tuples of ints of one length -/
def encT (t : List Int) : PyData := .tuple (t.map .int)
def encD (t : List Int) : D := .tup (t.map .int)
def leT : List Int → List Int → Bool := PySem.W.dataLe false encT
def rSortT (K : PySem.W.Frag) : List V → Hp → VK → Prop := fun xs H Q => ∃ (a : Addr) (vs : List V) (ts : List (List Int)) (Rel : V → List Int → Prop), xs = [.ref a] ∧ SqL K H a vs ∧ Paired (fun v t => Rel v t ∧ Dp K H v (encT t)) vs ts ∧ (∃ n, ∀ t ∈ ts, t.length = n + 1) ∧ ts.length ≤ 10000000 ∧
  ∀ p out, H p = none → Paired Rel out (ts.mergeSort leT) → Q (.ref p) (upd H p (.lst out))
theorem alikeI : ∀ xs ys : List Int, PySem.W.alikeAll (xs.map .int) (ys.map .int) = true := PySem.W.alike_ints
theorem each_pair {Rel : V → List Int → Prop} : ∀ {out : List Value} {ts : List (List Int)}, PySem.W.EachIs (fun (u : Value) (t : List Int) => ∃ v, RelV v u ∧ Rel v t) out ts → ∃ vs, Vals vs out ∧ Paired Rel vs ts
  | _, _, .nil => ⟨[], .nil, .nil⟩
  | _, _, .cons ⟨v, h1, h2⟩ t => by
    obtain ⟨vs, h3, h4⟩ := each_pair t
    exact ⟨v :: vs, .cons h1 h3, .cons h2 h4⟩
theorem cl_sortT {X : Cx} (hu : X.A.units + 64 < cLine) : CallR X (.builtin "sorted") (rSortT X.K) := by
  intro pins s σ H xs us Q I r h
  obtain ⟨a, vs, ts, Rel, rfl, hs, hp, ⟨n, hn⟩, hl, q⟩ := h
  obtain ⟨its, rv, pl, hz⟩ := I.list hs
  obtain ⟨u, rfl, ru⟩ := vals1 r
  obtain rfl : u = Value.ref a := ru
  have pair : ∀ {vs : List V} {ts : List (List Int)} {its : List Value}, Paired (fun v t => Rel v t ∧ Dp X.K H v (encT t)) vs ts → Vals vs its → PySem.W.EachIs (fun (u : Value) (t : List Int) => (∃ v, RelV v u ∧ Rel v t) ∧ ∃ as, Reads s.heap u (encT t) as) its ts := by
    intro vs ts its h1
    induction h1 generalizing its with
    | nil => intro h2; cases h2; exact .nil
    | cons d _ ih =>
      intro h2
      cases h2 with
      | cons r1 r2 => exact .cons ⟨⟨_, r1, d.1⟩, Dp.reads I _ _ _ d.2 r1⟩ (ih r2)
  have e := pair hp rv
  refine PySem.W.sorted_data (R := fun (u : Value) (t : List Int) => ∃ v, RelV v u ∧ Rel v t) (bs := ts) (enc := encT) pl.isList (e.mono fun _ _ z => z.1) (e.mono fun _ _ z => z.2) (PySem.W.AllAlike.of fun b b' => ?_) ?_ (Nat.le_trans hl (by decide)) (fun b _ => ?_) fun out ho eo => ?_
  · show PySem.W.alike (.tuple (b.map .int)) (.tuple (b'.map .int)) = true
    simp [PySem.W.alike, alikeI]
  · refine .inl fun d hd => ?_
    obtain ⟨t, ht, rfl⟩ := List.mem_map.mp hd
    have := hn t ht
    cases t with
    | nil => simp at this
    | cons x r => exact ⟨_, _, rfl⟩
  · have : (encT b).depth = 1 := by show (PyData.tuple (b.map .int)).depth = 1; rw [PyData.depth, depthInts]
    rw [this]
    omega
  · obtain ⟨ws, hv, hr⟩ := each_pair eo
    obtain ⟨c, hc⟩ := sortedAll_at s.heap its out.toArray
    refine ⟨.ref (s.heap.objs.size + 1), upd H (s.heap.objs.size + 1) (.lst ws), I.laid (t' := s.toks) (fun b o e => sortedAll_old e) (Nat.le_succ _) ⟨?_, out, c, hv, hc⟩, rfl, q _ ws (I.hok.fresh (Nat.le_succ _)) hr⟩
    rw [hv.length, ho]
    exact Nat.le_trans hl (by decide)
theorem pair_enc : ∀ {vs : List V} {ts : List (List Int)}, DVs K B vs (ts.map encD) → Paired (fun v t => DV K B v (encD t) ∧ Dp K B v (encT t)) vs ts
  | _, [], .nil => .nil
  | _, t :: ts, .cons h r => .cons ⟨h, dp_tupI h⟩ (pair_enc r)
theorem enc_pair : ∀ {vs : List V} {ts : List (List Int)}, Paired (fun v t => DV K B v (encD t)) vs ts → DVs K B vs (ts.map encD)
  | _, _, .nil => .nil
  | _, _, .cons h r => .cons h (enc_pair r)
inductive fSort : List AV → (AV → Prop) → Prop
  | i {ts : List (List Int)} {n : Nat} {k : AV → Prop} : (∀ t ∈ ts, t.length = n + 1) → ts.length ≤ 10000000 → k (.d (.lst ((ts.mergeSort leT).map encD))) → fSort [.d (.lst (ts.map encD))] k
instance ac_sort : ACc K (rSortT K) fSort := ⟨⟨fun B H xs as k Q hb r hf q => by
  cases hf with
  | @i ts n _ hn hl h =>
    obtain ⟨x, rfl, r1⟩ := avs1 r
    obtain ⟨p, vs, rfl, h1, h2⟩ := dv_lst r1
    refine ⟨p, vs, ts, fun v t => DV K B v (encD t), rfl, SqL.of (hb _ _ h1), Paired.imp (fun _ _ z => ⟨z.1, dp_mono hb z.2⟩) (pair_enc h2), ⟨n, hn⟩, hl, fun p2 out n2 hp => ?_⟩
    have g := Gr.new (o := .lst out) hb n2
    exact q _ _ _ (.d (.lst ((ts.mergeSort leT).map encD))) g (DV.lst upd_same ((enc_pair hp).mono g.bb)) h⟩⟩
theorem leT_eq : leT = fun xs ys => decide (xs ≤ ys) := PySem.W.dataLe_rows (fun b => b)
end
end Ab
set_option Elab.async false
set_option linter.all false
set_option maxRecDepth 100000
set_option maxHeartbeats 1000000
namespace Ab
open PySem PySem.Spec L2
open PyProof.Rows hiding St
section
variable {K : PySem.W.Frag} {ρ ρ' : AE} {R R' : RS} {ta tb tc te : TE} {tt : TT} {Φ : AV → RS → Prop} {Δ : AEnds} {B H B' H' : Hp} {σ : St}

/-! ### dicts -/
theorem absC_inv {w u : V} (h : AVR K B w (absC u)) : w = u := by
  cases u with
  | non => cases (show DV K B w .non from h); rfl
  | bl b => cases (show DV K B w (.bl b) from h); rfl
  | int i => cases (show DV K B w (.int i) from h); rfl
  | str s => cases (show DV K B w (.str s) from h); rfl
  | _ => exact h
structure WP (K : PySem.W.Frag) (trs : List (TE × TE)) (ρ : AE) (R : RS) (Ψ : List (AV × AV) → RS → Prop) : Prop where
  run : ∀ (B H : Hp) (σ : St) (Q : List (V × V) → Hp → Prop), SR K B H σ ρ R → (∀ (B' H' : Hp) (ps : List (V × V)) (as : List (AV × AV)) (R' : RS), Step R B H R' B' H' → SR K B' H' σ ρ R' → Paired (fun p a => AVR K B' p.1 a.1 ∧ AVR K B' p.2 a.2) ps as → Ψ as R' → Q ps H') → tPairs trs σ H Q
theorem wp_nil {Ψ : List (AV × AV) → RS → Prop} (q : Ψ [] R) : WP K [] ρ R Ψ := ⟨fun B H σ Q S k => k B H [] [] R (Step.refl _ _ _) S .nil q⟩
theorem wp_cons {trs : List (TE × TE)} {tk tv : TE} {Ψ : List (AV × AV) → RS → Prop} (h : WE K tk ρ R fun a R1 => WE K tv ρ R1 fun b R2 => WP K trs ρ R2 fun as R3 => Ψ ((a, b) :: as) R3) : WP K ((tk, tv) :: trs) ρ R Ψ := ⟨fun B H σ Q S k => by
  refine h.run B H σ _ S fun B1 H1 x a R1 s1 S1 r1 q1 => ?_
  refine q1.run B1 H1 σ _ S1 fun B2 H2 y b R2 s2 S2 r2 q2 => ?_
  refine q2.run B2 H2 σ _ S2 fun B3 H3 ps as R3 s3 S3 r3 q3 => ?_
  exact k B3 H3 ((x, y) :: ps) ((a, b) :: as) R3 ((s1.trans s2).trans s3) S3 (.cons ⟨(r1.mono s2.bb).mono s3.bb, r2.mono s3.bb⟩ r3) q3⟩
def abs2 (kv : Key × V) : AV × AV := (absC (kV kv.1), absC kv.2)
theorem abs2_inv : ∀ {ps : List (V × V)} {kvs : List (Key × V)}, Paired (fun p a => AVR K B p.1 a.1 ∧ AVR K B p.2 a.2) ps (kvs.map abs2) → ps = kvs.map fun kv => (kV kv.1, kv.2)
  | _, [], .nil => rfl
  | (x, y) :: ps, kv :: kvs, .cons h t => by
    obtain ⟨h1, h2⟩ := h
    have e1 : x = kV kv.1 := absC_inv h1
    have e2 : y = kv.2 := absC_inv h2
    rw [List.map_cons, e1, e2, abs2_inv t]
theorem we_disp {trs : List (TE × TE)} (h : ∀ p, WP K trs ρ ((p, .ho (.dK [])) :: R) fun as R1 => (p, RV.ho (.dK [])) ∈ R1 ∧ ∃ kvs : List (Key × V), as = kvs.map abs2 ∧ kvs.length ≤ 15 ∧ Φ (.v (.ref p)) (setR R1 p (.ho (.dK (mergeK [] kvs))))) : WE K (tDisp trs) ρ R Φ := ⟨fun B H σ Q S k => by
  intro p hp
  obtain ⟨S1, s1⟩ := SR.more (o := .dK []) (r := .ho (.dK [])) S hp rfl
  refine (h p).run B _ σ _ S1 fun B2 H2 ps as R2 s2 S2 r2 ⟨hm, kvs, e, hl, q⟩ => ?_
  subst e
  obtain ⟨_, h1⟩ := S2.rs.at_ _ hm
  have hp2 : p ∈ dom R2 := List.mem_map.mpr ⟨_, hm, rfl⟩
  obtain ⟨S3, s3⟩ := S2.setR (o := .dK (mergeK [] kvs)) (r := .ho (.dK (mergeK [] kvs))) hp2 rfl
  exact ⟨h1, kvs, abs2_inv r2, hl, k B2 _ (.ref p) (.v (.ref p)) _ ((s1.trans s2).trans s3) S3 rfl q⟩⟩
theorem we_dnew (h : ∀ p, Φ (.v (.ref p)) ((p, .ho (.dK [])) :: R)) : WE K tDNewK ρ R Φ := ⟨fun B H σ Q S k => by
  intro p hp
  obtain ⟨S1, s1⟩ := SR.more (o := .dK []) (r := .ho (.dK [])) S hp rfl
  exact k B _ (.ref p) (.v (.ref p)) _ s1 S1 rfl (h p)⟩
theorem we_dget (h : WE K ta ρ R fun a R1 => WE K tb ρ R1 fun b R2 => ∃ p kvs key v, a = .v (.ref p) ∧ b = absC (kV key) ∧ (p, RV.ho (.dK kvs)) ∈ R2 ∧ valV kvs key = some v ∧ Φ (absC v) R2) : WE K (tDGet ta tb) ρ R Φ := ⟨fun B H σ Q S k => by
  refine h.run B H σ _ S fun B1 H1 x a R1 s1 S1 r1 q1 => ?_
  refine q1.run B1 H1 σ _ S1 fun B2 H2 y b R2 s2 S2 r2 ⟨p, kvs, key, v, ea, eb, hm, hv, q⟩ => ?_
  subst ea
  subst eb
  cases (show x = .ref p from r1)
  rw [absC_inv r2]
  obtain ⟨_, h1⟩ := S2.rs.at_ _ hm
  have h1 : H2 p = some (.dK kvs) := h1
  refine ⟨p, v, rfl, ?_, k B2 H2 v (absC v) R2 (s1.trans s2) S2 (absC_ok v) q⟩
  rw [← hv]
  exact DGet.k h1⟩
theorem we_dget2 (h : WE K ta ρ R fun a R1 => ∃ p kvs, a = .v (.ref p) ∧ (p, RV.ho (.dK kvs)) ∈ R1 ∧ WE K tb ρ R1 fun b R2 => WE K tc ρ R2 fun c R3 => ∃ key, b = absC (kV key) ∧ (p, RV.ho (.dK kvs)) ∈ R3 ∧ Φ (match valV kvs key with | some v => absC v | none => c) R3) : WE K (tDGet2 ta tb tc) ρ R Φ := ⟨fun B H σ Q S k => by
  refine h.run B H σ _ S fun B1 H1 x a R1 s1 S1 r1 ⟨p, kvs, ea, hm1, q1⟩ => ?_
  subst ea
  cases (show x = .ref p from r1)
  obtain ⟨_, h1⟩ := S1.rs.at_ _ hm1
  refine ⟨p, rfl, .inl ⟨kvs, .inl h1⟩, ?_⟩
  refine q1.run B1 H1 σ _ S1 fun B2 H2 y b R2 s2 S2 r2 q2 => ?_
  refine q2.run B2 H2 σ _ S2 fun B3 H3 z c R3 s3 S3 r3 ⟨key, eb, hm3, q⟩ => ?_
  subst eb
  rw [absC_inv r2]
  obtain ⟨_, h3⟩ := S3.rs.at_ _ hm3
  have h3 : H3 p = some (.dK kvs) := h3
  refine ⟨valV kvs key, DGet.k h3, ?_⟩
  cases hv : valV kvs key with
  | none => rw [hv] at q; exact k B3 H3 z c R3 ((s1.trans s2).trans s3) S3 r3 q
  | some v => rw [hv] at q; exact k B3 H3 v (absC v) R3 ((s1.trans s2).trans s3) S3 (absC_ok v) q⟩
theorem ws_dput (h : WE K tc ρ R fun c R1 => WE K ta ρ R1 fun a R2 => WE K tb ρ R2 fun b R3 => ∃ p kvs key v, c = absC v ∧ a = .v (.ref p) ∧ b = absC (kV key) ∧ (p, RV.ho (.dK kvs)) ∈ R3 ∧ kvs.length < 10000000 ∧ Δ.nx ρ (setR R3 p (.ho (.dK (putK kvs key v))))) : WS K (sDPut ta tb tc) ρ R Δ := ⟨fun B H σ D S l => by
  refine h.run B H σ _ S fun B1 H1 x c R1 s1 S1 r1 q1 => ?_
  refine q1.run B1 H1 σ _ S1 fun B2 H2 y a R2 s2 S2 r2 q2 => ?_
  refine q2.run B2 H2 σ _ S2 fun B3 H3 z b R3 s3 S3 r3 ⟨p, kvs, key, v, ec, ea, eb, hm, hl, q⟩ => ?_
  subst ec
  subst ea
  subst eb
  cases (show y = .ref p from r2)
  rw [absC_inv r3, absC_inv r1]
  obtain ⟨_, h3⟩ := S3.rs.at_ _ hm
  have h3 : H3 p = some (.dK kvs) := h3
  have hp : p ∈ dom R3 := List.mem_map.mpr ⟨_, hm, rfl⟩
  obtain ⟨S4, s4⟩ := S3.setR (o := .dK (putK kvs key v)) (r := .ho (.dK (putK kvs key v))) hp rfl
  exact ⟨p, _, rfl, DPut.k h3 (Nat.lt_of_lt_of_le hl (by decide)), l.nx B3 _ σ ρ _ (((s1.trans s2).trans s3).trans s4) S4 q⟩⟩

/-! ### a dict walked by its items, in a comprehension that makes tuples of ints -/
theorem wi_items {Ψ : List D → RS → Prop} (h : WE K te ρ R fun a R1 => ∃ (od : Obj) (ps : List (Int × Int)), a = .d (.dct od (ps.map fun p => (Sum.inl p.1, V.int p.2))) ∧ Ψ (ps.map fun p => D.tup [.int p.1, .int p.2]) R1) : WI K (iItems te) ρ R Ψ := ⟨fun B H σ Rk S k => by
  refine h.run B H σ _ S fun B1 H1 w a R1 s1 S1 r ⟨od, ps, e, q⟩ => ?_
  subst e
  cases (show DV K B1 w (.dct od _) from r) with
  | dct h1 =>
    refine ⟨_, od, _, rfl, S1.bh _ _ h1, k B1 H1 _ _ R1 s1 S1 ⟨fun i y B2 H2 e hb hh => ?_, fun B2 H2 hb hh => ⟨hh _ _ (hb _ _ h1), by simp⟩⟩ q⟩
    rw [List.getElem?_map] at e
    cases e2 : ps[i]? with
    | none => rw [e2] at e; cases e
    | some p =>
      rw [e2] at e
      cases e
      have hi : i < ps.length := (List.getElem?_eq_some_iff.mp e2).1
      refine ⟨⟨hh _ _ (hb _ _ h1), by simpa using hi⟩, fun x H3 q => ?_⟩
      obtain ⟨T, key, v, hkv, rfl, nT, rfl⟩ := q
      rw [List.getElem?_map, e2] at hkv
      cases hkv
      have g := Gr.new (o := .tup [kV (Sum.inl p.1), V.int p.2]) hh nT
      exact ⟨_, g, DV.tup (SqT.of upd_same) (.cons (DV.int _) (.cons (DV.int _) .nil))⟩⟩
/-- a heap without p -/
def delH (H : Hp) (p : Addr) : Hp := fun b => if b = p then none else H b
theorem delH_ne {p b : Addr} (h : b ≠ p) : delH H p b = H b := by unfold delH; rw [if_neg h]
theorem delH_same {p : Addr} : delH H p p = none := by unfold delH; rw [if_pos rfl]
theorem dvs_encD_del {p : Addr} {o : HO} (hp : B p = some o) (h1 : ∀ xs, o ≠ .tup xs) (h2 : ∀ ob xs, o ≠ .frz ob (.tup xs)) : ∀ {vs : List V} {ts : List (List Int)}, DVs K B vs (ts.map encD) → DVs K (delH B p) vs (ts.map encD)
  | _, [], .nil => .nil
  | _, t :: ts, .cons h r => by
    refine .cons ?_ (dvs_encD_del hp h1 h2 r)
    cases (show DV K B _ (.tup (t.map .int)) from h) with
    | @tup a vs _ hq hv =>
      have e := dvs_ints hv
      subst e
      refine DV.tup (vs := t.map V.int) ?_ ?_
      · rcases hq with (q | ⟨ob, q⟩) | q
        · refine .inl (.inl ?_)
          rw [delH_ne (fun z => by subst z; rw [hp] at q; cases q; exact h1 _ rfl)]
          exact q
        · refine .inl (.inr ⟨ob, ?_⟩)
          rw [delH_ne (fun z => by subst z; rw [hp] at q; cases q; exact h2 _ _ rfl)]
          exact q
        · exact .inr q
      · clear hq hv h
        induction t with
        | nil => exact .nil
        | cons n t ih => exact .cons (DV.int n) ih
theorem we_lock {i : Nat} {p : Addr} {ps : List (Int × Int)} {t : TE} (h1 : ρ[i]? = some (some (.v (.ref p)))) (h2 : R = [(p, .ho (.dK (ps.map fun p => (Sum.inl p.1, V.int p.2))))]) (h : ∀ od, WE K t (ρ.set i (some (.d (.dct od (ps.map fun p => (Sum.inl p.1, V.int p.2)))))) [] fun a R2 => ∃ ts : List (List Int), a = .d (.lst (ts.map encD)) ∧ R2 = [] ∧ Φ a R) : WE K (tLockE t) ρ R Φ := ⟨fun B H σ Q S k => by
  subst h2
  let kvs : List (Key × V) := ps.map fun p => (Sum.inl p.1, V.int p.2)
  obtain ⟨hB, hH⟩ := S.rs.at_ (p, .ho (.dK kvs)) List.mem_cons_self
  have hH : H p = some (.dK kvs) := hH
  have hB : B p = none := hB
  refine ⟨p, .dK kvs, hH, trivial, fun od => ?_⟩
  have S1 : SR K (upd B p (.frz od (.dK kvs))) (upd H p (.frz od (.dK kvs))) σ ρ [] := ⟨same_upd2 S.bh, S.en.mono (same_updN hB), ⟨fun x hx => (by cases hx), List.nodup_nil⟩⟩
  obtain ⟨w, e1, e2⟩ := S1.en.at_ i _ h1
  have e2 : w = .ref p := e2
  subst e2
  have hs : σ.set i (some (.ref p)) = σ := by
    apply List.ext_getElem?
    intro j
    by_cases q : i = j
    · subst q
      rw [List.getElem?_set_self (List.getElem?_eq_some_iff.mp e1).1, e1]
    · rw [List.getElem?_set_ne q]
  have S2 := S1.set (w := .ref p) (a := .d (.dct od kvs)) i (DV.dct upd_same)
  rw [hs] at S2
  refine (h od).run _ _ σ _ S2 fun B3 H3 v a R3 s3 S3 r3 ⟨ts, ea, eR, q⟩ => ?_
  subst ea
  subst eR
  have b3 : B3 p = some (.frz od (.dK kvs)) := s3.bb _ _ upd_same
  have h3 : H3 p = some (.frz od (.dK kvs)) := S3.bh _ _ b3
  refine ⟨h3, ?_⟩
  obtain ⟨l, vs, rfl, hl, hv⟩ := dv_lst r3
  have hlp : l ≠ p := fun z => by subst z; rw [b3] at hl; cases hl
  have same1 : Same B (delH B3 p) := fun b o e => by
    have hne : b ≠ p := fun z => by subst z; rw [hB] at e; cases e
    rw [delH_ne hne]
    exact s3.bb b o (by rw [upd_ne hne]; exact e)
  have S4 : SR K (delH B3 p) (upd H3 p (.dK kvs)) σ ρ [(p, .ho (.dK kvs))] := by
    refine ⟨fun b o e => ?_, S.en.mono same1, ⟨fun x hx => ?_, S.rs.nd⟩⟩
    · have hne : b ≠ p := fun z => by subst z; rw [delH_same] at e; cases e
      rw [delH_ne hne] at e
      rw [upd_ne hne]
      exact S3.bh b o e
    · rcases List.mem_cons.mp hx with rfl | hx
      · exact ⟨delH_same, by rw [upd_same]; rfl⟩
      · cases hx
  refine k _ _ (.ref l) (.d (.lst (ts.map encD))) _ ⟨same1, fun a o e n => ?_, fun a e eb n => ?_, fun a e => ?_, fun a m => .inl m⟩ S4 (DV.lst (by rw [delH_ne hlp]; exact hl) (dvs_encD_del b3 (fun _ z => by cases z) (fun _ _ z => by cases z) hv)) q
  · have hne : a ≠ p := fun z => n (by subst z; exact List.mem_cons_self)
    rw [upd_ne hne]
    exact s3.hh a o (by rw [upd_ne hne]; exact e) (by intro z; cases z)
  · have hne : a ≠ p := fun z => n (by subst z; exact List.mem_cons_self)
    rw [delH_ne hne]
    exact s3.fr a (by rw [upd_ne hne]; exact e) (by rw [upd_ne hne]; exact eb) (by intro z; cases z)
  · by_cases hne : a = p
    · subst hne; rw [upd_same]; simp
    · rw [upd_ne hne]
      exact s3.al a (by rw [upd_ne hne]; exact e)⟩

/-! ### zip of two tuples, len(set(..)), isinstance -/
theorem wi_zipT {t : TA} {Ψ : List D → RS → Prop} (h : WA K t ρ R fun as R1 => ∃ xs ys, as = [.d (.tup xs), .d (.tup ys)] ∧ xs.length = ys.length ∧ Ψ ((xs.zip ys).map fun p => D.tup [p.1, p.2]) R1) : WI K (RZ.iZipA K t) ρ R Ψ := ⟨fun B H σ Rk S k => by
  refine h.run B H σ _ S fun B1 H1 ws as R1 s1 S1 r ⟨xs, ys, e, hl, q⟩ => ?_
  subst e
  obtain ⟨w1, w2, rfl, r1, r2⟩ := avs2 r
  obtain ⟨p1, vs1, rfl, h1, h2⟩ := dv_tup r1
  obtain ⟨p2, vs2, rfl, h3, h4⟩ := dv_tup r2
  refine ⟨p1, p2, vs1, vs2, rfl, .inr ⟨sqT_mono S1.bh h1, sqT_mono S1.bh h3, k B1 H1 _ _ R1 s1 S1 ⟨fun i y B2 H2 e hb hh => ?_, fun B2 H2 hb hh => ?_⟩ q⟩⟩
  · rw [List.getElem?_map] at e
    cases e2 : (xs.zip ys)[i]? with
    | none => rw [e2] at e; cases e
    | some p =>
      rw [e2] at e
      cases e
      obtain ⟨e3, e4⟩ := List.getElem?_zip_eq_some.mp e2
      obtain ⟨u1, hu1, hd1⟩ := h2.get e3
      obtain ⟨u2, hu2, hd2⟩ := h4.get e4
      have q1 := sqT_mono (hb.trans hh) h1
      have q2 := sqT_mono (hb.trans hh) h3
      refine ⟨⟨vs1, vs2, u1, u2, q1, q2, hu1, hu2⟩, fun x H3 z => ?_⟩
      obtain ⟨T, a, b, rfl, nT, rfl, f1, f2⟩ := z
      have g1 := f1 _ q1
      have g2 := f2 _ q2
      rw [hu1] at g1
      rw [hu2] at g2
      cases g1
      cases g2
      have g := Gr.new (o := .tup [u1, u2]) hh nT
      exact ⟨_, g, DV.tup (SqT.of upd_same) (.cons ((hd1.mono hb).mono g.bb) (.cons ((hd2.mono hb).mono g.bb) .nil))⟩
  · refine ⟨vs1, vs2, sqT_mono (hb.trans hh) h1, sqT_mono (hb.trans hh) h3, .inl ?_⟩
    rw [h2.length, List.length_map, List.length_zip, hl, Nat.min_self]
    exact Nat.le_refl _⟩
theorem we_lenSet (h : WE K ta ρ R fun a R1 => ∃ ns : List Int, a = .d (.lst (ns.map .int)) ∧ ns.Nodup ∧ ns.length ≤ 4000 ∧ Φ (.d (.int (ns.length : Nat))) R1) : WE K (RZ.tLenSetI K ta) ρ R Φ := ⟨fun B H σ Q S k => by
  refine h.run B H σ _ S fun B1 H1 x a R1 s1 S1 r1 ⟨ns, ea, hn, hl, q⟩ => ?_
  subst ea
  obtain ⟨p, vs, rfl, h1, h2⟩ := dv_lst r1
  have e := dvs_ints h2
  subst e
  exact ⟨p, ns, rfl, SqL.of (S1.bh _ _ h1), hn, hl, k B1 H1 _ (.d (.int _)) R1 s1 S1 (DV.int _) q⟩⟩
def tyD : D → Option String
  | .non => some "NoneType"
  | .bl _ => some "bool"
  | .int _ => some "int"
  | .str _ => some "str"
  | .lst _ => some "list"
  | .tup _ => some "tuple"
  | _ => none
theorem tyD_ok {x : V} {d : D} {T : String} (hb : Same B H) (h : DV K B x d) (e : tyD d = some T) : TyX K H x (.type T) := by
  cases h with
  | non => cases e; exact .base .non
  | bl b => cases e; exact .base (.bl b)
  | int i => cases e; exact .base (.int i)
  | str s => cases e; exact .base (.str s)
  | lst h1 _ => cases e; exact .base (.lst (hb _ _ h1))
  | tup h1 _ =>
    cases e
    rcases sqT_mono hb h1 with (q | ⟨o, q⟩) | ⟨o, its, n, q1, q2, _⟩
    · exact .base (.tup q)
    · exact .fTuple q
    · exact .kTuple q1 q2
  | _ => cases e
def rIsiA (K : PySem.W.Frag) : List V → Hp → VK → Prop := fun xs H Q => rIsi K xs H Q ∨ rIsiT K xs H Q
theorem cl_isi {X : Cx} : CallR X (.builtin "isinstance") (rIsiA X.K) := by
  intro pins s σ H xs us Q I r h
  rcases h with h | h
  · exact call_isi pins s σ H xs us Q I r h
  · exact call_isiT pins s σ H xs us Q I r h
inductive fIsi : List AV → (AV → Prop) → Prop
  | one {d : D} {T U : String} {b : Bool} {k : AV → Prop} : tyD d = some T → kitB T U = some b → k (.d (.bl b)) → fIsi [.d d, .v (.ty U)] k
instance ac_isi : ACc K (rIsiA K) fIsi := ⟨⟨fun B H xs as k Q hb r hf q => by
  cases hf with
  | @one d T U b _ h1 h2 h =>
    obtain ⟨x, y, rfl, r1, r2⟩ := avs2 r
    cases (show y = .ty U from r2)
    exact .inl ⟨x, .ty U, .type T, .type U, b, rfl, .ty U, tyD_ok hb r1 h1, kit_ty h2, q B H _ (.d (.bl _)) (Gr.refl hb) (DV.bl _) h⟩⟩⟩
/-- isinstance(e, (T1, T2)) with a written pair of types -/
theorem we_isi2 {T1 T2 : String} (h : WE K ta ρ R fun a R1 => ∃ d T b1 b2, a = .d d ∧ tyD d = some T ∧ kitB T T1 = some b1 ∧ kitB T T2 = some b2 ∧ Φ (.d (.bl (b1 || b2))) R1) : WE K (tCB (rIsiA K) (tCons ta (tCons (tTup (tCons (tC (.ty T1)) (tCons (tC (.ty T2)) tNil))) tNil))) ρ R Φ := ⟨fun B H σ Q S k => by
  refine h.run B H σ _ S fun B1 H1 x a R1 s1 S1 r1 ⟨d, T, b1, b2, ea, ht, k1, k2, q⟩ => ?_
  subst ea
  refine ⟨by show 2 ≤ sizeLine; decide, fun p np => .inr ?_⟩
  have g := Gr.newH (o := .tup [.ty T1, .ty T2]) S1.bh np
  refine ⟨x, p, [.ty T1, .ty T2], .type T, [.type T1, .type T2], b1 || b2, rfl, upd_same, .cons (.ty T1) (.cons (.ty T2) .nil), tyD_ok g.bh r1 ht, ?_, k B1 _ _ (.d (.bl _)) R1 (s1.trans (g.step _)) (S1.grow g) (DV.bl _) q⟩
  refine kitAny_cons (kit_ty k1) (fun e => ?_) fun e => by rw [e]; rfl
  subst e
  refine kitAny_cons (kit_ty k2) (fun e => ?_) fun e => by rw [e]; rfl
  subst e
  exact kitAny_nil⟩
end

/-! ### a written dict's .get -/
structure KD (K : PySem.W.Frag) (w : World) (d : Addr) : Prop where
  ex : ∃ (es : Array DictEntry) (n : Nat), KDict K w d es n
def tWGet2 (K : PySem.W.Frag) (d : Addr) (ty tx : TE) : TE := fun σ H Q => ty σ H fun y H1 => tx σ H1 fun z H2 => ∃ (x : Str) (r : Option Value), y = .str x ∧ PySem.W.nsIn K d x = some r ∧ ∃ o : Option V, RelO o r ∧ Q (o.getD z) H2
theorem pe_wget2 {X : Cx} {e f : Expr} {apos cpos p : Pos} {ty tx : TE} {n : Str} {d : Addr} (D : KD X.K X.w d) (hg : Gl X n) (hm : X.mg n = some (.ref d)) (he : PE X e ty) (hf : PE X f tx) (m : M2 X (.Name n p) "get" apos e f cpos) (hdb : (n == ("__debug__" : Str)) = false := by decide) : PE X (.Call (.Attribute (.Name n p) "get" apos) [e, f] [] cpos) (tWGet2 X.K d ty tx) := by
  obtain ⟨es, nn, kd⟩ := D.ex
  refine ⟨fun pins s σ H Q I h => ?_⟩
  refine wpAny_Call_method m.base m.few m.line PySem.F.plainAttrs_dict PySem.F.slot_dict_get PySem.F.type_dict_get (ld_glob I hg hm ?_ hdb)
  have hmap := PySem.W.mapOf_K (prog := X.prog) (w := X.w) I.kIn kd.at_ kd.lit
  refine ⟨hmap.typeIs, fun b q => ?_, ?_⟩
  · cases q
    exact ⟨_, I.kIn _ _ kd.at_, rfl⟩
  rw [m.trees]
  refine Calls.callWith_builtin rfl (Calls.evalArgs_plain (Calls.spliced_cons (thn (he.run pins s σ H _ I h) fun iv s2 ⟨y, H2, I2, ry, q2⟩ =>
    Calls.spliced_cons (thn (hf.run pins s2 σ H2 _ I2 q2) fun fv s3 ⟨z, H3, I3, rz, x, r, ey, en, o, ro, q3⟩ => Calls.spliced_nil ?_))))
  subst ey
  obtain ⟨t, rfl⟩ := ry
  have hmap3 := PySem.W.mapOf_K (prog := X.prog) (w := X.w) I3.kIn kd.at_ kd.lit
  refine call_meetsIn PySem.F.slot_dict_get hmap3.typeIs PySem.F.entry_dict_get (PySem.F.args_dict_get_3 _ _ _) (meets_dict_get_default (strKind X.prog X.w) d (PySem.strKind_is X.prog X.w x t) kd.low fv) ⟨_, hmap3, ⟨o.getD z, H3, I3.tok _, ?_, q3⟩⟩
  rw [PySem.W.find_K kd.at_ en]
  cases o with
  | none => rw [RelO.none_of ro]; exact rz
  | some v =>
    obtain ⟨u, eu, ru⟩ := RelO.some_of ro
    rw [eu]
    exact ru
section
variable {K : PySem.W.Frag} {ρ ρ' : AE} {R R' : RS} {ta tb tc te : TE} {Φ : AV → RS → Prop}
theorem we_wget2 {d : Addr} (h : WE K ta ρ R fun a R1 => WE K tb ρ R1 fun b R2 => ∃ (x : Str) (r : Option Value) (o : Option V), a = .d (.str x) ∧ PySem.W.nsIn K d x = some r ∧ RelO o r ∧ Φ (match o with | some v => absC v | none => b) R2) : WE K (tWGet2 K d ta tb) ρ R Φ := ⟨fun B H σ Q S k => by
  refine h.run B H σ _ S fun B1 H1 y a R1 s1 S1 r1 q1 => ?_
  refine q1.run B1 H1 σ _ S1 fun B2 H2 z b R2 s2 S2 r2 ⟨x, r, o, ea, en, ro, q⟩ => ?_
  subst ea
  rw [dv_str r1]
  refine ⟨x, r, rfl, en, o, ro, ?_⟩
  cases o with
  | none => exact k B2 H2 z b R2 (s1.trans s2) S2 r2 q
  | some v => exact k B2 H2 v (absC v) R2 (s1.trans s2) S2 (absC_ok v) q⟩
end
end Ab
set_option Elab.async false
set_option linter.all false
set_option maxRecDepth 100000
set_option maxHeartbeats 1000000
namespace Ab
open PySem PySem.Spec L2
open PyProof.Rows hiding St
/-! ### a list or a tuple that is walked -/
def iSeq (K : PySem.W.Frag) (tl : TE) : TI := fun σ H R => tl σ H fun x H1 => ∃ a, x = .ref a ∧ (((∃ xs, SqL K H1 a xs) ∧ R (Itl K a) H1) ∨ ((∃ xs, SqT K H1 a xs) ∧ R (Itt K a) H1))
theorem pi_seq {X : Cx} {tg l : Expr} {tl : TE} (hl : PE X l tl) : PI X tg l (iSeq X.K tl) := by
  refine ⟨fun pins s σ H R I h => ?_⟩
  refine thn (hl.run pins s σ H _ I h) fun v s1 ⟨x, H1, I1, r1, q1⟩ => ?_
  obtain ⟨a, e, q⟩ := q1
  subst e
  cases r1
  rcases q with ⟨⟨xs, hq⟩, q⟩ | ⟨⟨xs, hq⟩, q⟩
  · obtain ⟨its, rv, p, hz⟩ := I1.list hq
    refine wpAny_pyIter_list p.isList ?_
    refine ⟨s1.heap.objs.size, [s1.heap.objs.size], _, _, H1, rfl, I1.kept (t' := s1.toks) fun b o e => Heap.get?_push_of_some _ e, turn_list a _, ⟨_, Heap.get?_push_size _ rfl, rfl, rfl⟩, fun b hb => ?_, q⟩
    have e : b = s1.heap.objs.size := by simpa using hb
    subst e
    exact I1.fpOk (Nat.le_refl _) (I1.hok.fresh (Nat.le_refl _))
  · obtain ⟨its, rv, p, hz⟩ := I1.tuple hq
    refine wpAny_pyIter_tuple (show s1.heap.IsTuple a its.toArray from p) ?_
    refine ⟨s1.heap.objs.size, [s1.heap.objs.size], _, _, H1, rfl, I1.kept (t' := s1.toks) fun b o e => Heap.get?_push_of_some _ e, turn_tuple a _, ⟨_, Heap.get?_push_size _ rfl, rfl, rfl⟩, fun b hb => ?_, q⟩
    have e : b = s1.heap.objs.size := by simpa using hb
    subst e
    exact I1.fpOk (Nat.le_refl _) (I1.hok.fresh (Nat.le_refl _))
inductive fSeq : AV → List D → Prop
  | l {ds : List D} : fSeq (.d (.lst ds)) ds
  | t {ds : List D} : fSeq (.d (.tup ds)) ds
section
variable {K : PySem.W.Frag} {ρ ρ' : AE} {R R' : RS} {ta tb tc te tl : TE} {tt : TT} {Δ : AEnds}
theorem wi_seq {Φ : List D → RS → Prop} (h : WE K tl ρ R fun a R1 => ∃ ds, fSeq a ds ∧ Φ ds R1) : WI K (iSeq K tl) ρ R Φ := ⟨fun B H σ Rk S k => by
  refine h.run B H σ _ S fun B1 H1 w a R1 s1 S1 r ⟨ds, hs, q⟩ => ?_
  cases hs with
  | l =>
    obtain ⟨p, vs, rfl, h1, h2⟩ := dv_lst r
    refine ⟨p, rfl, .inl ⟨⟨vs, SqL.of (S1.bh _ _ h1)⟩, k B1 H1 _ ds R1 s1 S1 ⟨fun i y B2 H2 e hb hh => ?_, fun B2 H2 hb hh => ⟨vs, SqL.of (hh _ _ (hb _ _ h1)), by rw [h2.length]; exact Nat.le_refl _⟩⟩ q⟩⟩
    obtain ⟨v, hv, hd⟩ := h2.get e
    refine ⟨⟨vs, v, SqL.of (hh _ _ (hb _ _ h1)), hv⟩, fun x H3 q => ?_⟩
    obtain ⟨rfl, q⟩ := q
    have e2 := q vs (SqL.of (hh _ _ (hb _ _ h1)))
    rw [hv] at e2
    cases e2
    exact ⟨B2, Gr.refl hh, hd.mono hb⟩
  | t =>
    obtain ⟨p, vs, rfl, h1, h2⟩ := dv_tup r
    refine ⟨p, rfl, .inr ⟨⟨vs, sqT_mono S1.bh h1⟩, k B1 H1 _ ds R1 s1 S1 ⟨fun i y B2 H2 e hb hh => ?_, fun B2 H2 hb hh => ⟨vs, sqT_mono (hb.trans hh) h1, by rw [h2.length]; exact Nat.le_refl _⟩⟩ q⟩⟩
    obtain ⟨v, hv, hd⟩ := h2.get e
    refine ⟨⟨vs, v, sqT_mono (hb.trans hh) h1, hv⟩, fun x H3 q => ?_⟩
    obtain ⟨rfl, q⟩ := q
    have e2 := q vs (sqT_mono (hb.trans hh) h1)
    rw [hv] at e2
    cases e2
    exact ⟨B2, Gr.refl hh, hd.mono hb⟩⟩

theorem ws_rho {t : TS} (e : ρ = ρ') (h : WS K t ρ' R Δ) : WS K t ρ R Δ := by rw [e]; exact h
inductive fNeg : AV → (AV → Prop) → Prop
  | i {i : Int} {k : AV → Prop} : k (.d (.int (-i))) → fNeg (.d (.int i)) k
theorem au_neg : AU K (rU fun i => .int (-i)) fNeg := ⟨fun B H x a k Q hb r1 hf q => by
  cases hf with
  | i h => rw [dv_int r1]; exact ⟨_, rfl, q B H _ (.d (.int _)) (Gr.refl hb) (DV.int _) h⟩⟩
/-! ### deterministic promises -/
/-- for arguments arg x with pre x: hands back out x, keeps nothing -/
def Det {α : Type} (arg : α → List D) (pre : α → Prop) (out : α → D) : FT := fun as R P => ∃ x, as = (arg x).map .d ∧ R = [] ∧ pre x ∧ P (.d (out x)) []
theorem det_mono {α : Type} {arg : α → List D} {pre : α → Prop} {out : α → D} : Mono (Det arg pre out) := fun as R P P' ⟨x, h1, h2, h3, h4⟩ f => ⟨x, h1, h2, h3, f _ _ h4⟩
theorem we_callD {α : Type} {arg : α → List D} {pre : α → Prop} {out : α → D} {E : XK} {t : TA} {Φ : AV → RS → Prop} (h : WA K t ρ R fun as R1 => ∃ x, as = (arg x).map .d ∧ pre x ∧ Φ (.d (out x)) R1) : WE K (tCall (spG K (Det arg pre out)) [] E t) ρ R Φ :=
  we_call0 det_mono ⟨fun B H σ Q S k => h.run B H σ Q S fun B' H' vs as R' s S' r ⟨x, h1, h2, h3⟩ => k B' H' vs as R' s S' r ⟨x, h1, rfl, h2, h3⟩⟩
/-- a new list of one's own, a new dict, at a name -/
theorem ws_newL {i : Nat} (h : ∀ p, Δ.nx (ρ.set i (some (.v (.ref p)))) ((p, .lst []) :: R)) : WS K (tAsg (tLst tNil) (gName i)) ρ R Δ :=
  ws_set (we_own (wa_nil ⟨[], rfl, by decide, fun p => h p⟩))
theorem ws_newD {i : Nat} (h : ∀ p, Δ.nx (ρ.set i (some (.v (.ref p)))) ((p, .ho (.dK [])) :: R)) : WS K (tAsg tDNewK (gName i)) ρ R Δ :=
  ws_set (we_dnew h)
theorem setR_here {p : Addr} {r r' : RV} {R : RS} : setR ((p, r) :: R) p r' = (p, r') :: setR R p r' := by
  unfold setR
  rw [List.map_cons, if_pos rfl]
theorem setR_nil {p : Addr} {r' : RV} : setR [] p r' = [] := rfl
theorem setR_off {p q : Addr} {r r' : RV} {R : RS} (h : q ≠ p) : setR ((q, r) :: R) p r' = (q, r) :: setR R p r' := by
  unfold setR
  rw [List.map_cons, if_neg h]
theorem ws_nd (t : TS) (h : (dom R).Nodup → WS K t ρ R Δ) : WS K t ρ R Δ := ⟨fun B H σ D S l => (h S.rs.nd).run B H σ D S l⟩
/-- xs.append(e), xs the only resource -/
theorem ws_app1 {i : Nat} {p : Addr} {ds : List D} {t : TE} (h1 : ρ[i]? = some (some (.v (.ref p)))) (hl : ds.length < 10000000) (h : WE K t ρ [(p, .lst ds)] fun b R2 => ∃ d, b = .d d ∧ R2 = [(p, .lst ds)] ∧ Δ.nx ρ [(p, .lst (ds ++ [d]))]) : WS K (tDrop (tBM K "list" rAppend (tVar i) (tCons t tNil))) ρ [(p, .lst ds)] Δ := by
  refine ws_drop (we_append (we_var h1 ⟨p, ds, rfl, List.mem_singleton.mpr rfl, h.mono fun b R2 ⟨d, e1, e2, q⟩ => ⟨d, ds, e1, ?_, hl, ?_⟩⟩))
  · rw [e2]; exact List.mem_singleton.mpr rfl
  · rw [e2, setR_here, setR_nil]; exact q
/-- a written tuple of data -/
inductive fDs : List AV → (List D → Prop) → Prop
  | mk {as : List AV} {ds : List D} {k : List D → Prop} : datas as = some ds → ds.length ≤ 1000000 → k ds → fDs as k
theorem we_tupS {t : TA} {Φ : AV → RS → Prop} (h : WA K t ρ R fun as R1 => fDs as fun ds => Φ (.d (.tup ds)) R1) : WE K (tTup t) ρ R Φ :=
  we_tup ⟨fun B H σ Q S k => h.run B H σ Q S fun B' H' vs as R' s S' r q => k B' H' vs as R' s S' r (by cases q with | mk h1 h2 h3 => exact ⟨_, h1, h2, h3⟩)⟩
theorem we_lstS {t : TA} {Φ : AV → RS → Prop} (h : WA K t ρ R fun as R1 => fDs as fun ds => Φ (.d (.lst ds)) R1) : WE K (tLst t) ρ R Φ :=
  we_lst ⟨fun B H σ Q S k => h.run B H σ Q S fun B' H' vs as R' s S' r q => k B' H' vs as R' s S' r (by cases q with | mk h1 h2 h3 => exact ⟨_, h1, h2, h3⟩)⟩
theorem br_t {b : Bool} {A C : Prop} (h : b = true) (x : A) : (b = true → A) ∧ (b = false → C) := ⟨fun _ => x, fun c => by rw [h] at c; cases c⟩
theorem br_f {b : Bool} {A C : Prop} (h : b = false) (x : C) : (b = true → A) ∧ (b = false → C) := ⟨fun c => by rw [h] at c; (cases c), fun _ => x⟩

/-! ### what is often said -/
/-- a comprehension whose turns are pure: each item gives f of it, where it is kept -/
theorem we_lcM {α : Type} {wi : TI} {g : TG} {vs : List Nat} {Φ : AV → RS → Prop} (xs : List α) (enc : α → D) (f : α → D) (hl : xs.length ≤ 10000000)
    (h : WI K wi ρ R fun ys R1 => ys = xs.map enc ∧ (∀ x ∈ xs, ∃ sl ρ2, GS K g sl (.d (enc x)) (awipe ρ vs) ρ2 ∧ (∀ j ∈ sl, j ∈ vs) ∧ WT K tt ρ2 R1 fun b R2 => b = true ∧ WE K te ρ2 R2 fun a R3 => a = .d (f x) ∧ R3 = R1) ∧ Φ (.d (.lst (xs.map f))) R1) : WE K (tLc wi g tt te vs) ρ R Φ := by
  refine we_lc ⟨fun B H σ Rk S k => h.run B H σ Rk S fun B' H' J ys R1 s S' ok ⟨e, turn, q⟩ => k B' H' J ys R1 s S' ok ?_⟩
  subst e
  refine ⟨fun i acc R' => acc = (xs.take i).map f ∧ R' = R1, ⟨rfl, rfl⟩, fun i y acc R' hy ⟨ea, eR⟩ => ?_, fun acc R' ⟨ea, eR⟩ => ?_⟩
  · subst ea
    subst eR
    rw [List.getElem?_map] at hy
    have hi : i < xs.length := by
      by_cases q : i < xs.length
      · exact q
      · rw [List.getElem?_eq_none (by omega)] at hy; cases hy
    rw [List.getElem?_eq_getElem hi] at hy
    cases hy
    obtain ⟨sl, ρ2, hg, hsl, hw⟩ := turn xs[i] (List.getElem_mem hi)
    refine ⟨sl, ρ2, hg, hsl, hw.mono fun b R2 ⟨eb, hw2⟩ => ⟨fun _ => hw2.mono fun a R3 ⟨ea, eR⟩ => ⟨f xs[i], ea, ?_, ?_, eR⟩, fun e => by rw [eb] at e; cases e⟩⟩
    · rw [List.length_map, List.length_take]; omega
    · rw [List.take_add_one, List.getElem?_eq_getElem hi, Option.toList_some, List.map_append]
      rfl
  · subst ea
    subst eR
    rw [List.length_map, List.take_length]
    exact q
/-- .. with a test -/
theorem we_lcF {α : Type} {wi : TI} {g : TG} {vs : List Nat} {Φ : AV → RS → Prop} (xs : List α) (enc : α → D) (p : α → Bool) (f : α → D) (hl : xs.length ≤ 10000000)
    (h : WI K wi ρ R fun ys R1 => ys = xs.map enc ∧ (∀ x ∈ xs, ∃ sl ρ2, GS K g sl (.d (enc x)) (awipe ρ vs) ρ2 ∧ (∀ j ∈ sl, j ∈ vs) ∧ WT K tt ρ2 R1 fun b R2 => b = p x ∧ R2 = R1 ∧ (p x = true → WE K te ρ2 R2 fun a R3 => a = .d (f x) ∧ R3 = R1)) ∧ Φ (.d (.lst ((xs.filter p).map f))) R1) : WE K (tLc wi g tt te vs) ρ R Φ := by
  refine we_lc ⟨fun B H σ Rk S k => h.run B H σ Rk S fun B' H' J ys R1 s S' ok ⟨e, turn, q⟩ => k B' H' J ys R1 s S' ok ?_⟩
  subst e
  refine ⟨fun i acc R' => acc = ((xs.take i).filter p).map f ∧ R' = R1, ⟨rfl, rfl⟩, fun i y acc R' hy ⟨ea, eR⟩ => ?_, fun acc R' ⟨ea, eR⟩ => ?_⟩
  · subst ea
    subst eR
    rw [List.getElem?_map] at hy
    have hi : i < xs.length := by
      by_cases q : i < xs.length
      · exact q
      · rw [List.getElem?_eq_none (by omega)] at hy; cases hy
    rw [List.getElem?_eq_getElem hi] at hy
    cases hy
    obtain ⟨sl, ρ2, hg, hsl, hw⟩ := turn xs[i] (List.getElem_mem hi)
    have et : xs.take (i + 1) = xs.take i ++ [xs[i]] := by rw [List.take_add_one, List.getElem?_eq_getElem hi, Option.toList_some]
    refine ⟨sl, ρ2, hg, hsl, hw.mono fun b R2 ⟨eb, eR2, hw2⟩ => ⟨fun ht => (hw2 (eb.symm.trans ht)).mono fun a R3 ⟨ea, eR⟩ => ⟨f xs[i], ea, ?_, ?_, eR⟩, fun hf => ⟨?_, eR2⟩⟩⟩
    · rw [List.length_map]
      have := List.length_filter_le p (xs.take i)
      rw [List.length_take] at this
      omega
    · rw [et, List.filter_append, List.map_append, List.filter_cons_of_pos (eb.symm.trans ht)]
      rfl
    · rw [et, List.filter_append, List.map_append, List.filter_cons_of_neg (by rw [eb.symm.trans hf]; exact Bool.false_ne_true)]
      simp
  · subst ea
    subst eR
    rw [List.length_map, List.take_length]
    exact q
end
section
variable {P : Program} {w : World} {K : PySem.W.Frag} {mg : Str → Option Value} {base : Heap}
theorem okDet {α : Type} {arg : α → List D} {pre : α → Prop} {out : α → D} {x qual : Str} {st : Stmt} {f : Addr} {fd : FuncData} {N ps : List Str} {k : Nat} (U : Fun K x qual st f fd) (S : FnScope N ps (defScope st)) (len : ∀ x, (arg x).length = ps.length)
    (hbody : ∀ (cdv : Value) (A : Around) (outer : List Env) (s : Shared) (H : Hp) (E : XK) (x : α), Room k (A.deeper (envOfC qual (defScope st) s.heap.objs.size f cdv)) → pre x →
      ∃ t, PSs (cxOf CX0 P w K mg base N qual (defScope st) f cdv A outer s H E).nox (defBody st) t ∧ WS K t (astart N ((arg x).map .d)) [] { nx := fun _ R' => D.non = out x ∧ R' = [], rt := fun a R' => a = .d (out x) ∧ R' = [] }) : FnOk P w K mg base CX0 (k + 1) f fd ps (spG K (Det arg pre out)) := by
  refine okG U S (fun as R P ⟨x, h1, _⟩ => by rw [h1, List.length_map]; exact len x) fun cdv A outer s H E as R P0 hr ⟨x, h1, h2, h3, h4⟩ => ?_
  subst h1
  subst h2
  obtain ⟨t, ht, hw⟩ := hbody cdv A outer s H E x hr h3
  exact ⟨t, ht, hw.mono (fun ρ R ⟨e1, e2⟩ => by subst e2; show P0 (.d .non) []; rw [e1]; exact h4) (fun a R ⟨e1, e2⟩ => by subst e1; subst e2; exact h4) (fun _ _ h => h) (fun _ _ h => h)⟩
end
theorem cx_K {CX : CXT} {P : Program} {w : World} {K : PySem.W.Frag} {mg : Str → Option Value} {base : Heap} {N : List Str} {qual : Str} {scope : Scope} {f : Addr} {cd : Value} {A : Around} {outer : List Env} {s : Shared} {H : Hp} {E : XK} : (cxOf CX P w K mg base N qual scope f cd A outer s H E).K = K := rfl
theorem cx_w {CX : CXT} {P : Program} {w : World} {K : PySem.W.Frag} {mg : Str → Option Value} {base : Heap} {N : List Str} {qual : Str} {scope : Scope} {f : Addr} {cd : Value} {A : Around} {outer : List Env} {s : Shared} {H : Hp} {E : XK} : (cxOf CX P w K mg base N qual scope f cd A outer s H E).w = w := rfl
end Ab
set_option Elab.async false
set_option linter.all false
set_option maxRecDepth 100000
set_option maxHeartbeats 1000000
namespace Ab
open PySem PySem.Spec L2
open PyProof.Rows hiding St
section
variable {K : PySem.W.Frag} {ρ ρ' : AE} {R R' : RS} {ta tb tc te tl : TE} {tt : TT} {Δ : AEnds}
theorem le_wipe1 : ∀ (ρ : AE) (i : Nat), Le (ρ.set i none) ρ
  | [], i => by rw [List.set_nil]; exact Le.refl _
  | a :: ρ, 0 => by
    rw [List.set_cons_zero]
    cases a with
    | none => exact Le.refl _
    | some a => exact Le.drop (Le.refl _)
  | a :: ρ, i + 1 => by
    rw [List.set_cons_succ]
    exact Le.keep (le_wipe1 ρ i)
theorem Le.tr {a b c : AE} (h : Le a b) (g : Le b c) : Le a c := ⟨h.len.trans g.len, fun i x e => g.at_ i x (h.at_ i x e)⟩
theorem le_awipe (ρ : AE) : ∀ vs : List Nat, Le (awipe ρ vs) ρ
  | [] => Le.refl _
  | v :: vs => (le_wipe1 _ v).tr (le_awipe ρ vs)
/-- a loop that may forget first -/
theorem ws_forL {wi : TI} {g : TG} {body : TS} (h : WI K wi ρ R fun ys R1 => ∃ Pv : Nat → AE → RS → Prop, (∃ ρ0, Le ρ0 ρ ∧ Pv 0 ρ0 R1) ∧
      (∀ i y ρ' R', ys[i]? = some y → Pv i ρ' R' → ∃ sl ρ2, GS K g sl (.d y) ρ' ρ2 ∧ WS K body ρ2 R' { nx := fun ρ3 R3 => ∃ ρ4, Le ρ4 ρ3 ∧ Pv (i + 1) ρ4 R3, rt := Δ.rt, bk := Δ.nx, ct := fun ρ3 R3 => ∃ ρ4, Le ρ4 ρ3 ∧ Pv (i + 1) ρ4 R3 }) ∧
      (∀ ρ' R', Pv ys.length ρ' R' → Δ.nx ρ' R')) : WS K (tFor wi g body) ρ R Δ := ⟨fun B H σ D S l => by
  refine h.run B H σ _ S fun B1 H1 J ys R1 s1 S1 ok ⟨Pv, ⟨ρ0, l0, p0⟩, turn, fin⟩ => ?_
  refine ⟨fun i m σ' H' => m = ys.length - i ∧ i ≤ ys.length ∧ ∃ B' ρ' R', Step R1 B1 H1 R' B' H' ∧ SR K B' H' σ' ρ' R' ∧ Pv i ρ' R', ⟨ys.length, by simp, Nat.zero_le _, B1, ρ0, R1, Step.refl _ _ _, S1.weak l0, p0⟩, ?_⟩
  rintro i m σ' H' ⟨rfl, hi, B', ρ', R', s', S', p⟩
  by_cases hlt : i < ys.length
  · obtain ⟨hgo, hy⟩ := ok.go i ys[i] B' H' (List.getElem?_eq_getElem hlt) s'.bb S'.bh
    refine .inr ⟨hgo, fun σ3 H3 => ∃ B3 ρ3 R3, Step R1 B1 H1 R3 B3 H3 ∧ SR K B3 H3 σ3 ρ3 R3 ∧ Pv (i + 1) ρ3 R3, fun σ3 H3 ⟨B3, ρ3, R3, a, b, c⟩ => ⟨ys.length - (i + 1), by omega, rfl, hlt, B3, ρ3, R3, a, b, c⟩, fun x H2 y => ?_⟩
    obtain ⟨B2, g2, dv⟩ := hy x H2 y
    have S2 := S'.grow g2
    have s2 := s'.trans (g2.step R')
    obtain ⟨sl, ρ2, hg, hw⟩ := turn i ys[i] ρ' R' (List.getElem?_eq_getElem hlt) p
    refine hg.run B2 H2 σ' x _ S2.bh S2.en dv fun σ2 e2 _ => ?_
    refine hw.run B2 H2 σ2 _ ⟨S2.bh, e2, S2.rs⟩ ⟨fun B3 H3 σ3 ρ3 R3 s3 S3 ⟨ρ4, le, q⟩ => ⟨B3, ρ4, R3, s2.trans s3, S3.weak le, q⟩, ?_, ?_, fun B3 H3 σ3 ρ3 R3 s3 S3 ⟨ρ4, le, q⟩ => ⟨B3, ρ4, R3, s2.trans s3, S3.weak le, q⟩⟩
    · exact fun B3 H3 v a R3 s3 hb hr r q => l.rt B3 H3 v a R3 (s1.trans (s2.trans s3)) hb hr r q
    · exact fun B3 H3 σ3 ρ3 R3 s3 S3 q => l.nx B3 H3 σ3 ρ3 R3 (s1.trans (s2.trans s3)) S3 q
  · have e : i = ys.length := by omega
    subst e
    exact .inl ⟨ok.stop B' H' s'.bb S'.bh, l.nx B' H' σ' ρ' R' (s1.trans s') S' (fin ρ' R' p)⟩⟩
/-- a fold over typed items; vs: the slots that are forgotten at each turn's end -/
theorem ws_forB {α β : Type} {wi : TI} {g : TG} {body : TS} (xs : List α) (enc : α → D) (step : β → α → β) (b0 : β) (vs : List Nat) (frm : β → AE) (encB : β → RS)
    (h : WI K wi ρ R fun ys R1 => ys = xs.map enc ∧ R1 = encB b0)
    (h0 : awipe ρ vs = frm b0)
    (turn : ∀ (pre : List α) (x : α) (post : List α) (b : β), xs = pre ++ x :: post → b = pre.foldl step b0 → ∃ sl ρ2, GS K g sl (.d (enc x)) (frm b) ρ2 ∧ WS K body ρ2 (encB b) { nx := fun ρ3 R3 => awipe ρ3 vs = frm (step b x) ∧ R3 = encB (step b x), rt := Δ.rt, bk := Δ.nx, ct := fun ρ3 R3 => awipe ρ3 vs = frm (step b x) ∧ R3 = encB (step b x) })
    (fin : Δ.nx (frm (xs.foldl step b0)) (encB (xs.foldl step b0))) : WS K (tFor wi g body) ρ R Δ := by
  refine ws_forL ⟨fun B H σ Rk S k => h.run B H σ Rk S fun B' H' J ys R' s S' ok ⟨e, q⟩ => k B' H' J ys R' s S' ok ?_⟩
  subst e
  refine ⟨fun i ρ' R' => ρ' = frm ((xs.take i).foldl step b0) ∧ R' = encB ((xs.take i).foldl step b0), ⟨_, h0 ▸ le_awipe ρ vs, rfl, q⟩, fun i y ρ' R' hy ⟨e1, e2⟩ => ?_, fun ρ' R' ⟨e1, e2⟩ => ?_⟩
  · subst e1
    subst e2
    rw [List.getElem?_map] at hy
    have hi : i < xs.length := by
      by_cases q : i < xs.length
      · exact q
      · rw [List.getElem?_eq_none (by omega)] at hy; cases hy
    rw [List.getElem?_eq_getElem hi] at hy
    cases hy
    have e : xs = xs.take i ++ xs[i] :: xs.drop (i + 1) := by
      rw [← List.drop_eq_getElem_cons hi, List.take_append_drop]
    obtain ⟨sl, ρ2, hg, hw⟩ := turn (xs.take i) xs[i] (xs.drop (i + 1)) _ e rfl
    have e2 : (xs.take (i + 1)).foldl step b0 = step ((xs.take i).foldl step b0) xs[i] := by
      rw [List.take_add_one, List.getElem?_eq_getElem hi, Option.toList_some, List.foldl_append]
      rfl
    refine ⟨sl, ρ2, hg, ?_⟩
    rw [← e2] at hw
    exact hw.mono (fun ρ3 R3 ⟨q1, q2⟩ => ⟨_, q1 ▸ le_awipe ρ3 vs, rfl, q2⟩) (fun _ _ h => h) (fun _ _ h => h) (fun ρ3 R3 ⟨q1, q2⟩ => ⟨_, q1 ▸ le_awipe ρ3 vs, rfl, q2⟩)
  · subst e1
    subst e2
    rw [List.length_map, List.take_length]
    exact fin
theorem foldl_app {α γ : Type} (g : α → List γ) (b0 : List γ) (xs : List α) : xs.foldl (fun b x => b ++ g x) b0 = b0 ++ xs.flatMap g := by
  induction xs generalizing b0 with
  | nil => simp
  | cons x xs ih => rw [List.foldl_cons, ih, List.flatMap_cons, List.append_assoc]
/-- each turn adds to the one list -/
theorem ws_forP {α γ : Type} {wi : TI} {g : TG} {body : TS} {p : Addr} {Rf : RS} (xs : List α) (enc : α → D) (g1 : α → List γ) (b0 : List γ) (e : γ → D) (vs : List Nat)
    (h : WI K wi ρ R fun ys R1 => ys = xs.map enc ∧ R1 = (p, .lst (b0.map e)) :: Rf)
    (turn : ∀ (x : α) (b : List γ), x ∈ xs → b.length + (g1 x).length ≤ b0.length + (xs.flatMap g1).length → ∃ sl ρ2, GS K g sl (.d (enc x)) (awipe ρ vs) ρ2 ∧ WS K body ρ2 ((p, .lst (b.map e)) :: Rf) { nx := fun ρ3 R3 => awipe ρ3 vs = awipe ρ vs ∧ R3 = (p, .lst ((b ++ g1 x).map e)) :: Rf, rt := Δ.rt, bk := Δ.nx, ct := fun ρ3 R3 => awipe ρ3 vs = awipe ρ vs ∧ R3 = (p, .lst ((b ++ g1 x).map e)) :: Rf })
    (fin : Δ.nx (awipe ρ vs) ((p, .lst ((b0 ++ xs.flatMap g1).map e)) :: Rf)) : WS K (tFor wi g body) ρ R Δ := by
  refine ws_forB xs enc (fun b x => b ++ g1 x) b0 vs (fun _ => awipe ρ vs) (fun b => (p, .lst (b.map e)) :: Rf) h rfl (fun pre x post b e1 e2 => turn x b (by rw [e1]; simp) ?_) ?_
  · rw [e2, e1, foldl_app, List.flatMap_append, List.flatMap_cons]
    simp only [List.length_append]
    omega
  · show Δ.nx (awipe ρ vs) ((p, .lst ((xs.foldl (fun b x => b ++ g1 x) b0).map e)) :: Rf)
    rw [foldl_app]
    exact fin
theorem we_nd {te : TE} {Φ : AV → RS → Prop} (h : (dom R).Nodup → WE K te ρ R Φ) : WE K te ρ R Φ := ⟨fun B H σ Q S l => (h S.rs.nd).run B H σ Q S l⟩
theorem setR_no {p : Addr} {r : RV} : ∀ {R : RS}, p ∉ dom R → setR R p r = R
  | [], _ => rfl
  | (q, x) :: R, h => by
    rw [setR_off (fun e => h (by rw [← e]; exact List.mem_cons_self)), setR_no fun m => h (List.mem_cons_of_mem _ m)]
/-- the first list is handed back, or used as data from here on -/
theorem ws_retL {i : Nat} {p : Addr} {ds : List D} {Rf : RS} (h1 : ρ[i]? = some (some (.v (.ref p)))) (h : Δ.rt (.d (.lst ds)) Rf) : WS K (tRet (tVar i)) ρ ((p, .lst ds) :: Rf) Δ := by
  refine ws_freeze h1 (List.Perm.refl _) (ws_ret (we_var ?_ h))
  have hi : i < ρ.length := by
    by_cases q : i < ρ.length
    · exact q
    · rw [List.getElem?_eq_none (by omega)] at h1; cases h1
  rw [List.getElem?_set_self hi]
theorem ws_frz {t : TS} {i : Nat} {p : Addr} {ds : List D} {Rf : RS} (h1 : ρ[i]? = some (some (.v (.ref p)))) (h : WS K t (ρ.set i (some (.d (.lst ds)))) Rf Δ) : WS K t ρ ((p, .lst ds) :: Rf) Δ := ws_freeze h1 (List.Perm.refl _) h
/-- xs.append(e), xs the first resource -/
theorem we_app1 {i : Nat} {p : Addr} {ds : List D} {Rf : RS} {t : TE} {Φ : AV → RS → Prop} (h1 : ρ[i]? = some (some (.v (.ref p)))) (hl : ds.length < 10000000) (h : WE K t ρ ((p, .lst ds) :: Rf) fun b R2 => ∃ d, b = .d d ∧ R2 = (p, .lst ds) :: Rf ∧ Φ (.d .non) ((p, .lst (ds ++ [d])) :: Rf)) : WE K (tBM K "list" rAppend (tVar i) (tCons t tNil)) ρ ((p, .lst ds) :: Rf) Φ := by
  refine we_nd fun nd => ?_
  have hp : p ∉ dom Rf := (List.nodup_cons.mp nd).1
  refine we_append (we_var h1 ⟨p, ds, rfl, List.mem_cons_self, h.mono fun b R2 ⟨d, e1, e2, q⟩ => ⟨d, ds, e1, ?_, hl, ?_⟩⟩)
  · rw [e2]; exact List.mem_cons_self
  · rw [e2, setR_here, setR_no hp]; exact q
/-- own list == [], own list [i] -/
theorem we_eqNil1 {i : Nat} {p : Addr} {ds : List D} {Rf : RS} {Φ : AV → RS → Prop} (ts : List (List Int)) (h1 : ρ[i]? = some (some (.v (.ref p)))) (e : ds = ts.map fun (ns : List Int) => D.tup (ns.map .int)) (q : Φ (.d (.bl (decide (ts = [])))) ((p, .lst ds) :: Rf)) : WE K (tOp (rEqD K) (tVar i) (tLst tNil)) ρ ((p, .lst ds) :: Rf) Φ :=
  we_eqNilR (we_var h1 (we_lst (wa_nil ⟨[], rfl, by decide, p, ts, rfl, rfl, by rw [e]; exact List.mem_cons_self, q⟩)))
theorem we_ix1 {i : Nat} {p : Addr} {ds : List D} {Rf : RS} {Φ : AV → RS → Prop} (h1 : ρ[i]? = some (some (.v (.ref p)))) (q : WE K tb ρ ((p, .lst ds) :: Rf) fun b R2 => ∃ j, b = .d (.int j) ∧ R2 = (p, .lst ds) :: Rf ∧ ∃ d, atI ds j = some d ∧ Φ (.d d) R2) : WE K (tOp (rIx K) (tVar i) tb) ρ ((p, .lst ds) :: Rf) Φ :=
  we_ixR (we_var h1 (q.mono fun b R2 ⟨j, e1, e2, d, e3, q⟩ => ⟨p, j, ds, d, rfl, e1, by rw [e2]; exact List.mem_cons_self, e3, q⟩))
/-- resources may be forgotten -/
theorem dom_sub {R R' : RS} (h : R'.Sublist R) : (dom R').Sublist (dom R) := h.map _
theorem SR.less {B H : Hp} {σ : St} (S : SR K B H σ ρ R) (h : R'.Sublist R) : SR K B H σ ρ R' := ⟨S.bh, S.en, ⟨fun x hx => S.rs.at_ x (h.subset hx), S.rs.nd.sublist (dom_sub h)⟩⟩
theorem Step.less {B H B' H' : Hp} {R1 : RS} (s : Step R1 B H R B' H') (h : R'.Sublist R) : Step R1 B H R' B' H' := ⟨s.bb, s.hh, s.fr, s.al, fun a m => s.dm a ((dom_sub h).subset m)⟩
theorem WE.sub {Φ Ψ : AV → RS → Prop} (h : WE K te ρ R Ψ) (q : ∀ a R', Ψ a R' → ∃ R'' : RS, R''.Sublist R' ∧ Φ a R'') : WE K te ρ R Φ := ⟨fun B H σ Q S k => h.run B H σ Q S fun B' H' v a R' s S' r z => by
  obtain ⟨R'', e, z⟩ := q a R' z
  exact k B' H' v a R'' (s.less e) (S'.less e) r z⟩
theorem WT.sub {Φ Ψ : Bool → RS → Prop} (h : WT K tt ρ R Ψ) (q : ∀ a R', Ψ a R' → ∃ R'' : RS, R''.Sublist R' ∧ Φ a R'') : WT K tt ρ R Φ := ⟨fun B H σ Q S k => h.run B H σ Q S fun B' H' a R' s S' z => by
  obtain ⟨R'', e, z⟩ := q a R' z
  exact k B' H' a R'' (s.less e) (S'.less e) z⟩
theorem we_cI {i : Int} {Φ : AV → RS → Prop} (h : Φ (.d (.int i)) R) : WE K (tC (.int i)) ρ R Φ := we_c h
theorem we_cS {i : Str} {Φ : AV → RS → Prop} (h : Φ (.d (.str i)) R) : WE K (tC (.str i)) ρ R Φ := we_c h
theorem we_cB {i : Bool} {Φ : AV → RS → Prop} (h : Φ (.d (.bl i)) R) : WE K (tC (.bl i)) ρ R Φ := we_c h
theorem we_cN {Φ : AV → RS → Prop} (h : Φ (.d .non) R) : WE K (tC .non) ρ R Φ := we_c h
theorem ws_setE {te : TE} {i : Nat} (A : AV) (h : WE K te ρ R fun a R1 => a = A ∧ R1 = R) (q : Δ.nx (ρ.set i (some A)) R) : WS K (tAsg te (gName i)) ρ R Δ :=
  ws_set (h.mono fun a R1 ⟨e1, e2⟩ => by subst e1; subst e2; exact q)
theorem ws_cut {t1 t2 : TS} (ρ1 : AE) (R1 : RS) (h : WS K t1 ρ R { nx := fun ρ' R' => ρ' = ρ1 ∧ R' = R1, rt := Δ.rt, bk := Δ.bk, ct := Δ.ct }) (q : WS K t2 ρ1 R1 Δ) : WS K (tSeq t1 t2) ρ R Δ :=
  ws_seq (h.mono (fun _ _ ⟨e1, e2⟩ => by subst e1; subst e2; exact q) (fun _ _ h => h) (fun _ _ h => h) (fun _ _ h => h))
theorem we_cut {te : TE} {Φ : AV → RS → Prop} (A : AV) (h : WE K te ρ R fun a R1 => a = A ∧ R1 = R) (q : Φ A R) : WE K te ρ R Φ := h.mono fun a R1 ⟨e1, e2⟩ => by subst e1; subst e2; exact q
theorem wt_cut {te : TT} {Φ : Bool → RS → Prop} (A : Bool) (h : WT K te ρ R fun a R1 => a = A ∧ R1 = R) (q : Φ A R) : WT K te ρ R Φ := h.mono fun a R1 ⟨e1, e2⟩ => by subst e1; subst e2; exact q
end
end Ab
set_option Elab.async false
set_option linter.all false
set_option maxRecDepth 100000
set_option maxHeartbeats 1000000
namespace Ab
open PySem PySem.Spec L2
open PyProof.Rows hiding St
/-! the same rules with K named: within a comprehension -/
section
variable {X : Cx} {K : PySem.W.Frag}
theorem op_plusK (h : X.K = K) : OpR X (binaryOp .Add) (rPlus K) := h ▸ op_plus
theorem op_in_seqK (h : X.K = K) : OpR X (compareOp .In) (rIn K false) := h ▸ op_in_seq
theorem op_eqDK (h : X.K = K) (hu : X.A.units + 64 < cLine) : OpR X (compareOp .Eq) (rEqD K) := h ▸ op_eqD hu
theorem op_neDK (h : X.K = K) (hu : X.A.units + 64 < cLine) : OpR X (compareOp .NotEq) (rNeD K) := h ▸ op_neD hu
theorem ix_seqK (h : X.K = K) : IxR X (rIx K) := h ▸ ix_seq
theorem sl_anyK (h : X.K = K) : SlR X (rSlU K) := h ▸ sl_any
theorem cl_lenK (h : X.K = K) : CallR X (.builtin "len") (rLenA K) := h ▸ cl_len
theorem pg_tupK {es : List Expr} {k : Nat} {t : TGs} {n : Nat} {pos : Pos} (hK : X.K = K) (hc : X.calm = true) (h : PGs X es t) (hn : (assignEach es X.env).length = n := by rfl) (hst : (assignEach es X.env).findIdx? (·.1) = none := by rfl) : PG X (.Tuple es k pos) (gTup K n t) := hK ▸ pg_tup hc h hn hst
end
end Ab
set_option Elab.async false
set_option linter.all false
set_option maxRecDepth 100000
set_option maxHeartbeats 1000000
namespace Ab
open PySem PySem.Spec L2
open PyProof.Rows hiding St
section
variable {P : Program} {w : World} {K : PySem.W.Frag} {mg : Str → Option Value} {base : Heap} {ρ ρ' : AE} {R R' : RS} {ta tb tc te tl : TE} {tt : TT} {Δ : AEnds} {t1 : TS}
/-- a written thing that stands for good -/
theorem we_cD {v : V} {d : D} {Φ : AV → RS → Prop} (h : ∀ B, DV K B v d) (q : Φ (.d d) R) : WE K (tC v) ρ R Φ := ⟨fun B H σ Q S k => k B H v (.d d) R (Step.refl _ _ _) S (h B) q⟩
theorem ws_lessR (h : R'.Sublist R) (hw : WS K t1 ρ R' Δ) : WS K t1 ρ R Δ := ⟨fun B H σ D S l =>
  hw.run B H σ D (S.less h) (l.step ⟨Same.refl _, fun _ _ e _ => e, fun _ _ e _ => e, fun _ e => e, fun _ m => .inl ((dom_sub h).subset m)⟩)⟩
theorem ws_resR (e : R = R') (h : WS K t1 ρ R' Δ) : WS K t1 ρ R Δ := by rw [e]; exact h
/-- an instance of data fields becomes data -/
theorem dfs_of {B : Hp} : ∀ {gs : List (Str × V)} {fs : List (Str × D)}, FsR K B gs (fs.map fun p => (p.1, AV.d p.2)) → DFs K B gs fs
  | _, [], .nil => .nil
  | (k, v) :: gs, (k', d) :: fs, .cons r t => by
    obtain ⟨e, rv⟩ := r
    cases e
    exact .cons rv (dfs_of t)
theorem we_frzO {Φ : AV → RS → Prop} (h : WE K te ρ R fun a R1 => ∃ p C dx fs R2, a = .v (.ref p) ∧ R1 = (p, .ins C dx (fs.map fun p => (p.1, AV.d p.2))) :: R2 ∧ Φ (.d (.obj C fs)) R2) : WE K te ρ R Φ := ⟨fun B0 H0 σ Q S0 k0 => h.run B0 H0 σ Q S0 fun B H v a R1 s S r ⟨p, C, dx, fs, R2, ea, eR, q⟩ => by
  subst ea
  subst eR
  obtain ⟨hB, gs, hH, hv⟩ := S.rs.at_ _ List.mem_cons_self
  have hH : H p = some (.ins C dx gs) := hH
  have hB : B p = none := hB
  have hb : Same B (upd B p (.ins C dx gs)) := same_updN hB
  have nd : (p :: dom R2).Nodup := S.rs.nd
  have S1 : SR K (upd B p (.ins C dx gs)) H σ ρ R2 := ⟨fun b u e => by
    by_cases q : b = p
    · subst q; rw [upd_same] at e; rw [hH]; exact e
    · rw [upd_ne q] at e; exact S.bh b u e, S.en.mono hb, ⟨fun x hx => by
    obtain ⟨q1, q2⟩ := S.rs.at_ x (List.mem_cons_of_mem _ hx)
    have hne : x.1 ≠ p := fun e => (List.nodup_cons.mp nd).1 (e ▸ List.mem_map.mpr ⟨x, hx, rfl⟩)
    exact ⟨by rw [upd_ne hne]; exact q1, q2.mono hb⟩, (List.nodup_cons.mp nd).2⟩⟩
  have ev : v = .ref p := r
  subst ev
  refine k0 _ H (.ref p) (.d (.obj C fs)) R2 (s.trans ⟨hb, fun _ _ h _ => h, fun a _ e n => ?_, fun _ h => h, fun a m => .inl (List.mem_cons_of_mem _ m)⟩) S1 (DV.obj upd_same (dfs_of (Paired.imp (fun _ _ r => ⟨r.1, r.2.mono hb⟩) hv))) q
  have hne : a ≠ p := fun e => n (e ▸ List.mem_cons_self)
  rw [upd_ne hne]; exact e⟩
/-! the first resource is an instance -/
theorem insA_here {p C dx : Addr} {fs : List (Str × AV)} {Rf : RS} : insA ((p, .ins C dx fs) :: Rf) (.v (.ref p)) = some (C, fs) := by
  unfold insA
  simp
theorem we_fld1 {i : Nat} {p C dx : Addr} {fs : List (Str × AV)} {f : Str} {b : AV} {Rf : RS} {Φ : AV → RS → Prop} (h1 : ρ[i]? = some (some (.v (.ref p)))) (hc : Cls K C) (hn : NoAttr K C f) (hl : fs.lookup f = some b) (q : Φ b ((p, .ins C dx fs) :: Rf)) : WE K (tFld K (tVar i) f) ρ ((p, .ins C dx fs) :: Rf) Φ :=
  we_fld (we_var h1 ⟨C, fs, b, insA_here, hc, hn, hl, q⟩)
theorem ws_fld1 {i : Nat} {p C dx : Addr} {fs : List (Str × AV)} {f : Str} {Rf : RS} {tv : TE} (h1 : ρ[i]? = some (some (.v (.ref p)))) (hc : Cls K C) (hn : NoAttr K C f) (hl : fs.length < 1000) (h : WE K tv ρ ((p, .ins C dx fs) :: Rf) fun b R1 => R1 = (p, .ins C dx fs) :: Rf ∧ Δ.nx ρ ((p, .ins C dx (aput f b fs)) :: Rf)) : WS K (sFld K (tVar i) tv f) ρ ((p, .ins C dx fs) :: Rf) Δ := by
  refine ws_nd _ fun nd => ?_
  have hp : p ∉ dom Rf := (List.nodup_cons.mp nd).1
  refine ws_fld (h.mono fun b R1 ⟨e, q⟩ => we_var h1 ⟨p, C, dx, fs, rfl, by rw [e]; exact List.mem_cons_self, hc, hn, hl, ?_⟩)
  rw [e, setR_here, setR_no hp]
  exact q
/-- methods of an instance: data in, data out; the fields change -/
def Rsc {α : Type} (C : Addr) (arg : α → List D) (fin : α → List (Str × AV)) (pre : α → Prop) (post : α → D → List (Str × AV) → Prop) : FT := fun as R P => ∃ (x : α) (p dx : Addr), as = .v (.ref p) :: (arg x).map .d ∧ R = [(p, .ins C dx (fin x))] ∧ pre x ∧ ∀ d fs', post x d fs' → P (.d d) [(p, .ins C dx fs')]
theorem rsc_mono {α : Type} {C : Addr} {arg : α → List D} {fin : α → List (Str × AV)} {pre : α → Prop} {post : α → D → List (Str × AV) → Prop} : Mono (Rsc C arg fin pre post) := fun as R P P' ⟨x, p, dx, h1, h2, h3, h4⟩ f => ⟨x, p, dx, h1, h2, h3, fun d fs' q => f _ _ (h4 d fs' q)⟩
theorem we_meth1 {α : Type} {C : Addr} {arg : α → List D} {fin : α → List (Str × AV)} {pre : α → Prop} {post : α → D → List (Str × AV) → Prop} {E : XK} {t : TA} {m : Str} {i : Nat} {p dx : Addr} {fs : List (Str × AV)} {Rf : RS} {Φ : AV → RS → Prop} (h1 : ρ[i]? = some (some (.v (.ref p)))) (hl : fs.lookup m = none) (h : WA K t ρ ((p, .ins C dx fs) :: Rf) fun as R1 => R1 = (p, .ins C dx fs) :: Rf ∧ ∃ x, as = (arg x).map .d ∧ fin x = fs ∧ pre x ∧ ∀ d fs', post x d fs' → Φ (.d d) ((p, .ins C dx fs') :: Rf)) : WE K (tMeth C m (spG K (Rsc C arg fin pre post)) [] E (tVar i) t) ρ ((p, .ins C dx fs) :: Rf) Φ := by
  refine we_meth rsc_mono (we_var h1 ⟨fs, insA_here, hl, ?_⟩)
  exact ⟨fun B H σ Q S k => h.run B H σ Q S fun B' H' vs as R' s S' r ⟨e, x, e1, e2, e3, q⟩ => k B' H' vs as R' s S' r ⟨[(p, .ins C dx fs)], Rf, by rw [e]; exact List.Perm.refl _, x, p, dx, by rw [e1], by rw [e2], e3, fun d fs' z => q d fs' z⟩⟩
theorem we_make1 {α : Type} {C : Addr} {arg : α → List D} {fin : α → List (Str × AV)} {pre : α → Prop} {post : α → D → List (Str × AV) → Prop} {E : XK} {t : TA} {Φ : AV → RS → Prop} (h : WA K t ρ R fun as R1 => ∃ x, as = (arg x).map .d ∧ fin x = [] ∧ pre x ∧ ∀ p dx d fs', post x d fs' → d = .non ∧ Φ (.v (.ref p)) ((p, .ins C dx fs') :: R1)) : WE K (tMake C (spG K (Rsc C arg fin pre post)) [] E t) ρ R Φ := by
  refine we_make rsc_mono ⟨fun B H σ Q S k => h.run B H σ Q S fun B' H' vs as R' s S' r ⟨x, e1, e2, e3, q⟩ => k B' H' vs as R' s S' r ⟨[], R', List.Perm.refl _, fun p dx => ⟨x, p, dx, by rw [e1], by rw [e2], e3, fun d fs' z => ?_⟩⟩⟩
  obtain ⟨ed, z2⟩ := q p dx d fs' z
  subst ed
  exact ⟨rfl, z2⟩
theorem okRsc {α : Type} {C : Addr} {arg : α → List D} {fin : α → List (Str × AV)} {pre : α → Prop} {post : α → D → List (Str × AV) → Prop} {x qual : Str} {st : Stmt} {f : Addr} {fd : FuncData} {N ps : List Str} {k : Nat} (U : Fun K x qual st f fd) (S : FnScope N ps (defScope st)) (len : ∀ x, (arg x).length + 1 = ps.length)
    (hbody : ∀ (cdv : Value) (A : Around) (outer : List Env) (s : Shared) (H : Hp) (E : XK) (x : α) (p dx : Addr), Room k (A.deeper (envOfC qual (defScope st) s.heap.objs.size f cdv)) → pre x →
      ∃ t, PSs (cxOf CX0 P w K mg base N qual (defScope st) f cdv A outer s H E).nox (defBody st) t ∧ WS K t (astart N (.v (.ref p) :: (arg x).map .d)) [(p, .ins C dx (fin x))] { nx := fun _ R' => ∃ fs', post x .non fs' ∧ R' = [(p, .ins C dx fs')], rt := fun a R' => ∃ d, a = .d d ∧ ∃ fs', post x d fs' ∧ R' = [(p, .ins C dx fs')] }) : FnOk P w K mg base CX0 (k + 1) f fd ps (spG K (Rsc C arg fin pre post)) := by
  refine okG U S (fun as R P ⟨x, p, dx, h1, _⟩ => by rw [h1, List.length_cons, List.length_map]; exact len x) fun cdv A outer s H E as R P0 hr ⟨x, p, dx, h1, h2, h3, h4⟩ => ?_
  subst h1
  subst h2
  obtain ⟨t, ht, hw⟩ := hbody cdv A outer s H E x p dx hr h3
  exact ⟨t, ht, hw.mono (fun ρ R ⟨fs', e1, e2⟩ => by subst e2; exact h4 .non fs' e1) (fun a R ⟨d, e0, fs', e1, e2⟩ => by subst e0; subst e2; exact h4 d fs' e1) (fun _ _ h => h) (fun _ _ h => h)⟩
theorem WE.less {Φ : AV → RS → Prop} (h : R'.Sublist R) (hw : WE K te ρ R' Φ) : WE K te ρ R Φ := ⟨fun B H σ Q S k =>
  hw.run B H σ Q (S.less h) fun B' H' v a R1 s S' r z => k B' H' v a R1 ((Step.less (Step.refl R B H) h).trans s) S' r z⟩
end
end Ab
set_option Elab.async false
set_option linter.all false
set_option maxRecDepth 100000
set_option maxHeartbeats 1000000
namespace PySem
open Sem (wp)
namespace Lr
open F
theorem slot_next : Slot "longrange_iterator" "__next__" "longrange_iterator.__next__" :=
  .of (owner := "longrange_iterator") (n := "__next__") (by rw [typeLookup_type, builtinLookup_eq_fast]; kernel_rfl) (by decide +kernel) (by decide +kernel) (by decide +kernel)
    (by first | exact .inl (by decide +kernel) | exact .inr (by decide +kernel)) (by rw [isSubtype_type]; kernel_rfl)
theorem entry_next : entryFor table "longrange_iterator.__next__" = some Builtin.«longrange_iterator.__next__» := entryFor_of_tree (by kernel_rfl)
theorem owner_lr : Manifest.owners.lookup (String.ofList ['r', 'o', 't', 'a', 'r', 'e', 't', 'i', '_', 'e', 'g', 'n', 'a', 'r', 'g', 'n', 'o', 'l'].reverse) = some Manifest.sig_longrange_iterator := by kernel_rfl
theorem args_next (a : Value) : argsOk "longrange_iterator.__next__" ⟨[a], []⟩ := by
  unfold argsOk; rw [signature?_of (id := "longrange_iterator.__next__") (n := ['_', '_', 't', 'x', 'e', 'n', '_', '_']) (o := ['r', 'o', 't', 'a', 'r', 'e', 't', 'i', '_', 'e', 'g', 'n', 'a', 'r', 'g', 'n', 'o', 'l']) (by kernel_rfl) owner_lr]; kernel_rfl
theorem slot_iter : Slot "longrange_iterator" "__iter__" "longrange_iterator.__iter__" :=
  .of (owner := "longrange_iterator") (n := "__iter__") (by rw [typeLookup_type, builtinLookup_eq_fast]; kernel_rfl) (by decide +kernel) (by decide +kernel) (by decide +kernel)
    (by first | exact .inl (by decide +kernel) | exact .inr (by decide +kernel)) (by rw [isSubtype_type]; kernel_rfl)
theorem entry_iter : entryFor table "longrange_iterator.__iter__" = some Builtin.«dict_keyiterator.__iter__» :=
  entryFor_alias (id' := "dict_keyiterator.__iter__") (by kernel_rfl) (by first | rfl | decide +kernel | (unfold String.splitOn; simp +decide [String.splitOnAux])) (by decide +kernel) (by kernel_rfl)
theorem args_iter (a : Value) : argsOk "longrange_iterator.__iter__" ⟨[a], []⟩ := by
  unfold argsOk; rw [signature?_of (id := "longrange_iterator.__iter__") (n := ['_', '_', 'r', 'e', 't', 'i', '_', '_']) (o := ['r', 'o', 't', 'a', 'r', 'e', 't', 'i', '_', 'e', 'g', 'n', 'a', 'r', 'g', 'n', 'o', 'l']) (by kernel_rfl) owner_lr]; kernel_rfl
abbrev IsLong (h : Heap) (it : Addr) (x left step : Int) : Prop := h.get? it = some { cls := .type "longrange_iterator", dict := none, data := .fields #[rawInt x, rawInt left, rawInt step], slots := #[] }
theorem next_meets (it : Addr) (x left step : Int) (hc0 : ¬left ≤ 0) :
    Meets (Builtin.«longrange_iterator.__next__» ⟨[.ref it], []⟩) (fun _ R s => IsLong s.heap it x left step ∧ R (.ok (.ret (Value.int x s.toks))) { s with heap := (s.heap.update it (Obj.mapFields fun x_1 => x_1.setIfInBounds 0 (rawInt (x + step)))).update it (Obj.mapFields fun x => x.setIfInBounds 1 (rawInt (left - 1))), toks := s.toks + 1 }) :=
  .of_wp fun prog w A R s h => by obtain ⟨hp, g, d, tk, os⟩ := s; obtain ⟨hl, h⟩ := h; wp_walk; exact ⟨_, rfl, h⟩
section
variable {prog : Program} {w : World} {A : Around} {E : Value → Shared → Prop} {s : Shared}
theorem pyIter_long {r : Addr} {a b c : Int} {t u v : Tok} {Q : Value → Shared → Prop} (hr : IsRange s.heap r a b c t u v) (hsmall : Builtin.Range.small a b c = false)
    (hQ : Q (.ref s.heap.objs.size) { s with heap := s.heap.push { cls := .type "longrange_iterator", data := .fields #[rawInt a, rawInt (Builtin.Range.rangeSize a b c), rawInt c] } }) :
    wpAny (model prog w) A (pyIter (.ref r)) Q E s := by
  have hT : s.TypeIs (.ref r) "range" := ⟨_, hr, rfl⟩
  refine wpAny_pyIter_slot hT F.slot_range_iter (call_meets F.slot_range_iter hT F.entry_range_iter (F.args_range_iter_1 _)
    (AutoRange.range___iter___range_0 r a b c t u v (by unfold Builtin.Range.small at hsmall; rw [hsmall]; rfl)) ⟨hr, ?_⟩)
  unfold Builtin.Range.small at hsmall
  rw [hsmall]
  exact ⟨"longrange_iterator", _, ⟨_, Heap.get?_push_size _ rfl, rfl⟩, slot_next.lookup, hQ⟩
theorem pyNext_item {it : Addr} {x left step : Int} {Q : Option Value → Shared → Prop} (hit : IsLong s.heap it x left step) (hleft : 0 < left)
    (hQ : ∀ h', IsLong h' it (x + step) (left - 1) step → Heap.SameBut it s.heap h' → Q (some (.int x s.toks)) { s with heap := h', toks := s.toks + 1 }) :
    wpAny (model prog w) A (pyNext (.ref it)) Q E s := by
  have hT : s.TypeIs (.ref it) "longrange_iterator" := ⟨_, hit, rfl⟩
  unfold pyNext
  refine wpAny_bind (wpAny_attempt (wpAny_callSpecial?_slot (name := Str.ofString "__next__") hT slot_next
    (call_meets slot_next hT entry_next (args_next _) (next_meets it x left step (by omega)) ⟨hit, ?_⟩)))
  exact wpAny_pure (hQ _ (Heap.get?_update_self _ (Heap.get?_update_self _ hit rfl) rfl) ((Heap.SameBut.update ..).trans (Heap.SameBut.update ..)))
theorem pyNext_end {it : Addr} {x left step : Int} {Q : Option Value → Shared → Prop} (hh : A.handled = none) (hit : IsLong s.heap it x left step) (hleft : left ≤ 0)
    (hQ : ∀ h', Heap.ExtBut it s.heap h' → Q none { s with heap := h' }) : wpAny (model prog w) A (pyNext (.ref it)) Q E s := by
  have hT : s.TypeIs (.ref it) "longrange_iterator" := ⟨_, hit, rfl⟩
  unfold pyNext
  refine wpAny_bind (wpAny_attempt (wpAny_callSpecial?_slot (name := Str.ofString "__next__") hT slot_next
    (wpAny_call_entry slot_next hT entry_next ?_ (args_next _))))
  obtain ⟨hp, g, d, tk, os⟩ := s
  have hit : IsLong hp it x left step := hit
  wp_walk
  simp only [raiseNew]
  refine wpAny_bind (wpAny_handled ?_)
  first | rw [show A.in1.handled = none from hh] | rw [hh]
  refine wpAny_bind (wpAny_pure (wpAny_throw ?_))
  refine wpAny_bind (wpAny_isInstance (T := "StopIteration") (b := true) ⟨_, Heap.get?_push_size _ rfl, rfl⟩ isSubtype_stop ?_)
  exact wpAny_pure (hQ _ (((Heap.ExtBut.refl it hp).push _).push _))
theorem pyIter_self {it : Addr} {x left step : Int} {Q : Value → Shared → Prop} (hit : IsLong s.heap it x left step) (h : Q (.ref it) s) : wpAny (model prog w) A (pyIter (.ref it)) Q E s := by
  have hT : s.TypeIs (.ref it) "longrange_iterator" := ⟨_, hit, rfl⟩
  refine wpAny_pyIter_slot hT slot_iter (wpAny_call_entry slot_iter hT entry_iter ?_ (args_iter _))
  show wpAny _ _ (ret (.ref it)) _ _ s
  exact wpAny_pure ⟨_, rfl, "longrange_iterator", _, hT, slot_next.lookup, h⟩
end
end Lr
end PySem
namespace L2
open PySem PySem.Spec PyProof.Rows
theorem turn_long {P : Program} {w : World} {K : PySem.W.Frag} {tg : Expr} (it : Addr) (lo : Int) (n : Nat) : Turn P w K tg (Itr lo n) [it] it (fun i h => Lr.IsLong h it (lo + (i : Nat) * 1) ((n : Int) - (i : Nat)) 1) where
  mem := by simp
  obj := fun i h st b hb => by
    have e : b = it := by simpa using hb
    subst e
    exact ⟨_, st, fun v z => by
      have z' : Data.fields _ = Data.cell v := z
      cases z'⟩
  keep := fun i h h' st k => k it (by simp) _ st
  item := by
    intro X hP hw hK hc i pins s σ H E I hf st hg
    subst hP hw hK
    obtain ⟨f0, f1, f2, f3, f4, f5⟩ := hf it (by simp)
    have hg : i < n := hg
    refine Lr.pyNext_item st (by omega) fun h' hit' hs' => ?_
    have I1 : Inv X pins σ H { s with heap := h', toks := s.toks + 1 } := I.turned (fun b o hb e => hs'.extBut b o (fun h => hb (by simp [h])) e) f0 f1 f3 f4 f5
    have st' : Lr.IsLong h' it (lo + ((i + 1 : Nat) : Int) * 1) ((n : Int) - ((i + 1 : Nat) : Int)) 1 := by
      have e1 : lo + ((i + 1 : Nat) : Int) * 1 = lo + (i : Int) * 1 + 1 := by omega
      have e2 : (n : Int) - ((i + 1 : Nat) : Int) = (n : Int) - (i : Int) - 1 := by omega
      rw [e1, e2]
      exact hit'
    refine ⟨_, rfl, go_of (s := { s with heap := h', toks := s.toks + 1 }) (n := "longrange_iterator") st' rfl rfl (by decide) ⟨.int (lo + i), H, I1, ⟨s.toks, ?_⟩, ⟨rfl, rfl⟩, st', fun b hb => (hf b hb).1⟩⟩
    rw [Int.mul_one]
  done := by
    intro X hP hw hK hc i pins s σ H E I hf st hg
    subst hP hw hK
    obtain ⟨f0, f1, f2, f3, f4, f5⟩ := hf it (by simp)
    exact Lr.pyNext_end (I.ok.hd hc) st (by have : n ≤ i := hg; omega) fun h' eb => ⟨rfl, I.turned (t' := s.toks) (fun b o hb e => eb b o hb e) f0 f1 f3 f4 f5⟩
  self := fun _ _ _ _ _ st h => Lr.pyIter_self st h
section
variable {X : Cx} {tg : Expr}
/-- a range object just made, walked, of any size -/
theorem range_itA {pins : List (Addr × Obj)} {σ : St} {H : Hp} {s : Shared} {R : It → Hp → Prop} {E : Value → Shared → Prop} {lo hi : Int} {t u v : Tok} {tk : Nat} (I : Inv X pins σ H s)
    (q : R (Itr lo (hi - lo).toNat) H) : wpAny (model X.prog X.w) X.A (pyIter (.ref s.heap.objs.size)) (PIE X pins σ tg R) E { s with heap := s.heap.push { cls := .type "range", data := .fields #[.int lo t, .int hi u, .int 1 v] }, toks := tk } := by
  have I1 : Inv X pins σ H { s with heap := s.heap.push { cls := .type "range", data := .fields #[.int lo t, .int hi u, .int 1 v] }, toks := tk } := I.kept fun b o e => Heap.get?_push_of_some _ e
  have e1 : lo + ((0 : Nat) : Int) * 1 = lo := by simp
  have e2 : (((hi - lo).toNat : Nat) : Int) - ((0 : Nat) : Int) = Builtin.Range.rangeSize lo hi 1 := by rw [rangeSize_one]; split <;> omega
  cases hs : Builtin.Range.small lo hi 1 with
  | true =>
    refine wpAny_pyIter_range (IsRange.new ..) hs ?_
    refine ⟨(s.heap.push { cls := .type "range", data := .fields #[.int lo t, .int hi u, .int 1 v] }).objs.size, [(s.heap.push { cls := .type "range", data := .fields #[.int lo t, .int hi u, .int 1 v] }).objs.size], _, _, H, rfl,
      I1.kept (t' := tk) fun b o e => Heap.get?_push_of_some _ e, turn_range _ lo (hi - lo).toNat, ?_, fun b hb => ?_, q⟩
    · show IsRangeIter _ _ (lo + ((0 : Nat) : Int) * 1) ((((hi - lo).toNat : Nat) : Int) - ((0 : Nat) : Int)) 1
      rw [e1, e2]
      exact Heap.get?_push_size _ rfl
    · have e : b = (s.heap.push { cls := .type "range", data := .fields #[.int lo t, .int hi u, .int 1 v] }).objs.size := by simpa using hb
      subst e
      exact I1.fpOk (Nat.le_refl _) (I1.hok.fresh (Nat.le_refl _))
  | false =>
    refine Lr.pyIter_long (IsRange.new ..) hs ?_
    refine ⟨(s.heap.push { cls := .type "range", data := .fields #[.int lo t, .int hi u, .int 1 v] }).objs.size, [(s.heap.push { cls := .type "range", data := .fields #[.int lo t, .int hi u, .int 1 v] }).objs.size], _, _, H, rfl,
      I1.kept (t' := tk) fun b o e => Heap.get?_push_of_some _ e, turn_long _ lo (hi - lo).toNat, ?_, fun b hb => ?_, q⟩
    · show Lr.IsLong _ _ (lo + ((0 : Nat) : Int) * 1) ((((hi - lo).toNat : Nat) : Int) - ((0 : Nat) : Int)) 1
      rw [e1, e2]
      exact Heap.get?_push_size _ rfl
    · have e : b = (s.heap.push { cls := .type "range", data := .fields #[.int lo t, .int hi u, .int 1 v] }).objs.size := by simpa using hb
      subst e
      exact I1.fpOk (Nat.le_refl _) (I1.hok.fresh (Nat.le_refl _))
def iRng2A (ta : TA) : TI := fun σ H R => ta σ H fun vs H1 => ∃ i j : Int, vs = [.int i, .int j] ∧ R (Itr i (j - i).toNat) H1
theorem pi_range2A {a b : Expr} {ta : TA} {p pos : Pos} (hg : Gl X "range") (hm : X.mg "range" = none) (ha : PA X [a, b] ta) (hs : starEach [a, b] X.env = [(false, eval a X.env), (false, eval b X.env)] := by rfl) (hs2 : starEach [b] X.env = [(false, eval b X.env)] := by rfl) :
    PI X tg (.Call (.Name "range" p) [a, b] [] pos) (iRng2A ta) := by
  refine ⟨fun pins s σ H R I h => ?_⟩
  refine Call_ (ld_blt I hg hm boot_range (PyProof.Rows.callWith_type1 (thn (ha.run pos pins s σ H _ I h) fun us s1 ⟨vs, H1, I1, r1, q1⟩ => ?_) (by rw [hs, hs2]) (by rw [hs2]; rfl)))
  obtain ⟨i, j, e, q⟩ := q1
  subst e
  cases r1 with
  | cons r rr =>
    cases rr with
    | cons r' rr =>
      cases rr
      obtain ⟨t, rfl⟩ := r
      obtain ⟨t', rfl⟩ := r'
      exact call_range_2 (range_itA I1 q)
end
end L2
set_option Elab.async false
set_option linter.all false
set_option maxRecDepth 100000
set_option maxHeartbeats 1000000
namespace Ab
open PySem PySem.Spec L2
open PyProof.Rows hiding St
section
variable {K : PySem.W.Frag} {ρ ρ' : AE} {R R' : RS} {ta tb tc te tl : TE} {tt : TT} {Δ : AEnds} {t1 : TS}
theorem wi_rng2A {t : TA} {Φ : List D → RS → Prop} (h : WA K t ρ R fun as R1 => ∃ lo hi : Int, as = [.d (.int lo), .d (.int hi)] ∧ Φ ((List.range (hi - lo).toNat).map fun i => D.int (lo + (i : Nat))) R1) : WI K (iRng2A t) ρ R Φ := ⟨fun B H σ Rk S k => by
  refine h.run B H σ _ S fun B1 H1 ws as R1 s1 S1 r ⟨lo, hi, e, q⟩ => ?_
  subst e
  cases r with
  | cons r1 r2 =>
    cases r2 with
    | cons r2 r3 =>
      cases r3
      cases r1
      cases r2
      refine ⟨lo, hi, rfl, k B1 H1 _ _ R1 s1 S1 ⟨fun i y B2 H2 e hb hh => ?_, fun B2 H2 _ _ => ?_⟩ q⟩
      · rw [List.getElem?_map] at e
        by_cases hi' : i < (hi - lo).toNat
        · rw [List.getElem?_range hi'] at e
          cases e
          refine ⟨hi', fun x H3 q => ?_⟩
          obtain ⟨rfl, rfl⟩ := q
          exact ⟨B2, Gr.refl hh, DV.int _⟩
        · rw [List.getElem?_eq_none (by simpa using hi')] at e
          cases e
      · rw [List.length_map, List.length_range]; exact Nat.le_refl _⟩
/-! a dict of ints, the first resource -/
def kEnc (ps : List (Int × Int)) : List (Key × V) := ps.map fun p => (Sum.inl p.1, V.int p.2)
def kget (ps : List (Int × Int)) (k : Int) : Option Int := (ps.find? fun p => decide (p.1 = k)).map (·.2)
def kput (ps : List (Int × Int)) (k v : Int) : List (Int × Int) := if (ps.any fun p => decide (p.1 = k)) = true then ps.map (fun p => if p.1 = k then (p.1, v) else p) else ps ++ [(k, v)]
theorem inlD {a b : Int} : decide ((Sum.inl a : Key) = Sum.inl b) = decide (a = b) := decide_eq_decide.mpr ⟨fun h => Sum.inl.inj h, fun h => by rw [h]⟩
theorem kget_enc (ps : List (Int × Int)) (k : Int) : valV (kEnc ps) (Sum.inl k) = (kget ps k).map V.int := by
  unfold valV kget kEnc
  induction ps with
  | nil => rfl
  | cons p ps ih =>
    simp only [List.map_cons, List.find?_cons]
    rw [show decide ((Sum.inl p.1 : Key) = Sum.inl k) = decide (p.1 = k) from inlD]
    cases decide (p.1 = k) with
    | true => rfl
    | false => exact ih
theorem kput_enc (ps : List (Int × Int)) (k v : Int) : putK (kEnc ps) (Sum.inl k) (V.int v) = kEnc (kput ps k v) := by
  unfold putK kput kEnc
  have h : ((ps.map fun p => ((Sum.inl p.1 : Key), V.int p.2)).any fun kv => decide (kv.1 = Sum.inl k)) = ps.any fun p => decide (p.1 = k) := by
    rw [List.any_map]
    congr 1
    funext p
    exact inlD
  rw [h]
  split
  · rw [List.map_map, List.map_map]
    refine List.map_congr_left fun p _ => ?_
    show (if (Sum.inl p.1 : Key) = Sum.inl k then ((Sum.inl p.1 : Key), V.int v) else ((Sum.inl p.1 : Key), V.int p.2)) = _
    by_cases hp : p.1 = k
    · rw [if_pos (by rw [hp])]
      show _ = ((Sum.inl (if p.1 = k then (p.1, v) else p).1 : Key), V.int (if p.1 = k then (p.1, v) else p).2)
      rw [if_pos hp]
    · rw [if_neg (fun e => hp (Sum.inl.inj e))]
      show _ = ((Sum.inl (if p.1 = k then (p.1, v) else p).1 : Key), V.int (if p.1 = k then (p.1, v) else p).2)
      rw [if_neg hp]
  · rw [List.map_append]
    rfl
theorem we_dget21 {i : Nat} {p : Addr} {ps : List (Int × Int)} {Rf : RS} {Φ : AV → RS → Prop} (h1 : ρ[i]? = some (some (.v (.ref p)))) (h : WE K tb ρ ((p, .ho (.dK (kEnc ps))) :: Rf) fun b R2 => WE K tc ρ R2 fun c R3 => ∃ k : Int, b = .d (.int k) ∧ ∃ d : Int, c = .d (.int d) ∧ R3 = (p, .ho (.dK (kEnc ps))) :: Rf ∧ Φ (.d (.int ((kget ps k).getD d))) R3) : WE K (tDGet2 (tVar i) tb tc) ρ ((p, .ho (.dK (kEnc ps))) :: Rf) Φ := by
  refine we_dget2 (we_var h1 ⟨p, kEnc ps, rfl, List.mem_cons_self, h.mono fun b R2 q => q.mono fun c R3 ⟨k, e1, d, e2, e3, q⟩ => ⟨.inl k, e1, by rw [e3]; exact List.mem_cons_self, ?_⟩⟩)
  rw [kget_enc]
  cases hk : kget ps k with
  | none => rw [hk] at q; rw [e2]; exact q
  | some v => rw [hk] at q; exact q
theorem ws_dput1 {i : Nat} {p : Addr} {ps : List (Int × Int)} {Rf : RS} (h1 : ρ[i]? = some (some (.v (.ref p)))) (hl : ps.length < 10000000) (h : WE K tc ρ ((p, .ho (.dK (kEnc ps))) :: Rf) fun c R1 => R1 = (p, .ho (.dK (kEnc ps))) :: Rf ∧ ∃ v : Int, c = .d (.int v) ∧ WE K tb ρ ((p, .ho (.dK (kEnc ps))) :: Rf) fun b R3 => ∃ k : Int, b = .d (.int k) ∧ R3 = (p, .ho (.dK (kEnc ps))) :: Rf ∧ Δ.nx ρ ((p, .ho (.dK (kEnc (kput ps k v)))) :: Rf)) : WS K (sDPut (tVar i) tb tc) ρ ((p, .ho (.dK (kEnc ps))) :: Rf) Δ := by
  refine ws_nd _ fun nd => ?_
  have hp : p ∉ dom Rf := (List.nodup_cons.mp nd).1
  refine ws_dput (h.mono fun c R1 ⟨e0, v, e1, q⟩ => ?_)
  subst e0
  refine we_var h1 (q.mono fun b R3 ⟨k, e2, e3, q⟩ => ⟨p, kEnc ps, .inl k, .int v, e1, rfl, e2, by rw [e3]; exact List.mem_cons_self, by unfold kEnc; rw [List.length_map]; exact hl, ?_⟩)
  rw [e3, setR_here, setR_no hp, kput_enc]
  exact q
end
end Ab
set_option Elab.async false
set_option linter.all false
set_option maxRecDepth 100000
set_option maxHeartbeats 1000000
namespace Ab
open PySem PySem.Spec L2
open PyProof.Rows hiding St
section
variable {P : Program} {w : World} {K : PySem.W.Frag} {mg : Str → Option Value} {base : Heap} {ρ ρ' : AE} {R R' : RS} {ta tb tc te tl : TE} {tt : TT} {Δ : AEnds} {t1 : TS}
/-! draws: the source of numbers is a list of three, the first resource -/
structure SrcOk (deep seed cnt : Int) : Prop where
  d : 0 ≤ deep
  s0 : 0 ≤ seed
  s1 : seed < 1099511627776
  c : 0 ≤ cnt
abbrev srcR (p : Addr) (deep seed cnt : Int) : Addr × RV := (p, .lst [.int deep, .int seed, .int cnt])
def Drw {α : Type} (arg : α → List D) (pre : α → Prop) (cost : α → Nat) (post : α → D → Prop) : FT := fun as R P => ∃ (x : α) (p : Addr) (deep seed cnt : Int), as = .v (.ref p) :: (arg x).map .d ∧ R = [srcR p deep seed cnt] ∧ pre x ∧ SrcOk deep seed cnt ∧ cnt + (cost x : Int) ≤ 1000000 ∧ ∀ (d : D) (deep' cnt' : Int), post x d → SrcOk deep' seed cnt' → cnt' ≤ cnt + (cost x : Int) → P (.d d) [srcR p deep' seed cnt']
theorem drw_mono {α : Type} {arg : α → List D} {pre : α → Prop} {cost : α → Nat} {post : α → D → Prop} : Mono (Drw arg pre cost post) := fun as R P P' ⟨x, p, deep, seed, cnt, h1, h2, h3, h4, h5, h6⟩ f => ⟨x, p, deep, seed, cnt, h1, h2, h3, h4, h5, fun d dp c q o l => f _ _ (h6 d dp c q o l)⟩
theorem we_drw {α : Type} {arg : α → List D} {pre : α → Prop} {cost : α → Nat} {post : α → D → Prop} {E : XK} {t : TA} {p : Addr} {deep seed cnt : Int} {Rf : RS} {Φ : AV → RS → Prop} (h : WA K t ρ (srcR p deep seed cnt :: Rf) fun as R1 => R1 = srcR p deep seed cnt :: Rf ∧ ∃ x, as = .v (.ref p) :: (arg x).map .d ∧ pre x ∧ SrcOk deep seed cnt ∧ cnt + (cost x : Int) ≤ 1000000 ∧ ∀ (d : D) (deep' cnt' : Int), post x d → SrcOk deep' seed cnt' → cnt' ≤ cnt + (cost x : Int) → Φ (.d d) (srcR p deep' seed cnt' :: Rf)) : WE K (tCall (spG K (Drw arg pre cost post)) [] E t) ρ (srcR p deep seed cnt :: Rf) Φ :=
  we_call ⟨fun B H σ Q S k => h.run B H σ Q S fun B' H' vs as R' s S' r ⟨e, x, e1, e2, e3, e4, q⟩ => k B' H' vs as R' s S' r ⟨[srcR p deep seed cnt], Rf, by rw [e]; exact List.Perm.refl _, x, p, deep, seed, cnt, e1, rfl, e2, e3, e4, fun d dp c z o l => q d dp c z o l⟩⟩ drw_mono
theorem okDrw {α : Type} {arg : α → List D} {pre : α → Prop} {cost : α → Nat} {post : α → D → Prop} {x qual : Str} {st : Stmt} {f : Addr} {fd : FuncData} {N ps : List Str} {k : Nat} (U : Fun K x qual st f fd) (S : FnScope N ps (defScope st)) (len : ∀ x, (arg x).length + 1 = ps.length)
    (hbody : ∀ (cdv : Value) (A : Around) (outer : List Env) (s : Shared) (H : Hp) (E : XK) (x : α) (p : Addr) (deep seed cnt : Int), Room k (A.deeper (envOfC qual (defScope st) s.heap.objs.size f cdv)) → pre x → SrcOk deep seed cnt → cnt + (cost x : Int) ≤ 1000000 →
      ∃ t, PSs (cxOf CX0 P w K mg base N qual (defScope st) f cdv A outer s H E).nox (defBody st) t ∧ WS K t (astart N (.v (.ref p) :: (arg x).map .d)) [srcR p deep seed cnt] { nx := fun _ R' => False, rt := fun a R' => ∃ d, a = .d d ∧ ∃ deep' cnt', R' = [srcR p deep' seed cnt'] ∧ post x d ∧ SrcOk deep' seed cnt' ∧ cnt' ≤ cnt + (cost x : Int) }) : FnOk P w K mg base CX0 (k + 1) f fd ps (spG K (Drw arg pre cost post)) := by
  refine okG U S (fun as R P ⟨x, p, _, _, _, h1, _⟩ => by rw [h1, List.length_cons, List.length_map]; exact len x) fun cdv A outer s H E as R P0 hr ⟨x, p, deep, seed, cnt, h1, h2, h3, h4, h5, h6⟩ => ?_
  subst h1
  subst h2
  obtain ⟨t, ht, hw⟩ := hbody cdv A outer s H E x p deep seed cnt hr h3 h4 h5
  exact ⟨t, ht, hw.mono (fun ρ R h => h.elim) (fun a R ⟨d, e0, dp, c, e1, e2, e3, e4⟩ => by subst e0; subst e1; exact h6 d dp c e2 e3 e4) (fun _ _ h => h) (fun _ _ h => h)⟩
theorem ws_setJ {i j : Nat} {p : Addr} {ds : List D} {Rf : RS} {tv : TE} (h1 : ρ[i]? = some (some (.v (.ref p)))) (hj : j < ds.length) (hv : WE K tv ρ ((p, .lst ds) :: Rf) fun v R1 => ∃ d, v = .d d ∧ R1 = (p, .lst ds) :: Rf ∧ Δ.nx ρ ((p, .lst (ds.set j d)) :: Rf)) : WS K (tAsg tv (gSub (tVar i) (tC (.int (j : Nat))) rSetL)) ρ ((p, .lst ds) :: Rf) Δ := by
  refine ws_nd _ fun nd => ?_
  have hp : p ∉ dom Rf := (List.nodup_cons.mp nd).1
  refine ws_setI (hv.mono fun v R1 ⟨d, e1, e2, q⟩ => we_var h1 (we_cI ⟨d, p, j, j, ds, e1, rfl, rfl, by rw [e2]; exact List.mem_cons_self, (by unfold ixN; rw [if_pos (by omega), if_pos (by omega), Int.toNat_natCast]), ?_⟩))
  rw [e2, setR_here, setR_no hp]
  exact q
theorem we_ixJ {i : Nat} {j : Int} {p : Addr} {ds : List D} {d : D} {Rf : RS} {Φ : AV → RS → Prop} (h1 : ρ[i]? = some (some (.v (.ref p)))) (ha : atI ds j = some d) (q : Φ (.d d) ((p, .lst ds) :: Rf)) : WE K (tOp (rIx K) (tVar i) (tC (.int j))) ρ ((p, .lst ds) :: Rf) Φ :=
  we_ix1 h1 (we_cI ⟨j, rfl, rfl, d, ha, q⟩)
end
end Ab
set_option linter.all false
/-! Plain Lean: trees, pieces, and what the program's defs reckon. -/
namespace Ms
inductive Op where
  | or | and | eq | ne | lt | gt | le | ge | add | sub | mul | div | mod
  deriving DecidableEq, Repr
inductive Tr where
  | n
  | num (v : Int)
  | not (a : Tr)
  | ite (a b c : Tr)
  | bin (o : Op) (a b : Tr)
  deriving DecidableEq, Repr
/-- the value of a tree -/
def b2i (b : Bool) : Int := if b then 1 else 0
def cmpM : Op → Int → Int → Bool
  | .eq, x, y => decide (x = y)
  | .ne, x, y => !decide (x = y)
  | .lt, x, y => decide (x < y)
  | .gt, x, y => decide (y < x)
  | .le, x, y => !decide (y < x)
  | .ge, x, y => !decide (x < y)
  | _, _, _ => false
def valM : Tr → Int → Int
  | .n, n => n
  | .num v, _ => v
  | .not a, n => b2i (decide (valM a n = 0))
  | .ite a b c, n => if valM a n = 0 then valM c n else valM b n
  | .bin .and a b, n => if valM a n = 0 then 0 else valM b n
  | .bin .or a b, n => if valM a n = 0 then valM b n else valM a n
  | .bin .add a b, n => valM a n + valM b n
  | .bin .sub a b, n => valM a n - valM b n
  | .bin .mul a b, n => valM a n * valM b n
  | .bin .div a b, n => valM a n / valM b n
  | .bin .mod a b, n => valM a n % valM b n
  | .bin o a b, n => b2i (cmpM o (valM a n) (valM b n))
def Tr.isNum : Tr → Bool
  | .num _ => true
  | _ => false
def Tr.num? : Tr → Int
  | .num v => v
  | _ => 0
/-- linear, all numbers at least 0 -/
def linM : Tr → Bool
  | .n => true
  | .num v => decide (0 ≤ v)
  | .not a => linM a
  | .ite a b c => linM a && linM b && linM c
  | .bin .mul a b => (a.isNum || b.isNum) && linM a && linM b
  | .bin .div a b => linM a && b.isNum && decide (0 < b.num?)
  | .bin .mod a b => linM a && b.isNum && decide (0 < b.num?)
  | .bin _ a b => linM a && linM b
def spanM : Tr → Nat
  | .n => 1
  | .num _ => 1
  | .not a => Nat.lcm 1 (spanM a)
  | .ite a b c => Nat.lcm (Nat.lcm (Nat.lcm 1 (spanM a)) (spanM b)) (spanM c)
  | .bin .div a b => spanM a * b.num?.toNat
  | .bin .mod a b => spanM a * b.num?.toNat
  | .bin _ a b => Nat.lcm (Nat.lcm 1 (spanM a)) (spanM b)

/-! pieces -/
abbrev Piece := Int × Int × Int
abbrev Str4 := Int × Option Int × Int × Int
abbrev Str6 := Int × Option Int × Int × Int × Int × Int
abbrev Sg := Int × Option Int × Int
def joinStep (found : List Piece) (p : Piece) : List Piece := match found.getLast? with
  | none => found ++ [p]
  | some q => if q.2 = p.2 then found else found ++ [p]
def joinedM (ps : List Piece) : List Piece := ps.foldl joinStep []
def stretchesM : List Piece → List Str4
  | [] => []
  | [p] => [(p.1, none, p.2.1, p.2.2)]
  | p :: q :: r => (p.1, some q.1, p.2.1, p.2.2) :: stretchesM (q :: r)
def leastEnd : Option Int → Option Int → Option Int
  | none, o => o
  | some a, none => some a
  | some a, some b => some (min a b)
def okHL (low : Int) (high : Option Int) : Bool := match high with
  | none => true
  | some h => decide (low < h)
def over1 (s t : Str4) : List Str6 :=
  if okHL (max s.1 t.1) (leastEnd s.2.1 t.2.1) then [(max s.1 t.1, leastEnd s.2.1 t.2.1, s.2.2.1, s.2.2.2, t.2.2.1, t.2.2.2)] else []
def overlaidM (one other : List Piece) : List Str6 := (stretchesM one).flatMap fun s => (stretchesM other).flatMap fun t => over1 s t
def clip (start : Int) (end_ : Option Int) (g : Sg) : List Sg :=
  if okHL (max start g.1) (leastEnd g.2.1 end_) then [(max start g.1, leastEnd g.2.1 end_, g.2.2)] else []
def sgn (b : Int) : Int := if 0 < b then 1 else -1
def signedM (start : Int) (end_ : Option Int) (a b : Int) : List Sg :=
  if b = 0 then [(start, end_, b2i (decide (0 < a)) - b2i (decide (a < 0)))]
  else
    [(start, some (0 - a * sgn b / (b * sgn b)), 0 - sgn b), (0 - a * sgn b / (b * sgn b), some ((0 - a * sgn b) / (b * sgn b) + 1), 0), ((0 - a * sgn b) / (b * sgn b) + 1, none, sgn b)].flatMap (clip start end_)
def wide1 (times shift : Int) (s : Str4) : List Piece :=
  if okHL (max 0 (0 - (shift - s.1) / times)) (s.2.1.map fun e => max 0 (0 - (shift - e) / times)) then [(max 0 (0 - (shift - s.1) / times), s.2.2.1 + s.2.2.2 * shift, s.2.2.2 * times)] else []
def widenedP (times shift : Int) (ps : List Piece) : List Piece := joinedM ((stretchesM ps).flatMap (wide1 times shift))
def widenedM (cs : List (List Piece)) (span : Nat) : List (List Piece) :=
  (List.range span).map fun rest => widenedP ((span / cs.length : Nat) : Int) ((rest / cs.length : Nat) : Int) (cs.getD (rest % cs.length) [])
def signsOf : Op → Int → Bool
  | .eq, s => decide (s = 0)
  | .ne, s => !decide (s = 0)
  | .lt, s => decide (s < 0)
  | .gt, s => decide (0 < s)
  | .le, s => decide (s < 1)
  | .ge, s => decide (-1 < s)
  | _, _ => false
def comb1 (o : Op) (x : Str6) : List Piece := match o, x with
  | .add, (start, _, a, b, c, d) => [(start, a + 1 * c, b + 1 * d)]
  | .sub, (start, _, a, b, c, d) => [(start, a + -1 * c, b + -1 * d)]
  | .mul, (start, _, a, b, c, d) => [(start, a * c, a * d + b * c)]
  | .and, (start, e, a, b, c, d) => (signedM start e a b).map fun g => if g.2.2 = 0 then (g.1, a, b) else (g.1, c, d)
  | .or, (start, e, a, b, c, d) => (signedM start e a b).map fun g => if g.2.2 = 0 then (g.1, c, d) else (g.1, a, b)
  | o, (start, e, a, b, c, d) => (signedM start e (a - c) (b - d)).map fun g => (g.1, b2i (signsOf o g.2.2), 0)
def combinedM (o : Op) (one other : List Piece) : List Piece := joinedM ((overlaidM one other).flatMap (comb1 o))
def chose1 (want : Bool) (x : Str6) : List Piece := match x with
  | (start, e, a, b, c, d) => (signedM start e a b).flatMap fun g => if decide (g.2.2 = 0) = want then [(g.1, c, d)] else []
def pL (p : Piece) : List Int := [p.1, p.2.1, p.2.2]
def Lp : List Int → Piece
  | [a, b, c] => (a, b, c)
  | _ => (0, 0, 0)
def leL (x y : List Int) : Bool := decide (x ≤ y)
def sortP (ps : List Piece) : List Piece := ((ps.map pL).mergeSort leL).map Lp
def chosenM (test one other : List Piece) : List Piece := joinedM (sortP ((overlaidM test one).flatMap (chose1 false) ++ (overlaidM test other).flatMap (chose1 true)))
def dividedM (o : Op) (ps : List Piece) (d : Int) : List Piece := match o with
  | .div => joinedM (ps.map fun p => (p.1, p.2.1 / d, p.2.2 / d))
  | _ => joinedM (ps.map fun p => (p.1, p.2.1 % d, 0))
def refusedM (ps : List Piece) : List Piece := joinedM ((stretchesM ps).flatMap fun s => (signedM s.1 s.2.1 s.2.2.1 s.2.2.2).map fun g => (g.1, b2i (decide (g.2.2 = 0)), 0))
def classesM : Tr → Nat → List (List Piece)
  | .n, span => (List.range span).map fun (r : Nat) => [(0, (r : Int), (span : Int))]
  | .num v, span => (List.range span).map fun _ => [(0, v, 0)]
  | .not a, span => (classesM a span).map refusedM
  | .ite a b c, span => (List.range span).map fun r => chosenM ((classesM a span).getD r []) ((classesM b span).getD r []) ((classesM c span).getD r [])
  | .bin .div a b, span => widenedM ((widenedM (classesM a (spanM a)) (spanM (.bin .div a b))).map fun ps => dividedM .div ps b.num?) span
  | .bin .mod a b, span => widenedM ((widenedM (classesM a (spanM a)) (spanM (.bin .mod a b))).map fun ps => dividedM .mod ps b.num?) span
  | .bin o a b, span => (List.range span).map fun r => combinedM o ((classesM a span).getD r []) ((classesM b span).getD r [])
end Ms
set_option linter.all false
namespace Ms
/-! ### chains of stretches -/
def inS (s : Int) (e : Option Int) (m : Int) : Prop := s ≤ m ∧ ∀ x, e = some x → m < x
def Chn {α : Type} (iv : α → Int × Option Int) : Option Int → Option Int → List α → Prop
  | a, b, [] => a = b
  | none, _, _ :: _ => False
  | some lo, b, x :: xs => (iv x).1 = lo ∧ okHL lo (iv x).2 = true ∧ Chn iv (iv x).2 b xs
theorem okHL_some {l h : Int} : okHL l (some h) = true ↔ l < h := decide_eq_true_iff
theorem Chn.none {α : Type} {iv : α → Int × Option Int} {b : Option Int} : ∀ {xs : List α}, Chn iv none b xs → xs = [] ∧ b = none
  | [], h => ⟨rfl, h.symm⟩
  | _ :: _, h => h.elim
theorem Chn.append {α : Type} {iv : α → Int × Option Int} {b c : Option Int} {ys : List α} (h2 : Chn iv b c ys) : ∀ {a : Option Int} {xs : List α}, Chn iv a b xs → Chn iv a c (xs ++ ys)
  | a, [], h => by have h : a = b := h; subst h; exact h2
  | some lo, x :: xs, ⟨h1, h3, h4⟩ => ⟨h1, h3, Chn.append h2 h4⟩
  | Option.none, x :: xs, h => h.elim
theorem Chn.flatMap {α β : Type} {iv : α → Int × Option Int} {jv : β → Int × Option Int} {f : α → List β} : ∀ {a b : Option Int} {xs : List α}, Chn iv a b xs → (∀ x ∈ xs, okHL (iv x).1 (iv x).2 = true → (∀ lo, a = some lo → lo ≤ (iv x).1) → Chn jv (some (iv x).1) (iv x).2 (f x)) → Chn jv a b (xs.flatMap f)
  | a, b, [], h, _ => h
  | Option.none, b, x :: xs, h, _ => h.elim
  | some lo, b, x :: xs, ⟨h1, h3, h4⟩, q => by
    have h3' := h3
    rw [← h1] at h3'
    have q1 := q x List.mem_cons_self h3' (fun l e => by cases e; omega)
    rw [h1] at q1
    rw [List.flatMap_cons]
    refine Chn.append ?_ q1
    refine Chn.flatMap h4 fun y hy ho hl => q y (List.mem_cons_of_mem _ hy) ho fun l e => ?_
    cases e
    cases hx : (iv x).2 with
    | none =>
      rw [hx] at h4
      rw [h4.none.1] at hy
      cases hy
    | some e =>
      rw [hx] at h3
      have := okHL_some.mp h3
      have := hl e hx
      omega
theorem Chn.map {α β : Type} {iv : α → Int × Option Int} {jv : β → Int × Option Int} {f : α → β} (hf : ∀ x, jv (f x) = iv x) : ∀ {a b : Option Int} {xs : List α}, Chn iv a b xs → Chn jv a b (xs.map f)
  | a, b, [], h => h
  | Option.none, b, x :: xs, h => h.elim
  | some lo, b, x :: xs, ⟨h1, h3, h4⟩ => ⟨by rw [hf]; exact h1, by rw [hf]; exact h3, by rw [hf]; exact Chn.map hf h4⟩
/-- the starts lie at or behind the begin, and stretches are not empty -/
theorem Chn.mem {α : Type} {iv : α → Int × Option Int} : ∀ {lo : Int} {b : Option Int} {xs : List α}, Chn iv (some lo) b xs → ∀ x ∈ xs, lo ≤ (iv x).1 ∧ okHL (iv x).1 (iv x).2 = true
  | lo, b, [], h, x, hx => by cases hx
  | lo, b, y :: xs, ⟨h1, h3, h4⟩, x, hx => by
    rcases List.mem_cons.mp hx with rfl | hx
    · rw [h1]
      exact ⟨Int.le_refl _, h3⟩
    · cases hy : (iv y).2 with
      | none => rw [hy] at h4; rw [h4.none.1] at hx; cases hx
      | some e =>
        rw [hy] at h3 h4
        have := okHL_some.mp h3
        have h5 := Chn.mem h4 x hx
        exact ⟨by omega, h5.2⟩
theorem Chn.find {α : Type} {iv : α → Int × Option Int} : ∀ {lo m : Int} {xs : List α}, Chn iv (some lo) Option.none xs → lo ≤ m → ∃ x ∈ xs, inS (iv x).1 (iv x).2 m
  | lo, m, [], h, _ => by cases h
  | lo, m, x :: xs, ⟨h1, h3, h4⟩, hm => by
    cases hx : (iv x).2 with
    | none => exact ⟨x, List.mem_cons_self, by omega, fun y e => by rw [hx] at e; cases e⟩
    | some e =>
      by_cases hme : m < e
      · exact ⟨x, List.mem_cons_self, by omega, fun y e' => by rw [hx] at e'; cases e'; exact hme⟩
      · rw [hx] at h4
        obtain ⟨y, hy, hi⟩ := Chn.find h4 (by omega : e ≤ m)
        exact ⟨y, List.mem_cons_of_mem _ hy, hi⟩
theorem inS_start {s : Int} {e : Option Int} (h : okHL s e = true) : inS s e s := ⟨Int.le_refl _, fun x hx => by subst hx; exact okHL_some.mp h⟩
theorem Chn.le_end {α : Type} {iv : α → Int × Option Int} : ∀ {lo e : Int} {xs : List α}, Chn iv (some lo) (some e) xs → lo ≤ e
  | lo, e, [], h => by cases h; omega
  | lo, e, x :: xs, ⟨h1, h3, h4⟩ => by
    cases hx : (iv x).2 with
    | none => rw [hx] at h4; cases h4.none.2
    | some f =>
      rw [hx] at h3 h4
      have := okHL_some.mp h3
      have := Chn.le_end h4
      omega
/-! clipping a chain by a window -/
theorem le_some (y : Option Int) (h : Int) : ∃ z, leastEnd y (some h) = some z ∧ z ≤ h ∧ (∀ u, y = some u → z ≤ u) ∧ (z = h ∨ y = some z) := by
  cases y with
  | none => exact ⟨h, rfl, Int.le_refl _, fun u e => (by cases e), .inl rfl⟩
  | some u =>
    refine ⟨min u h, rfl, by omega, fun v e => (by cases e; omega), ?_⟩
    by_cases q : u ≤ h
    · exact .inr (by rw [Int.min_eq_left q])
    · exact .inl (by omega)
theorem le_comm (x y : Option Int) : leastEnd x y = leastEnd y x := by
  cases x <;> cases y <;> simp [leastEnd, Int.min_comm]
theorem inS_clip {x s m : Int} {y e : Option Int} (h : inS (max x s) (leastEnd y e) m) : inS x y m ∧ inS s e m := by
  obtain ⟨h1, h2⟩ := h
  refine ⟨⟨by omega, fun u hu => ?_⟩, ⟨by omega, fun u hu => ?_⟩⟩
  · subst hu
    cases e with
    | none => exact h2 u rfl
    | some v => have := h2 (min u v) rfl; omega
  · subst hu
    cases y with
    | none => exact h2 u rfl
    | some v => have := h2 (min v u) rfl; omega
theorem clip_chain {α β : Type} {iv : α → Int × Option Int} {jv : β → Int × Option Int} (x : Int) (y : Option Int) (hxy : okHL x y = true) (f : α → List β) (b : Option Int) :
    ∀ {lo : Int} {ts : List α}, (∀ t ∈ ts, if okHL (max x (iv t).1) (leastEnd y (iv t).2) = true then ∃ u, f t = [u] ∧ jv u = (max x (iv t).1, leastEnd y (iv t).2) else f t = []) → Chn iv (some lo) b ts →
      if okHL (max x lo) (leastEnd y b) = true then Chn jv (some (max x lo)) (leastEnd y b) (ts.flatMap f) else ts.flatMap f = []
  | lo, [], hf, h => by
    have h : some lo = b := h
    subst h
    obtain ⟨z, h1, h2, _, _⟩ := le_some y lo
    rw [if_neg (by rw [h1, okHL_some]; omega)]
    rfl
  | lo, t :: ts, hf, ⟨h1, h3, h4⟩ => by
    have hf1 := hf t List.mem_cons_self
    have hf2 : ∀ t ∈ ts, _ := fun t ht => hf t (List.mem_cons_of_mem _ ht)
    rw [List.flatMap_cons]
    cases ht : (iv t).2 with
    | none =>
      rw [ht] at h4
      obtain ⟨e1, e2⟩ := h4.none
      subst e1
      subst e2
      rw [ht, h1] at hf1
      split
      · rename_i hk
        rw [if_pos hk] at hf1
        obtain ⟨u, hu, hj⟩ := hf1
        rw [hu]
        refine ⟨by rw [hj], by rw [hj]; exact hk, ?_⟩
        rw [hj]
        rfl
      · rename_i hk
        rw [if_neg hk] at hf1
        rw [hf1]
        rfl
    | some h =>
      rw [ht] at h4 h3
      rw [ht, h1] at hf1
      have h3 := okHL_some.mp h3
      have ih := clip_chain (jv := jv) x y hxy f b hf2 h4
      have hb : ∀ e, b = some e → h ≤ e := fun e he => by subst he; exact h4.le_end
      have hxy' : ∀ u, y = some u → x < u := fun u hu => by subst hu; exact okHL_some.mp hxy
      obtain ⟨z, z1, z2, z3, z4⟩ := le_some y h
      rw [z1] at hf1
      by_cases hk : max x lo < z
      · rw [if_pos (okHL_some.mpr hk)] at hf1
        obtain ⟨u, hu, hj⟩ := hf1
        rw [hu]
        have hmx : max x h = h := by omega
        rw [hmx] at ih
        by_cases hk2 : okHL h (leastEnd y b) = true
        · rw [if_pos hk2] at ih
          have hz : z = h := by
            rcases z4 with e | e
            · exact e
            · rw [e] at hk2
              cases b with
              | none => have := okHL_some.mp hk2; omega
              | some e' => have := okHL_some.mp hk2; omega
          subst hz
          have hk3 : okHL (max x lo) (leastEnd y b) = true := by
            cases hle : leastEnd y b with
            | none => rfl
            | some e => rw [hle] at hk2; have := okHL_some.mp hk2; exact okHL_some.mpr (by omega)
          rw [if_pos hk3]
          refine ⟨by rw [hj], by rw [hj]; exact okHL_some.mpr hk, ?_⟩
          rw [hj]
          exact ih
        · rw [if_neg hk2] at ih
          rw [ih]
          have hle : leastEnd y b = some z := by
            cases b with
            | none =>
              cases y with
              | none => exact absurd rfl hk2
              | some u =>
                have : ¬ h < u := fun q => hk2 (okHL_some.mpr q)
                have := z3 u rfl
                show some u = some z
                rcases z4 with e | e
                · congr 1; omega
                · exact e
            | some e =>
              have hbe := hb e rfl
              obtain ⟨z', y1, y2, y3, y4⟩ := le_some y e
              rw [y1] at hk2 ⊢
              have : ¬ h < z' := fun q => hk2 (okHL_some.mpr q)
              congr 1
              rcases y4 with q | q
              · rcases z4 with q2 | q2
                · omega
                · have := y3 z q2; omega
              · rcases z4 with q2 | q2
                · have := z3 z' q; omega
                · rw [q] at q2; cases q2; rfl
          rw [hle, if_pos (okHL_some.mpr hk)]
          refine ⟨by rw [hj], by rw [hj]; exact okHL_some.mpr hk, ?_⟩
          rw [hj]
          rfl
      · rw [if_neg (fun q => hk (okHL_some.mp q))] at hf1
        rw [hf1, List.nil_append]
        by_cases hx : h ≤ x
        · rw [show max x lo = max x h by omega]
          exact ih
        · have hz : ∃ u, y = some u ∧ u ≤ max x lo := by
            rcases z4 with e | e
            · exact absurd (by omega) hk
            · exact ⟨z, e, by omega⟩
          obtain ⟨u, hu, hul⟩ := hz
          subst hu
          have no : ∀ w, max x lo ≤ w → ¬ okHL w (leastEnd (some u) b) = true := fun w hw => by
            cases b with
            | none => intro q; have := okHL_some.mp q; omega
            | some e => intro q; have := okHL_some.mp q; omega
          rw [if_neg (no _ (by omega))] at ih ⊢
          exact ih
/-! ### pieces that stand for values -/
abbrev iv4 (s : Str4) : Int × Option Int := (s.1, s.2.1)
abbrev iv6 (s : Str6) : Int × Option Int := (s.1, s.2.1)
abbrev ivG (s : Sg) : Int × Option Int := (s.1, s.2.1)
structure RepF (lo : Int) (ps : List Piece) (F : Int → Int) : Prop where
  ch : Chn iv4 (some lo) none (stretchesM ps)
  val : ∀ s ∈ stretchesM ps, ∀ m, inS s.1 s.2.1 m → s.2.2.1 + s.2.2.2 * m = F m
abbrev Rep (ps : List Piece) (F : Int → Int) : Prop := RepF 0 ps F
theorem chn_str {α : Type} {iv : α → Int × Option Int} (g : α → Piece) (hg : ∀ x, (g x).1 = (iv x).1) : ∀ {lo : Int} {xs : List α}, Chn iv (some lo) none xs → stretchesM (xs.map g) = xs.map fun x => ((iv x).1, (iv x).2, (g x).2.1, (g x).2.2)
  | lo, [], h => by cases h
  | lo, [x], ⟨h1, h3, h4⟩ => by
    have h4 : (iv x).2 = none := h4
    show [((g x).1, none, (g x).2.1, (g x).2.2)] = _
    rw [hg]
    simp [h4]
  | lo, x :: y :: r, ⟨h1, h3, h4⟩ => by
    cases hx : (iv x).2 with
    | none => rw [hx] at h4; exact h4.elim
    | some e =>
      rw [hx] at h4
      have ih := chn_str g hg h4
      obtain ⟨h5, _, _⟩ := h4
      show ((g x).1, some (g y).1, (g x).2.1, (g x).2.2) :: stretchesM ((y :: r).map g) = _
      rw [ih, hg, hg]
      simp [hx, h5]
theorem repF_of {α : Type} {iv : α → Int × Option Int} {lo : Int} {xs : List α} {F : Int → Int} (g : α → Piece) (hg : ∀ x, (g x).1 = (iv x).1) (h : Chn iv (some lo) none xs) (hv : ∀ x ∈ xs, ∀ m, inS (iv x).1 (iv x).2 m → (g x).2.1 + (g x).2.2 * m = F m) : RepF lo (xs.map g) F := by
  have e := chn_str g hg h
  refine ⟨?_, fun s hs => ?_⟩
  · rw [e]
    exact Chn.map (fun x => rfl) h
  · rw [e] at hs
    obtain ⟨x, hx, rfl⟩ := List.mem_map.mp hs
    exact hv x hx
theorem RepF.cong {lo : Int} {ps : List Piece} {F G : Int → Int} (h : RepF lo ps F) (hl : 0 ≤ lo) (e : ∀ m, 0 ≤ m → F m = G m) : RepF lo ps G := ⟨h.ch, fun s hs m hm => by
  rw [h.val s hs m hm]
  have q1 : lo ≤ s.1 := (h.ch.mem s hs).1
  have q2 := hm.1
  exact e m (by omega)⟩
theorem str_back : ∀ ps : List Piece, ps = (stretchesM ps).map fun s => (s.1, s.2.2)
  | [] => rfl
  | [p] => rfl
  | p :: q :: r => by
    show _ = p :: (stretchesM (q :: r)).map _
    rw [← str_back (q :: r)]
/-! joined -/
def joinF : Piece → List Piece → List Piece
  | q, [] => [q]
  | q, p :: ps => if q.2 = p.2 then joinF q ps else q :: joinF p ps
theorem joinF_hd : ∀ (q : Piece) (ps : List Piece), ∃ r, joinF q ps = q :: r
  | q, [] => ⟨_, rfl⟩
  | q, p :: ps => by
    unfold joinF
    split
    · exact joinF_hd q ps
    · exact ⟨_, rfl⟩
theorem joinF_eq : ∀ (ps found : List Piece) (q : Piece), ps.foldl joinStep (found ++ [q]) = found ++ joinF q ps
  | [], found, q => rfl
  | p :: ps, found, q => by
    rw [List.foldl_cons]
    unfold joinStep joinF
    rw [List.getLast?_concat]
    show List.foldl joinStep (if q.2 = p.2 then found ++ [q] else found ++ [q] ++ [p]) ps = _
    split
    · exact joinF_eq ps found q
    · rw [joinF_eq ps (found ++ [q]) p]
      simp
theorem joined_cons (p : Piece) (ps : List Piece) : joinedM (p :: ps) = joinF p ps := joinF_eq ps [] p
theorem joinF_rep {F : Int → Int} : ∀ (ps : List Piece) (q : Piece) (lo : Int), RepF lo (q :: ps) F → RepF lo (joinF q ps) F
  | [], q, lo, h => h
  | p :: ps, q, lo, h => by
    obtain ⟨⟨h1, h2, h3⟩, h4⟩ := h
    have h1 : q.1 = lo := h1
    have h2 : q.1 < p.1 := by rw [h1]; exact okHL_some.mp h2
    have h3 : Chn iv4 (some p.1) none (stretchesM (p :: ps)) := h3
    have hq : ∀ m, q.1 ≤ m → m < p.1 → q.2.1 + q.2.2 * m = F m := fun m m1 m2 => h4 (q.1, some p.1, q.2.1, q.2.2) List.mem_cons_self m ⟨m1, fun x e => by cases e; exact m2⟩
    have h5 : RepF p.1 (p :: ps) F := ⟨h3, fun s hs => h4 s (List.mem_cons_of_mem _ hs)⟩
    unfold joinF
    split
    · rename_i he
      refine joinF_rep ps q lo ?_
      cases ps with
      | nil =>
        refine ⟨⟨h1, rfl, rfl⟩, fun s hs m hm => ?_⟩
        rw [show s = (q.1, none, q.2.1, q.2.2) from List.mem_singleton.mp hs] at hm ⊢
        by_cases hmp : m < p.1
        · exact hq m hm.1 hmp
        · show q.2.1 + q.2.2 * m = F m
          rw [he]
          exact h5.val (p.1, none, p.2.1, p.2.2) List.mem_cons_self m ⟨by omega, fun x e => by cases e⟩
      | cons r rs =>
        obtain ⟨_, k2, k3⟩ := h3
        have k2 : p.1 < r.1 := okHL_some.mp k2
        refine ⟨⟨h1, okHL_some.mpr (by omega), k3⟩, fun s hs m hm => ?_⟩
        rcases List.mem_cons.mp hs with rfl | hs
        · by_cases hmp : m < p.1
          · exact hq m hm.1 hmp
          · show q.2.1 + q.2.2 * m = F m
            rw [he]
            exact h5.val (p.1, some r.1, p.2.1, p.2.2) List.mem_cons_self m ⟨by omega, hm.2⟩
        · exact h5.val s (List.mem_cons_of_mem _ hs) m hm
    · obtain ⟨k1, k2⟩ := joinF_rep ps p p.1 h5
      obtain ⟨r, hr⟩ := joinF_hd p ps
      rw [hr] at k1 k2 ⊢
      refine ⟨⟨h1, okHL_some.mpr (by omega), k1⟩, fun s hs m hm => ?_⟩
      rcases List.mem_cons.mp hs with rfl | hs
      · exact hq m hm.1 (hm.2 _ rfl)
      · exact k2 s hs m hm
theorem RepF.joined {lo : Int} {ps : List Piece} {F : Int → Int} (h : RepF lo ps F) : RepF lo (joinedM ps) F := by
  cases ps with
  | nil => exact h
  | cons p ps => rw [joined_cons]; exact joinF_rep ps p lo h
/-! overlaid -/
theorem over_chain {xs ys : List Piece} {F G : Int → Int} (hx : Rep xs F) (hy : Rep ys G) : Chn iv6 (some 0) none (overlaidM xs ys) ∧ ∀ u ∈ overlaidM xs ys, ∀ m, inS u.1 u.2.1 m → u.2.2.1 + u.2.2.2.1 * m = F m ∧ u.2.2.2.2.1 + u.2.2.2.2.2 * m = G m := by
  refine ⟨?_, fun u hu m hm => ?_⟩
  · unfold overlaidM
    refine Chn.flatMap hx.ch fun s hs ho hl => ?_
    have h0 : 0 ≤ s.1 := hl 0 rfl
    have h := clip_chain (iv := iv4) (jv := iv6) s.1 s.2.1 ho (over1 s) none (lo := 0) (ts := stretchesM ys) (fun t _ => by
      unfold over1
      split
      · exact ⟨_, rfl, rfl⟩
      · rfl) hy.ch
    have e1 : max s.1 0 = s.1 := by omega
    have e2 : leastEnd s.2.1 none = s.2.1 := by cases s.2.1 <;> rfl
    rw [e1, e2, if_pos ho] at h
    exact h
  · unfold overlaidM at hu
    obtain ⟨s, hs, hu⟩ := List.mem_flatMap.mp hu
    obtain ⟨t, ht, hu⟩ := List.mem_flatMap.mp hu
    unfold over1 at hu
    split at hu
    · rw [List.mem_singleton.mp hu] at hm ⊢
      obtain ⟨i1, i2⟩ := inS_clip hm
      exact ⟨hx.val s hs m i1, hy.val t ht m i2⟩
    · cases hu
/-! signed -/
def sgI (x : Int) : Int := b2i (decide (0 < x)) - b2i (decide (x < 0))
theorem sgI_pos {x : Int} (h : 0 < x) : sgI x = 1 := by unfold sgI; rw [decide_eq_true h, decide_eq_false (by omega)]; rfl
theorem sgI_neg {x : Int} (h : x < 0) : sgI x = -1 := by unfold sgI; rw [decide_eq_true h, decide_eq_false (by omega)]; rfl
theorem sgI_zero : sgI 0 = 0 := by decide
theorem sgI_eq0 {x : Int} : sgI x = 0 ↔ x = 0 := by
  rcases Int.lt_trichotomy x 0 with h | h | h
  · rw [sgI_neg h]; omega
  · rw [h]; exact ⟨fun _ => rfl, fun _ => sgI_zero⟩
  · rw [sgI_pos h]; omega
theorem sgn_sq (b : Int) (h : b ≠ 0) : 0 < b * sgn b := by
  unfold sgn
  split <;> omega
theorem sgn_mul (b x : Int) : sgI (x * sgn b) = sgI x * sgn b := by
  unfold sgn
  split
  · rw [Int.mul_one, Int.mul_one]
  · rw [Int.mul_neg, Int.mul_neg, Int.mul_one, Int.mul_one]
    rcases Int.lt_trichotomy x 0 with h | h | h
    · rw [sgI_neg h, sgI_pos (by omega)]; rfl
    · rw [h]; rfl
    · rw [sgI_pos h, sgI_neg (by omega)]
theorem sgn_one (b : Int) : sgn b = 1 ∨ sgn b = -1 := by unfold sgn; split <;> simp
theorem root_lo {A B m : Int} (hB : 0 < B) : (m < 0 - A / B → A + B * m < 0) ∧ (0 - A / B ≤ m → 0 ≤ A + B * m) := by
  have h1 := Int.emod_add_mul_ediv A B
  have h2 := Int.emod_nonneg A (show B ≠ 0 by omega)
  have h3 := Int.emod_lt_of_pos A hB
  refine ⟨fun h => ?_, fun h => ?_⟩
  · have := Int.mul_le_mul_of_nonneg_left (show m ≤ - (A / B) - 1 by omega) (Int.le_of_lt hB)
    rw [Int.mul_sub, Int.mul_neg, Int.mul_one] at this
    omega
  · have := Int.mul_le_mul_of_nonneg_left (show - (A / B) ≤ m by omega) (Int.le_of_lt hB)
    rw [Int.mul_neg] at this
    omega
theorem root_hi {A B m : Int} (hB : 0 < B) : (m < (0 - A) / B + 1 → A + B * m ≤ 0) ∧ ((0 - A) / B + 1 ≤ m → 0 < A + B * m) := by
  have h1 := Int.emod_add_mul_ediv (0 - A) B
  have h2 := Int.emod_nonneg (0 - A) (show B ≠ 0 by omega)
  have h3 := Int.emod_lt_of_pos (0 - A) hB
  refine ⟨fun h => ?_, fun h => ?_⟩
  · have := Int.mul_le_mul_of_nonneg_left (show m ≤ (0 - A) / B by omega) (Int.le_of_lt hB)
    omega
  · have := Int.mul_le_mul_of_nonneg_left (show (0 - A) / B + 1 ≤ m by omega) (Int.le_of_lt hB)
    rw [Int.mul_add, Int.mul_one] at this
    omega
theorem root_ord (A B : Int) (hB : 0 < B) : 0 - A / B ≤ (0 - A) / B + 1 := by
  have h1 := (root_lo (A := A) (B := B) (m := 0 - A / B) hB).2 (Int.le_refl _)
  by_cases h : 0 - A / B ≤ (0 - A) / B + 1
  · exact h
  · have h2 := (root_lo (A := A) (B := B) (m := 0 - A / B - 1) hB).1 (by omega)
    have h3 := (root_hi (A := A) (B := B) (m := 0 - A / B - 1) hB).2 (by omega)
    omega
theorem clip_head {s at_ : Int} {e : Option Int} {w : Int} : clip s e (s, some at_, w) = clip s e (min s at_ - 1, some at_, w) := by
  unfold clip
  show (if okHL (max s s) _ = true then [(max s s, _)] else []) = (if okHL (max s (min s at_ - 1)) _ = true then [(max s (min s at_ - 1), _)] else [])
  rw [show max s s = s by omega, show max s (min s at_ - 1) = s by omega]
theorem clip_empty {s at_ : Int} {e : Option Int} {w : Int} : clip s e (at_, some at_, w) = [] := by
  unfold clip
  show (if okHL (max s at_) (leastEnd (some at_) e) = true then _ else []) = []
  rw [if_neg]
  rw [le_comm]
  obtain ⟨z, h1, h2, _, _⟩ := le_some e at_
  rw [h1, okHL_some]
  omega
theorem clip_spec (s : Int) (e : Option Int) (g : Sg) : if okHL (max s g.1) (leastEnd e g.2.1) = true then ∃ u, clip s e g = [u] ∧ ivG u = (max s (ivG g).1, leastEnd e (ivG g).2) else clip s e g = [] := by
  unfold clip
  rw [le_comm g.2.1 e]
  split
  · exact ⟨_, rfl, rfl⟩
  · rfl
theorem signed_chain {s : Int} {e : Option Int} (a b : Int) (ho : okHL s e = true) : Chn ivG (some s) e (signedM s e a b) ∧ ∀ g ∈ signedM s e a b, ∀ m, inS g.1 g.2.1 m → g.2.2 = sgI (a + b * m) ∧ inS s e m := by
  unfold signedM
  by_cases hb : b = 0
  · rw [if_pos hb]
    refine ⟨⟨rfl, ho, rfl⟩, fun g hg m hm => ?_⟩
    rw [List.mem_singleton.mp hg] at hm ⊢
    refine ⟨?_, hm⟩
    rw [hb, Int.zero_mul, Int.add_zero]
    rfl
  · rw [if_neg hb]
    have hB := sgn_sq b hb
    have key : ∀ m, sgI (a * sgn b + b * sgn b * m) = sgI (a + b * m) * sgn b := fun m => by
      rw [← sgn_mul, Int.add_mul]
      congr 2
      rw [Int.mul_assoc, Int.mul_assoc, Int.mul_comm (sgn b) m]
    have so := sgn_one b
    have lo := fun m => root_lo (A := a * sgn b) (m := m) hB
    have hi := fun m => root_hi (A := a * sgn b) (m := m) hB
    have hord := root_ord (a * sgn b) (b * sgn b) hB
    generalize a * sgn b = A at key lo hi hord
    generalize b * sgn b = B at key lo hi hord hB
    generalize h1 : 0 - A / B = at_ at lo hord
    generalize h2 : (0 - A) / B + 1 = ab at hi hord
    clear h1 h2
    refine ⟨?_, fun g hg m hm => ?_⟩
    · have mk : ∀ (l : List Sg) (lo : Int), Chn ivG (some lo) none l → lo ≤ s → Chn ivG (some s) e (l.flatMap (clip s e)) := fun l lo hl hlo => by
        have h := clip_chain (iv := ivG) (jv := ivG) s e ho (clip s e) none (fun t _ => clip_spec s e t) hl
        have e1 : max s lo = s := by omega
        have e2 : leastEnd e none = e := by cases e <;> rfl
        rw [e1, e2, if_pos ho] at h
        exact h
      rw [List.flatMap_cons, clip_head]
      by_cases hz : at_ = ab
      · subst hz
        rw [List.flatMap_cons, clip_empty, List.nil_append]
        have h := mk [(min s at_ - 1, some at_, 0 - sgn b), (at_, none, sgn b)] (min s at_ - 1) ⟨rfl, okHL_some.mpr (by omega), rfl, rfl, rfl⟩ (by omega)
        rw [List.flatMap_cons] at h
        exact h
      · have h := mk [(min s at_ - 1, some at_, 0 - sgn b), (at_, some ab, 0), (ab, none, sgn b)] (min s at_ - 1) ⟨rfl, okHL_some.mpr (by omega), rfl, okHL_some.mpr (by omega), rfl, rfl, rfl⟩ (by omega)
        rw [List.flatMap_cons] at h
        exact h
    · obtain ⟨t, ht, hg⟩ := List.mem_flatMap.mp hg
      unfold clip at hg
      split at hg
      · rw [List.mem_singleton.mp hg] at hm ⊢
        rw [le_comm] at hm
        obtain ⟨i1, i2⟩ := inS_clip hm
        refine ⟨?_, i1⟩
        have kk := key m
        simp only [List.mem_cons, List.not_mem_nil, or_false] at ht
        rcases ht with rfl | rfl | rfl
        · have := (lo m).1 (i2.2 _ rfl)
          rw [sgI_neg this] at kk
          show 0 - sgn b = _
          rcases so with q | q <;> rw [q] at kk ⊢ <;> omega
        · have q1 := (lo m).2 i2.1
          have q2 := (hi m).1 (i2.2 _ rfl)
          have q3 : A + B * m = 0 := by omega
          rw [q3, sgI_zero] at kk
          show (0 : Int) = _
          rcases so with q | q <;> rw [q] at kk <;> omega
        · have := (hi m).2 i2.1
          rw [sgI_pos this] at kk
          show sgn b = _
          rcases so with q | q <;> rw [q] at kk ⊢ <;> omega
      · cases hg
end Ms
set_option linter.all false
namespace Ms
/-! ### operators on pieces -/
def opV : Op → Int → Int → Int
  | .or, x, y => if x = 0 then y else x
  | .and, x, y => if x = 0 then 0 else y
  | .add, x, y => x + y
  | .sub, x, y => x - y
  | .mul, x, y => x * y
  | .div, x, y => x / y
  | .mod, x, y => x % y
  | o, x, y => b2i (cmpM o x y)
theorem valM_bin (o : Op) (a b : Tr) (n : Int) : valM (.bin o a b) n = opV o (valM a n) (valM b n) := by cases o <;> rfl
def isCmpO : Op → Bool
  | .eq | .ne | .lt | .gt | .le | .ge => true
  | _ => false
theorem signs_cmp (o : Op) (h : isCmpO o = true) (x y : Int) : signsOf o (sgI (x - y)) = cmpM o x y := by
  rcases Int.lt_trichotomy (x - y) 0 with q | q | q
  · rw [sgI_neg q]
    cases o <;> first | (cases h; done) | (simp only [signsOf, cmpM]; first | rw [decide_eq_false (show ¬ x = y by omega)] | rw [decide_eq_true (show x < y by omega)] | rw [decide_eq_false (show ¬ y < x by omega)]) <;> rfl
  · rw [q, sgI_zero]
    cases o <;> first | (cases h; done) | (simp only [signsOf, cmpM]; first | rw [decide_eq_true (show x = y by omega)] | rw [decide_eq_false (show ¬ x < y by omega)] | rw [decide_eq_false (show ¬ y < x by omega)]) <;> rfl
  · rw [sgI_pos q]
    cases o <;> first | (cases h; done) | (simp only [signsOf, cmpM]; first | rw [decide_eq_false (show ¬ x = y by omega)] | rw [decide_eq_false (show ¬ x < y by omega)] | rw [decide_eq_true (show y < x by omega)]) <;> rfl
/-- the parts of a combined stretch, as stretches -/
def combS (o : Op) (x : Str6) : List Str4 := match o, x with
  | .add, (start, e, a, b, c, d) => [(start, e, a + 1 * c, b + 1 * d)]
  | .sub, (start, e, a, b, c, d) => [(start, e, a + -1 * c, b + -1 * d)]
  | .mul, (start, e, a, b, c, d) => [(start, e, a * c, a * d + b * c)]
  | .and, (start, e, a, b, c, d) => (signedM start e a b).map fun g => (g.1, g.2.1, if g.2.2 = 0 then (a, b) else (c, d))
  | .or, (start, e, a, b, c, d) => (signedM start e a b).map fun g => (g.1, g.2.1, if g.2.2 = 0 then (c, d) else (a, b))
  | o, (start, e, a, b, c, d) => (signedM start e (a - c) (b - d)).map fun g => (g.1, g.2.1, b2i (signsOf o g.2.2), 0)
def toP (s : Str4) : Piece := (s.1, s.2.2)
theorem comb1_eq (o : Op) (x : Str6) : comb1 o x = (combS o x).map toP := by
  obtain ⟨start, e, a, b, c, d⟩ := x
  cases o <;> simp only [comb1, combS, List.map_map, List.map_cons, List.map_nil] <;> try rfl
  · refine List.map_congr_left fun g _ => ?_
    show (if g.2.2 = 0 then _ else _) = (g.1, if g.2.2 = 0 then _ else _)
    split <;> rfl
  · refine List.map_congr_left fun g _ => ?_
    show (if g.2.2 = 0 then _ else _) = (g.1, if g.2.2 = 0 then _ else _)
    split <;> rfl
theorem flatMap_map' {α β γ : Type} (f : α → List β) (g : β → γ) (xs : List α) : (xs.flatMap fun x => (f x).map g) = (xs.flatMap f).map g := by
  induction xs with
  | nil => rfl
  | cons x xs ih => rw [List.flatMap_cons, List.flatMap_cons, List.map_append, ih]
theorem combS_ok (o : Op) (hd : o ≠ .div) (hm : o ≠ .mod) (x : Str6) (ho : okHL x.1 x.2.1 = true) (F G : Int → Int) (hv : ∀ m, inS x.1 x.2.1 m → x.2.2.1 + x.2.2.2.1 * m = F m ∧ x.2.2.2.2.1 + x.2.2.2.2.2 * m = G m)
    (hz : o = .mul → x.2.2.2.1 = 0 ∨ x.2.2.2.2.2 = 0) : Chn iv4 (some x.1) x.2.1 (combS o x) ∧ ∀ s ∈ combS o x, ∀ m, inS s.1 s.2.1 m → s.2.2.1 + s.2.2.2 * m = opV o (F m) (G m) := by
  obtain ⟨start, e, a, b, c, d⟩ := x
  have one : ∀ (p q : Int), (∀ m, inS start e m → p + q * m = opV o (F m) (G m)) → Chn iv4 (some start) e [(start, e, p, q)] ∧ ∀ s ∈ [((start, e, p, q) : Str4)], ∀ m, inS s.1 s.2.1 m → s.2.2.1 + s.2.2.2 * m = opV o (F m) (G m) := fun p q h =>
    ⟨⟨rfl, ho, rfl⟩, fun s hs m hm => by rw [List.mem_singleton.mp hs] at hm ⊢; exact h m hm⟩
  have mny : ∀ (p q : Int) (f : Sg → Int × Int), (∀ m, inS start e m → ∀ g : Sg, g.2.2 = sgI (p + q * m) → (f g).1 + (f g).2 * m = opV o (F m) (G m)) → Chn iv4 (some start) e ((signedM start e p q).map fun g => (g.1, g.2.1, f g)) ∧ ∀ s ∈ ((signedM start e p q).map fun g => ((g.1, g.2.1, f g) : Str4)), ∀ m, inS s.1 s.2.1 m → s.2.2.1 + s.2.2.2 * m = opV o (F m) (G m) := fun p q f h => by
    obtain ⟨h1, h2⟩ := signed_chain p q ho
    refine ⟨Chn.map (fun x => rfl) h1, fun s hs m hm => ?_⟩
    obtain ⟨g, hg, rfl⟩ := List.mem_map.mp hs
    obtain ⟨k1, k2⟩ := h2 g hg m hm
    exact h m k2 g k1
  have hv : ∀ m, inS start e m → a + b * m = F m ∧ c + d * m = G m := hv
  have cmp : isCmpO o = true → Chn iv4 (some start) e ((signedM start e (a - c) (b - d)).map fun g => (g.1, g.2.1, b2i (signsOf o g.2.2), 0)) ∧ ∀ s ∈ ((signedM start e (a - c) (b - d)).map fun g => ((g.1, g.2.1, b2i (signsOf o g.2.2), 0) : Str4)), ∀ m, inS s.1 s.2.1 m → s.2.2.1 + s.2.2.2 * m = opV o (F m) (G m) := fun hc =>
    mny (a - c) (b - d) (fun g => (b2i (signsOf o g.2.2), 0)) fun m hm g hg => by
      obtain ⟨v1, v2⟩ := hv m hm
      have e2 : a - c + (b - d) * m = F m - G m := by rw [Int.sub_mul]; omega
      rw [e2] at hg
      show b2i (signsOf o g.2.2) + 0 * m = _
      rw [hg, signs_cmp o hc]
      cases o <;> first | (cases hc; done) | (simp only [opV]; omega)
  cases o with
  | div => exact absurd rfl hd
  | mod => exact absurd rfl hm
  | add =>
    exact one _ _ fun m hm => by
      obtain ⟨v1, v2⟩ := hv m hm
      show a + 1 * c + (b + 1 * d) * m = F m + G m
      rw [Int.one_mul, Int.one_mul, Int.add_mul]
      omega
  | sub =>
    exact one _ _ fun m hm => by
      obtain ⟨v1, v2⟩ := hv m hm
      show a + -1 * c + (b + -1 * d) * m = F m - G m
      rw [Int.neg_mul, Int.one_mul, Int.neg_mul, Int.one_mul, Int.add_mul, Int.neg_mul]
      omega
  | mul =>
    exact one _ _ fun m hm => by
      obtain ⟨v1, v2⟩ := hv m hm
      show a * c + (a * d + b * c) * m = F m * G m
      rw [← v1, ← v2, Int.add_mul, Int.mul_add, Int.add_mul, Int.add_mul]
      have hz : b = 0 ∨ d = 0 := hz rfl
      rcases hz with rfl | rfl
      · simp [Int.mul_assoc]
      · simp [Int.mul_assoc, Int.mul_comm m c]
  | and =>
    exact mny a b (fun g => if g.2.2 = 0 then (a, b) else (c, d)) fun m hm g hg => by
      obtain ⟨v1, v2⟩ := hv m hm
      rw [v1] at hg
      show _ = (if F m = 0 then 0 else G m)
      by_cases hF : F m = 0
      · rw [hF, sgI_zero] at hg
        rw [if_pos hg, if_pos hF, v1, hF]
      · rw [if_neg (by rw [hg]; exact fun q => hF (sgI_eq0.mp q)), if_neg hF, v2]
  | or =>
    exact mny a b (fun g => if g.2.2 = 0 then (c, d) else (a, b)) fun m hm g hg => by
      obtain ⟨v1, v2⟩ := hv m hm
      rw [v1] at hg
      show _ = (if F m = 0 then G m else F m)
      by_cases hF : F m = 0
      · rw [hF, sgI_zero] at hg
        rw [if_pos hg, if_pos hF, v2]
      · rw [if_neg (by rw [hg]; exact fun q => hF (sgI_eq0.mp q)), if_neg hF, v1]
  | _ => exact cmp rfl
theorem combined_rep {o : Op} (hd : o ≠ .div) (hm : o ≠ .mod) {xs ys : List Piece} {F G : Int → Int} (hx : Rep xs F) (hy : Rep ys G)
    (hz : o = .mul → (∀ p ∈ xs, p.2.2 = 0) ∨ ∀ p ∈ ys, p.2.2 = 0) : Rep (combinedM o xs ys) fun m => opV o (F m) (G m) := by
  obtain ⟨h1, h2⟩ := over_chain hx hy
  have hz2 : o = .mul → ∀ u ∈ overlaidM xs ys, u.2.2.2.1 = 0 ∨ u.2.2.2.2.2 = 0 := fun ho u hu => by
    unfold overlaidM at hu
    obtain ⟨s, hs, hu⟩ := List.mem_flatMap.mp hu
    obtain ⟨t, ht, hu⟩ := List.mem_flatMap.mp hu
    unfold over1 at hu
    split at hu
    · rw [List.mem_singleton.mp hu]
      have is : toP s ∈ xs := by rw [str_back xs]; exact List.mem_map.mpr ⟨s, hs, rfl⟩
      have it : toP t ∈ ys := by rw [str_back ys]; exact List.mem_map.mpr ⟨t, ht, rfl⟩
      rcases hz ho with h | h
      · exact .inl (h (toP s) is)
      · exact .inr (h (toP t) it)
    · cases hu
  unfold combinedM
  refine RepF.joined ?_
  rw [show comb1 o = fun x => (combS o x).map toP from funext (comb1_eq o), flatMap_map']
  refine repF_of (iv := iv4) toP (fun x => rfl) (Chn.flatMap h1 fun u hu ho _ => ?_) fun s hs m hi => ?_
  · exact (combS_ok o hd hm u ho F G (h2 u hu) fun e => hz2 e u hu).1
  · obtain ⟨u, hu, hs⟩ := List.mem_flatMap.mp hs
    exact (combS_ok o hd hm u (h1.mem u hu).2 F G (h2 u hu) fun e => hz2 e u hu).2 s hs m hi
theorem refused_rep {xs : List Piece} {F : Int → Int} (hx : Rep xs F) : Rep (refusedM xs) fun m => b2i (decide (F m = 0)) := by
  unfold refusedM
  refine RepF.joined ?_
  have e : (fun s : Str4 => (signedM s.1 s.2.1 s.2.2.1 s.2.2.2).map fun g => ((g.1, b2i (decide (g.2.2 = 0)), 0) : Piece)) = fun s => ((signedM s.1 s.2.1 s.2.2.1 s.2.2.2).map fun g => ((g.1, g.2.1, b2i (decide (g.2.2 = 0)), 0) : Str4)).map toP := by
    funext s
    rw [List.map_map]
    rfl
  rw [e, flatMap_map']
  refine repF_of (iv := iv4) toP (fun x => rfl) (Chn.flatMap hx.ch fun u hu ho _ => ?_) fun s hs m hm => ?_
  · exact Chn.map (fun x => rfl) (signed_chain _ _ ho).1
  · obtain ⟨u, hu, hs⟩ := List.mem_flatMap.mp hs
    obtain ⟨g, hg, rfl⟩ := List.mem_map.mp hs
    obtain ⟨k1, k2⟩ := (signed_chain u.2.2.1 u.2.2.2 (hx.ch.mem u hu).2).2 g hg m hm
    rw [hx.val u hu m k2] at k1
    show b2i (decide (g.2.2 = 0)) + 0 * m = _
    rw [Int.zero_mul, Int.add_zero]
    congr 1
    refine decide_eq_decide.mpr ?_
    rw [k1]
    exact sgI_eq0
/-! widened -/
def clW (times shift x : Int) : Int := max 0 (0 - (shift - x) / times)
def wideS (times shift : Int) (s : Str4) : List Str4 :=
  if okHL (clW times shift s.1) (s.2.1.map (clW times shift)) then [(clW times shift s.1, s.2.1.map (clW times shift), s.2.2.1 + s.2.2.2 * shift, s.2.2.2 * times)] else []
theorem wide1_eq (times shift : Int) (s : Str4) : wide1 times shift s = (wideS times shift s).map toP := by
  show (if okHL (clW times shift s.1) (s.2.1.map (clW times shift)) = true then [_] else []) = (wideS times shift s).map toP
  unfold wideS
  split <;> rfl
theorem clW_mono {times shift x y : Int} (ht : 0 < times) (h : x ≤ y) : clW times shift x ≤ clW times shift y := by
  unfold clW
  have := Int.ediv_le_ediv ht (show shift - y ≤ shift - x by omega)
  omega
theorem clW_in {times shift x m : Int} (ht : 0 < times) (hm : 0 ≤ m) : clW times shift x ≤ m ↔ x ≤ shift + times * m := by
  unfold clW
  have h1 := Int.emod_add_mul_ediv (shift - x) times
  have h2 := Int.emod_nonneg (shift - x) (show times ≠ 0 by omega)
  have h3 := Int.emod_lt_of_pos (shift - x) ht
  refine ⟨fun h => ?_, fun h => ?_⟩
  · have := Int.mul_le_mul_of_nonneg_left (show - ((shift - x) / times) ≤ m by omega) (Int.le_of_lt ht)
    rw [Int.mul_neg] at this
    omega
  · by_cases q : - ((shift - x) / times) ≤ m
    · omega
    · have := Int.mul_le_mul_of_nonneg_left (show m + 1 ≤ - ((shift - x) / times) by omega) (Int.le_of_lt ht)
      rw [Int.mul_neg, Int.mul_add, Int.mul_one] at this
      omega
theorem wide_chain {times shift : Int} (ht : 0 < times) : ∀ {lo : Int} {b : Option Int} {xs : List Str4}, Chn iv4 (some lo) b xs → Chn iv4 (some (clW times shift lo)) (b.map (clW times shift)) (xs.flatMap (wideS times shift))
  | lo, b, [], h => by
    have h : some lo = b := h
    subst h
    rfl
  | lo, b, s :: xs, ⟨h1, h3, h4⟩ => by
    have h1 : s.1 = lo := h1
    have h3 : okHL lo s.2.1 = true := h3
    have h4 : Chn iv4 s.2.1 b xs := h4
    rw [List.flatMap_cons]
    unfold wideS
    cases hs : s.2.1 with
    | none =>
      rw [hs] at h4
      obtain ⟨e1, e2⟩ := h4.none
      subst e1
      subst e2
      rw [h1]
      exact ⟨rfl, rfl, rfl⟩
    | some e =>
      rw [hs] at h3 h4
      have h3 := okHL_some.mp h3
      have ih := wide_chain (shift := shift) ht h4
      have hm := clW_mono (shift := shift) ht (show lo ≤ e by omega)
      rw [h1]
      rw [Option.map_some]
      by_cases q : clW times shift lo < clW times shift e
      · rw [if_pos (okHL_some.mpr q)]
        exact ⟨rfl, okHL_some.mpr q, ih⟩
      · rw [if_neg (fun z => q (okHL_some.mp z)), List.nil_append, show clW times shift lo = clW times shift e by omega]
        exact ih
theorem widenedP_rep {times shift : Int} (ht : 0 < times) (hs : 0 ≤ shift) {ps : List Piece} {F : Int → Int} (h : Rep ps F) : Rep (widenedP times shift ps) fun m => F (shift + times * m) := by
  unfold widenedP
  refine RepF.joined ?_
  rw [show wide1 times shift = fun x => (wideS times shift x).map toP from funext (wide1_eq times shift), flatMap_map']
  have hc := wide_chain (times := times) (shift := shift) ht h.ch
  have h0 : clW times shift 0 = 0 := by
    have := (clW_in (times := times) (shift := shift) (x := 0) (m := 0) ht (Int.le_refl _)).mpr (by omega)
    have h2 : 0 ≤ clW times shift 0 := by unfold clW; omega
    omega
  rw [h0] at hc
  refine repF_of (iv := iv4) toP (fun x => rfl) hc fun s hs2 m hm => ?_
  have hmem := hc.mem s hs2
  obtain ⟨u, hu, hs2⟩ := List.mem_flatMap.mp hs2
  unfold wideS at hs2
  split at hs2
  · rw [List.mem_singleton.mp hs2] at hm hmem ⊢
    have hm0 : 0 ≤ m := by
      have q1 : 0 ≤ clW times shift u.1 := hmem.1
      have q2 : clW times shift u.1 ≤ m := hm.1
      omega
    have := h.val u hu (shift + times * m) ⟨(clW_in ht hm0).mp hm.1, fun e he => by
      have := hm.2 (clW times shift e) (by show u.2.1.map _ = _; rw [he]; rfl)
      by_cases q : e ≤ shift + times * m
      · have := (clW_in ht hm0).mpr q
        omega
      · omega⟩
    rw [← this]
    show u.2.2.1 + u.2.2.2 * shift + u.2.2.2 * times * m = _
    rw [Int.mul_add, Int.mul_assoc]
    omega
  · cases hs2
theorem joinF_sub : ∀ (ps : List Piece) (q : Piece), ∀ x ∈ joinF q ps, x ∈ q :: ps
  | [], q, x, h => h
  | p :: ps, q, x, h => by
    unfold joinF at h
    split at h
    · rcases List.mem_cons.mp (joinF_sub ps q x h) with h | h
      · exact List.mem_cons.mpr (.inl h)
      · exact List.mem_cons_of_mem _ (List.mem_cons_of_mem _ h)
    · rcases List.mem_cons.mp h with h | h
      · exact List.mem_cons.mpr (.inl h)
      · exact List.mem_cons_of_mem _ (joinF_sub ps p x h)
theorem joinM_sub {ps : List Piece} : ∀ x ∈ joinedM ps, x ∈ ps := by
  cases ps with
  | nil => exact fun x h => h
  | cons p ps => rw [joined_cons]; exact joinF_sub ps p
theorem widenedP_dvd (times shift : Int) (ps : List Piece) : ∀ p ∈ widenedP times shift ps, times ∣ p.2.2 := fun p hp => by
  unfold widenedP at hp
  have hp := joinM_sub p hp
  obtain ⟨s, hs, hp⟩ := List.mem_flatMap.mp hp
  unfold wide1 at hp
  split at hp
  · rw [List.mem_singleton.mp hp]
    exact Int.dvd_mul_left _ _
  · cases hp
theorem divided_rep {o : Op} {d : Int} (hd : 0 < d) {ps : List Piece} {F : Int → Int} (h : Rep ps F) (hs : ∀ p ∈ ps, d ∣ p.2.2) (ho : o = .div ∨ o = .mod) : Rep (dividedM o ps d) fun m => opV o (F m) d := by
  have hsl : ∀ s ∈ stretchesM ps, d ∣ s.2.2.2 := fun s hs2 => hs (toP s) (by rw [str_back ps]; exact List.mem_map.mpr ⟨s, hs2, rfl⟩)
  rcases ho with rfl | rfl
  · show RepF 0 (joinedM (ps.map fun p => (p.1, p.2.1 / d, p.2.2 / d))) _
    refine RepF.joined ?_
    rw [str_back ps, List.map_map]
    refine repF_of (iv := iv4) _ (fun x => rfl) h.ch fun s hs2 m hm => ?_
    obtain ⟨c, hc⟩ := hsl s hs2
    have hv := h.val s hs2 m hm
    show s.2.2.1 / d + s.2.2.2 / d * m = F m / d
    rw [← hv, hc, Int.mul_ediv_cancel_left _ (by omega), Int.mul_assoc, Int.add_mul_ediv_left _ _ (by omega)]
  · show RepF 0 (joinedM (ps.map fun p => (p.1, p.2.1 % d, 0))) _
    refine RepF.joined ?_
    rw [str_back ps, List.map_map]
    refine repF_of (iv := iv4) _ (fun x => rfl) h.ch fun s hs2 m hm => ?_
    obtain ⟨c, hc⟩ := hsl s hs2
    have hv := h.val s hs2 m hm
    show s.2.2.1 % d + 0 * m = F m % d
    rw [← hv, hc, Int.mul_assoc, Int.add_mul_emod_self_left]
    omega
end Ms
set_option linter.all false
namespace Ms
/-! ### choices -/
theorem Chn.findE {α : Type} {iv : α → Int × Option Int} : ∀ {lo m : Int} {b : Option Int} {xs : List α}, Chn iv (some lo) b xs → inS lo b m → ∃ x ∈ xs, inS (iv x).1 (iv x).2 m
  | lo, m, b, [], h, hm => by
    have h : some lo = b := h
    have := hm.2 lo h.symm
    have := hm.1
    omega
  | lo, m, b, x :: xs, ⟨h1, h3, h4⟩, hm => by
    cases hx : (iv x).2 with
    | none => exact ⟨x, List.mem_cons_self, by have := hm.1; omega, fun y e => by rw [hx] at e; cases e⟩
    | some e =>
      by_cases hme : m < e
      · exact ⟨x, List.mem_cons_self, by have := hm.1; omega, fun y e' => by rw [hx] at e'; cases e'; exact hme⟩
      · rw [hx] at h4
        obtain ⟨y, hy, hi⟩ := Chn.findE h4 ⟨(by omega : e ≤ m), hm.2⟩
        exact ⟨y, List.mem_cons_of_mem _ hy, hi⟩
theorem Chn.uniq {α : Type} {iv : α → Int × Option Int} : ∀ {lo m : Int} {b : Option Int} {xs : List α}, Chn iv (some lo) b xs → ∀ x ∈ xs, ∀ y ∈ xs, inS (iv x).1 (iv x).2 m → inS (iv y).1 (iv y).2 m → x = y
  | lo, m, b, [], h, x, hx, y, hy, h1, h2 => by cases hx
  | lo, m, b, z :: xs, ⟨h1, h3, h4⟩, x, hx, y, hy, i1, i2 => by
    have no : ∀ w ∈ xs, inS (iv z).1 (iv z).2 m → inS (iv w).1 (iv w).2 m → False := fun w hw j1 j2 => by
      cases hz : (iv z).2 with
      | none => rw [hz] at h4; rw [h4.none.1] at hw; cases hw
      | some e =>
        rw [hz] at h4
        have := (h4.mem w hw).1
        have := j1.2 e hz
        have := j2.1
        omega
    rcases List.mem_cons.mp hx with ex | hx1
    · rcases List.mem_cons.mp hy with ey | hy1
      · rw [ex, ey]
      · rw [ex] at i1
        exact (no y hy1 i1 i2).elim
    · rcases List.mem_cons.mp hy with ey | hy1
      · rw [ey] at i2
        exact (no x hx1 i2 i1).elim
      · cases hz : (iv z).2 with
        | none => rw [hz] at h4; rw [h4.none.1] at hx1; cases hx1
        | some e => rw [hz] at h4; exact Chn.uniq h4 x hx1 y hy1 i1 i2
theorem Chn.pair {α : Type} {iv : α → Int × Option Int} : ∀ {a b : Option Int} {xs : List α}, Chn iv a b xs → xs.Pairwise fun x y => (iv x).1 < (iv y).1
  | a, b, [], h => List.Pairwise.nil
  | Option.none, b, x :: xs, h => h.elim
  | some lo, b, x :: xs, ⟨h1, h3, h4⟩ => by
    refine List.Pairwise.cons (fun y hy => ?_) (Chn.pair h4)
    cases hz : (iv x).2 with
    | none => rw [hz] at h4; rw [h4.none.1] at hy; cases hy
    | some e =>
      rw [hz] at h4 h3
      have := (h4.mem y hy).1
      have := okHL_some.mp h3
      omega
theorem rep_sorted {cov : Piece → Int → Prop} {F : Int → Int} (ha : ∀ p m, cov p m → p.1 ≤ m ∧ p.2.1 + p.2.2 * m = F m) (hd : ∀ p k m, cov p m → p.1 ≤ k → k ≤ m → cov p k) :
    ∀ (ps : List Piece) (lo : Int), (∀ m, lo ≤ m → ∃ p ∈ ps, cov p m) → ps.Pairwise (fun p q => p.1 < q.1) → (∀ p ∈ ps, lo ≤ p.1) → (∀ p ∈ ps, cov p p.1) → (∀ p ∈ ps, ∀ q ∈ ps, ∀ m, cov p m → cov q m → p = q) → RepF lo ps F
  | [], lo, hb, _, _, _, _ => by
    obtain ⟨p, hp, _⟩ := hb lo (Int.le_refl _)
    cases hp
  | [p], lo, hb, hp, hl, hc, he => by
    have h1 : p.1 = lo := by
      obtain ⟨x, hx, h⟩ := hb lo (Int.le_refl _)
      rw [List.mem_singleton.mp hx] at h
      have := (ha _ _ h).1
      have := hl p List.mem_cons_self
      omega
    refine ⟨⟨h1, rfl, rfl⟩, fun s hs m hm => ?_⟩
    rw [List.mem_singleton.mp hs] at hm ⊢
    obtain ⟨x, hx, h⟩ := hb m (by have : p.1 ≤ m := hm.1; omega)
    rw [List.mem_singleton.mp hx] at h
    exact (ha _ _ h).2
  | p :: q :: r, lo, hb, hp, hl, hc, he => by
    obtain ⟨hp1, hp2⟩ := List.pairwise_cons.mp hp
    have hq1 := hp1 q List.mem_cons_self
    have min_ : ∀ x ∈ p :: q :: r, x.1 < q.1 → x = p := fun x hx hlt => by
      rcases List.mem_cons.mp hx with h | hx
      · exact h
      · rcases List.mem_cons.mp hx with h | hx
        · rw [h] at hlt; omega
        · have := (List.pairwise_cons.mp hp2).1 x hx
          omega
    have h1 : p.1 = lo := by
      obtain ⟨x, hx, h⟩ := hb lo (Int.le_refl _)
      have h2 := (ha _ _ h).1
      have h3 := hl p List.mem_cons_self
      rcases List.mem_cons.mp hx with rfl | hx
      · omega
      · have := hp1 x hx
        omega
    have ih := rep_sorted ha hd (q :: r) q.1 (fun m hm => by
      obtain ⟨x, hx, h⟩ := hb m (by omega)
      rcases List.mem_cons.mp hx with rfl | hx
      · have h2 := hd x q.1 m h (by omega) hm
        have h3 := he x List.mem_cons_self q (List.mem_cons_of_mem _ List.mem_cons_self) q.1 h2 (hc q (List.mem_cons_of_mem _ List.mem_cons_self))
        rw [h3] at hq1
        omega
      · exact ⟨x, hx, h⟩) hp2 (fun x hx => by
        rcases List.mem_cons.mp hx with rfl | hx
        · exact Int.le_refl _
        · have := (List.pairwise_cons.mp hp2).1 x hx
          omega) (fun x hx => hc x (List.mem_cons_of_mem _ hx)) (fun x hx y hy => he x (List.mem_cons_of_mem _ hx) y (List.mem_cons_of_mem _ hy))
    refine ⟨⟨h1, okHL_some.mpr (by rw [← h1]; exact hq1), ih.ch⟩, fun s hs m hm => ?_⟩
    rcases List.mem_cons.mp hs with rfl | hs
    · have m1 : p.1 ≤ m := hm.1
      have m2 : m < q.1 := hm.2 _ rfl
      obtain ⟨x, hx, h⟩ := hb m (by omega)
      have h2 := (ha _ _ h).1
      have e := min_ x hx (by omega)
      rw [e] at h
      exact (ha _ _ h).2
    · exact ih.val s hs m hm
abbrev Seg := Int × Option Int × Int × Int × Int
abbrev ivS (s : Seg) : Int × Option Int := (s.1, s.2.1)
def segs (x : Str6) : List Seg := (signedM x.1 x.2.1 x.2.2.1 x.2.2.2.1).map fun g => (g.1, g.2.1, g.2.2, x.2.2.2.2.1, x.2.2.2.2.2)
def segP (s : Seg) : Piece := (s.1, s.2.2.2.1, s.2.2.2.2)
def segW (want : Bool) (s : Seg) : Bool := decide (decide (s.2.2.1 = 0) = want)
theorem chose1_eq (want : Bool) (x : Str6) : chose1 want x = ((segs x).filter (segW want)).map segP := by
  obtain ⟨start, e, a, b, c, d⟩ := x
  unfold segs
  show ((signedM start e a b).flatMap fun g => if decide (g.2.2 = 0) = want then [((g.1, c, d) : Piece)] else []) = (((signedM start e a b).map fun g => ((g.1, g.2.1, g.2.2, c, d) : Seg)).filter (segW want)).map segP
  induction signedM start e a b with
  | nil => rfl
  | cons g gs ih =>
    rw [List.flatMap_cons, ih, List.map_cons, List.filter_cons]
    show (if decide (g.2.2 = 0) = want then _ else _) ++ _ = List.map segP (if segW want (g.1, g.2.1, g.2.2, c, d) = true then _ else _)
    by_cases h : decide (g.2.2 = 0) = want
    · rw [if_pos h, if_pos (show segW want (g.1, g.2.1, g.2.2, c, d) = true from decide_eq_true h)]
      rfl
    · rw [if_neg h, if_neg (show ¬ segW want (g.1, g.2.1, g.2.2, c, d) = true from fun q => h (of_decide_eq_true q))]
      rfl
theorem chose_all (want : Bool) (xs : List Str6) : xs.flatMap (chose1 want) = ((xs.flatMap segs).filter (segW want)).map segP := by
  induction xs with
  | nil => rfl
  | cons x xs ih => rw [List.flatMap_cons, List.flatMap_cons, List.filter_append, List.map_append, ih, chose1_eq]
theorem seg_chain {ts xs : List Piece} {T F : Int → Int} (ht : Rep ts T) (hx : Rep xs F) : Chn ivS (some 0) none ((overlaidM ts xs).flatMap segs) ∧ ∀ s ∈ (overlaidM ts xs).flatMap segs, ∀ m, inS s.1 s.2.1 m → s.2.2.1 = sgI (T m) ∧ s.2.2.2.1 + s.2.2.2.2 * m = F m := by
  obtain ⟨h1, h2⟩ := over_chain ht hx
  refine ⟨Chn.flatMap h1 fun u hu ho _ => Chn.map (fun x => rfl) (signed_chain _ _ ho).1, fun s hs m hm => ?_⟩
  obtain ⟨u, hu, hs⟩ := List.mem_flatMap.mp hs
  obtain ⟨g, hg, rfl⟩ := List.mem_map.mp hs
  obtain ⟨k1, k2⟩ := (signed_chain u.2.2.1 u.2.2.2.1 (h1.mem u hu).2).2 g hg m hm
  obtain ⟨k3, k4⟩ := h2 u hu m k2
  rw [k3] at k1
  exact ⟨k1, k4⟩
theorem Lp_pL (p : Piece) : Lp (pL p) = p := rfl
theorem leL_pL {p q : Piece} (h : leL (pL p) (pL q) = true) : p.1 ≤ q.1 := by
  have h : pL p ≤ pL q := of_decide_eq_true h
  rcases List.cons_le_cons_iff.mp h with h | h
  · omega
  · omega
theorem leL_total (x y : List Int) : (leL x y || leL y x) = true := by
  rcases List.le_total x y with h | h
  · rw [show leL x y = true from decide_eq_true h]; rfl
  · rw [show leL y x = true from decide_eq_true h]; exact Bool.or_true _
theorem leL_trans (x y z : List Int) (h1 : leL x y = true) (h2 : leL y z = true) : leL x z = true :=
  decide_eq_true (List.le_trans (of_decide_eq_true h1) (of_decide_eq_true h2))
theorem sortP_ok (ps : List Piece) : (sortP ps).Perm ps ∧ (sortP ps).Pairwise fun p q => p.1 ≤ q.1 := by
  have hp := List.mergeSort_perm (ps.map pL) leL
  have hs := List.pairwise_mergeSort leL_trans leL_total (ps.map pL)
  have back : ∀ l ∈ (ps.map pL).mergeSort leL, pL (Lp l) = l := fun l hl => by
    obtain ⟨p, _, rfl⟩ := List.mem_map.mp (hp.mem_iff.mp hl)
    rfl
  refine ⟨?_, ?_⟩
  · have := hp.map Lp
    rw [List.map_map] at this
    have e : (Lp ∘ pL) = id := rfl
    rw [e, List.map_id] at this
    exact this
  · unfold sortP
    refine List.pairwise_map.mpr (List.Pairwise.imp_of_mem (fun {a b} h1 h2 h => ?_) hs)
    rw [← back a h1, ← back b h2] at h
    exact leL_pL h
theorem chosen_rep {ts xs ys : List Piece} {T F G : Int → Int} (ht : Rep ts T) (hx : Rep xs F) (hy : Rep ys G) : Rep (chosenM ts xs ys) fun m => if T m = 0 then G m else F m := by
  unfold chosenM
  refine RepF.joined ?_
  rw [chose_all, chose_all, ← List.map_append]
  obtain ⟨a1, a2⟩ := seg_chain ht hx
  obtain ⟨b1, b2⟩ := seg_chain ht hy
  generalize (overlaidM ts xs).flatMap segs = A at a1 a2
  generalize (overlaidM ts ys).flatMap segs = B at b1 b2
  have wA : ∀ s ∈ A.filter (segW false), s ∈ A ∧ s.2.2.1 ≠ 0 := fun s hs => by
    obtain ⟨h1, h2⟩ := List.mem_filter.mp hs
    have h2 : decide (s.2.2.1 = 0) = false := of_decide_eq_true h2
    exact ⟨h1, of_decide_eq_false h2⟩
  have wB : ∀ s ∈ B.filter (segW true), s ∈ B ∧ s.2.2.1 = 0 := fun s hs => by
    obtain ⟨h1, h2⟩ := List.mem_filter.mp hs
    have h2 : decide (s.2.2.1 = 0) = true := of_decide_eq_true h2
    exact ⟨h1, of_decide_eq_true h2⟩
  have mA : ∀ s ∈ A, s.2.2.1 ≠ 0 → s ∈ A.filter (segW false) := fun s h1 h2 => List.mem_filter.mpr ⟨h1, decide_eq_true (decide_eq_false h2)⟩
  have mB : ∀ s ∈ B, s.2.2.1 = 0 → s ∈ B.filter (segW true) := fun s h1 h2 => List.mem_filter.mpr ⟨h1, decide_eq_true (decide_eq_true h2)⟩
  have pw : (A.filter (segW false) ++ B.filter (segW true)).Pairwise fun s t => s.1 ≠ t.1 := by
    refine List.pairwise_append.mpr ⟨(a1.pair.filter _).imp fun h => ?_, (b1.pair.filter _).imp fun h => ?_, fun s hs t ht2 e => ?_⟩
    · exact Int.ne_of_lt h
    · exact Int.ne_of_lt h
    · obtain ⟨s1, s2⟩ := wA s hs
      obtain ⟨t1, t2⟩ := wB t ht2
      have k1 := (a2 s s1 s.1 (inS_start (a1.mem s s1).2)).1
      have k2 := (b2 t t1 t.1 (inS_start (b1.mem t t1).2)).1
      rw [← e, t2] at k2
      rw [← k2] at k1
      exact s2 k1
  have facts : ∀ s ∈ A.filter (segW false) ++ B.filter (segW true), 0 ≤ s.1 ∧ okHL s.1 s.2.1 = true ∧ ∀ m, inS s.1 s.2.1 m → s.2.2.2.1 + s.2.2.2.2 * m = if T m = 0 then G m else F m := fun s hs => by
    rcases List.mem_append.mp hs with hs | hs
    · obtain ⟨s1, s2⟩ := wA s hs
      refine ⟨(a1.mem s s1).1, (a1.mem s s1).2, fun m hm => ?_⟩
      obtain ⟨k1, k2⟩ := a2 s s1 m hm
      rw [if_neg, k2]
      intro e
      rw [e] at k1
      exact s2 (k1.trans sgI_zero)
    · obtain ⟨s1, s2⟩ := wB s hs
      refine ⟨(b1.mem s s1).1, (b1.mem s s1).2, fun m hm => ?_⟩
      obtain ⟨k1, k2⟩ := b2 s s1 m hm
      rw [s2] at k1
      rw [if_pos (sgI_eq0.mp k1.symm), k2]
  have uq : ∀ s ∈ A.filter (segW false) ++ B.filter (segW true), ∀ t ∈ A.filter (segW false) ++ B.filter (segW true), ∀ m, inS s.1 s.2.1 m → inS t.1 t.2.1 m → s = t := fun s hs t ht2 m i1 i2 => by
    have cross : ∀ s t, s ∈ A.filter (segW false) → t ∈ B.filter (segW true) → inS s.1 s.2.1 m → inS t.1 t.2.1 m → False := fun s t hs ht2 i1 i2 => by
      obtain ⟨s1, s2⟩ := wA s hs
      obtain ⟨t1, t2⟩ := wB t ht2
      have k1 := (a2 s s1 m i1).1
      have k2 := (b2 t t1 m i2).1
      rw [t2] at k2
      rw [← k2] at k1
      exact s2 k1
    rcases List.mem_append.mp hs with hs | hs
    · rcases List.mem_append.mp ht2 with ht2 | ht2
      · exact a1.uniq s (wA s hs).1 t (wA t ht2).1 i1 i2
      · exact (cross s t hs ht2 i1 i2).elim
    · rcases List.mem_append.mp ht2 with ht2 | ht2
      · exact (cross t s ht2 hs i2 i1).elim
      · exact b1.uniq s (wB s hs).1 t (wB t ht2).1 i1 i2
  have cv : ∀ m, 0 ≤ m → ∃ s ∈ A.filter (segW false) ++ B.filter (segW true), inS s.1 s.2.1 m := fun m hm => by
    obtain ⟨s, hs, hi⟩ := a1.find hm
    by_cases hz : s.2.2.1 = 0
    · obtain ⟨t, ht2, hj⟩ := b1.find hm
      refine ⟨t, List.mem_append.mpr (.inr (mB t ht2 ?_)), hj⟩
      rw [(b2 t ht2 m hj).1, ← (a2 s hs m hi).1, hz]
    · exact ⟨s, List.mem_append.mpr (.inl (mA s hs hz)), hi⟩
  generalize A.filter (segW false) ++ B.filter (segW true) = L at pw facts uq cv
  obtain ⟨q1, q2⟩ := sortP_ok (L.map segP)
  have pws : (sortP (L.map segP)).Pairwise fun p q => p.1 ≠ q.1 := by
    refine (q1.pairwise_iff (fun {x y} h => Ne.symm h)).mpr (List.pairwise_map.mpr pw)
  have pwl : (sortP (L.map segP)).Pairwise fun p q => p.1 < q.1 := (q2.and pws).imp fun ⟨h1, h2⟩ => by omega
  have mem : ∀ p, p ∈ sortP (L.map segP) ↔ ∃ s ∈ L, segP s = p := fun p => by rw [q1.mem_iff, List.mem_map]
  refine rep_sorted (cov := fun p m => ∃ s ∈ L, segP s = p ∧ inS s.1 s.2.1 m) ?_ ?_ _ 0 ?_ pwl ?_ ?_ ?_
  · rintro p m ⟨s, hs, rfl, hi⟩
    exact ⟨hi.1, (facts s hs).2.2 m hi⟩
  · rintro p k m ⟨s, hs, rfl, hi⟩ h1 h2
    exact ⟨s, hs, rfl, h1, fun x hx => by have := hi.2 x hx; omega⟩
  · intro m hm
    obtain ⟨s, hs, hi⟩ := cv m hm
    exact ⟨segP s, (mem _).mpr ⟨s, hs, rfl⟩, s, hs, rfl, hi⟩
  · intro p hp
    obtain ⟨s, hs, rfl⟩ := (mem p).mp hp
    exact (facts s hs).1
  · intro p hp
    obtain ⟨s, hs, rfl⟩ := (mem p).mp hp
    exact ⟨s, hs, rfl, inS_start (facts s hs).2.1⟩
  · rintro p _ q _ m ⟨s, hs, rfl, hi⟩ ⟨t, ht2, rfl, hj⟩
    rw [uq s hs t ht2 m hi hj]
/-! ### the classes of a tree -/
theorem spn_pos : ∀ t : Tr, linM t = true → 0 < spanM t
  | .n, _ => Nat.one_pos
  | .num _, _ => Nat.one_pos
  | .not a, h => Nat.lcm_pos Nat.one_pos (spn_pos a h)
  | .ite a b c, h => by
    simp only [linM, Bool.and_eq_true] at h
    exact Nat.lcm_pos (Nat.lcm_pos (Nat.lcm_pos Nat.one_pos (spn_pos a h.1.1)) (spn_pos b h.1.2)) (spn_pos c h.2)
  | .bin o a b, h => by
    cases o with
    | div =>
      simp only [linM, Bool.and_eq_true, decide_eq_true_eq] at h
      exact Nat.mul_pos (spn_pos a h.1.1) (by omega)
    | mod =>
      simp only [linM, Bool.and_eq_true, decide_eq_true_eq] at h
      exact Nat.mul_pos (spn_pos a h.1.1) (by omega)
    | mul =>
      simp only [linM, Bool.and_eq_true] at h
      exact Nat.lcm_pos (Nat.lcm_pos Nat.one_pos (spn_pos a h.1.2)) (spn_pos b h.2)
    | _ =>
      simp only [linM, Bool.and_eq_true] at h
      exact Nat.lcm_pos (Nat.lcm_pos Nat.one_pos (spn_pos a h.1)) (spn_pos b h.2)
abbrev CRep (cs : List (List Piece)) (span : Nat) (t : Tr) : Prop := cs.length = span ∧ ∀ r, r < span → Rep (cs.getD r []) fun m => valM t ((r : Int) + (span : Int) * m)
theorem getD_range {α : Type} (f : Nat → List α) {r n : Nat} (h : r < n) : ((List.range n).map f).getD r [] = f r := by
  rw [List.getD_eq_getElem?_getD, List.getElem?_map, List.getElem?_range h]
  rfl
theorem getD_map {α β : Type} (f : List α → List β) {cs : List (List α)} {r : Nat} (h : r < cs.length) : (cs.map f).getD r [] = f (cs.getD r []) := by
  rw [List.getD_eq_getElem?_getD, List.getElem?_map, List.getD_eq_getElem?_getD, List.getElem?_eq_getElem h]
  rfl
theorem widenedM_rep {cs : List (List Piece)} {old span : Nat} {F : Int → Int} (h0 : 0 < old) (hd : old ∣ span) (hs : 0 < span) (hc : cs.length = old) (h : ∀ r, r < old → Rep (cs.getD r []) fun m => F ((r : Int) + (old : Int) * m)) :
    (widenedM cs span).length = span ∧ ∀ r, r < span → Rep ((widenedM cs span).getD r []) (fun m => F ((r : Int) + (span : Int) * m)) ∧ ∀ p ∈ (widenedM cs span).getD r [], ((span / old : Nat) : Int) ∣ p.2.2 := by
  refine ⟨by unfold widenedM; rw [List.length_map, List.length_range], fun r hr => ?_⟩
  unfold widenedM
  rw [getD_range _ hr, hc]
  obtain ⟨t, rfl⟩ := hd
  have ht : 0 < t := Nat.pos_of_mul_pos_left hs
  rw [Nat.mul_div_cancel_left _ h0]
  refine ⟨?_, widenedP_dvd _ _ _⟩
  refine (widenedP_rep (times := (t : Int)) (shift := ((r / old : Nat) : Int)) (by omega) (Int.natCast_nonneg _) (h (r % old) (Nat.mod_lt _ h0))).cong (Int.le_refl _) fun m _ => ?_
  congr 1
  have e : (r : Int) = ((r % old : Nat) : Int) + (old : Int) * ((r / old : Nat) : Int) := by
    rw [← Int.natCast_mul, ← Int.natCast_add, Nat.mod_add_div]
  rw [Int.mul_add, ← Int.mul_assoc, Int.natCast_mul, ← Int.add_assoc, ← e]
theorem lcm1 (a b : Nat) : a ∣ Nat.lcm (Nat.lcm 1 a) b ∧ b ∣ Nat.lcm (Nat.lcm 1 a) b := ⟨Nat.dvd_trans (Nat.dvd_lcm_right 1 a) (Nat.dvd_lcm_left _ _), Nat.dvd_lcm_right _ _⟩
theorem classes_rep : ∀ t : Tr, linM t = true → ∀ span : Nat, 0 < span → spanM t ∣ span → CRep (classesM t span) span t
  | .n, _, span, hs, _ => by
    refine ⟨by simp [classesM], fun r hr => ?_⟩
    simp only [classesM]
    rw [getD_range _ hr]
    exact ⟨⟨rfl, rfl, rfl⟩, fun s hs m hm => by rw [List.mem_singleton.mp hs]; rfl⟩
  | .num v, _, span, hs, _ => by
    refine ⟨by simp [classesM], fun r hr => ?_⟩
    simp only [classesM]
    rw [getD_range (fun _ => [((0, v, 0) : Piece)]) hr]
    exact ⟨⟨rfl, rfl, rfl⟩, fun s hs m hm => by rw [List.mem_singleton.mp hs]; show v + 0 * m = v; omega⟩
  | .not a, h, span, hs, hd => by
    obtain ⟨i1, i2⟩ := classes_rep a h span hs (Nat.dvd_trans (Nat.dvd_lcm_right 1 _) hd)
    refine ⟨by simp only [classesM, List.length_map]; exact i1, fun r hr => ?_⟩
    simp only [classesM]
    rw [getD_map _ (by omega)]
    exact refused_rep (i2 r hr)
  | .ite a b c, h, span, hs, hd => by
    simp only [linM, Bool.and_eq_true] at h
    have d1 : Nat.lcm (Nat.lcm 1 (spanM a)) (spanM b) ∣ span := Nat.dvd_trans (Nat.dvd_lcm_left _ _) hd
    obtain ⟨_, i1⟩ := classes_rep a h.1.1 span hs (Nat.dvd_trans (lcm1 _ _).1 d1)
    obtain ⟨_, i2⟩ := classes_rep b h.1.2 span hs (Nat.dvd_trans (lcm1 _ _).2 d1)
    obtain ⟨_, i3⟩ := classes_rep c h.2 span hs (Nat.dvd_trans (Nat.dvd_lcm_right _ _) hd)
    refine ⟨by simp [classesM], fun r hr => ?_⟩
    simp only [classesM]
    rw [getD_range _ hr]
    exact chosen_rep (i1 r hr) (i2 r hr) (i3 r hr)
  | .bin o a b, h, span, hs, hd => by
    have dm : ∀ o, o = .div ∨ o = .mod → linM a = true → b.isNum = true → 0 < b.num? → spanM a * b.num?.toNat ∣ span → CRep (widenedM ((widenedM (classesM a (spanM a)) (spanM a * b.num?.toNat)).map fun ps => dividedM o ps b.num?) span) span (.bin o a b) := fun o ho h1 h2 h3 hd => by
      have hp := spn_pos a h1
      have hv : b = .num b.num? := by cases b <;> first | rfl | cases h2
      have hpp : 0 < spanM a * b.num?.toNat := Nat.mul_pos hp (by omega)
      obtain ⟨i1, i2⟩ := classes_rep a h1 (spanM a) hp (Nat.dvd_refl _)
      obtain ⟨j1, j2⟩ := widenedM_rep (F := valM a) hp (Nat.dvd_mul_right _ _) hpp i1 i2
      have hval : ∀ n, opV o (valM a n) b.num? = valM (.bin o a b) n := fun n => by rw [valM_bin]; rw [hv]; rfl
      have hq : ((spanM a * b.num?.toNat / spanM a : Nat) : Int) = b.num? := by
        rw [Nat.mul_div_cancel_left _ hp]
        omega
      obtain ⟨k1, k2⟩ := widenedM_rep (F := valM (.bin o a b)) (cs := (widenedM (classesM a (spanM a)) (spanM a * b.num?.toNat)).map fun ps => dividedM o ps b.num?) hpp hd hs (by rw [List.length_map]; exact j1) fun r hr => by
        rw [getD_map _ (by omega)]
        obtain ⟨j3, j4⟩ := j2 r hr
        rw [hq] at j4
        exact (divided_rep h3 j3 j4 ho).cong (Int.le_refl _) fun m _ => hval _
      exact ⟨k1, fun r hr => (k2 r hr).1⟩
    have two : ∀ o, o ≠ .div → o ≠ .mod → (o = .mul → a.isNum = true ∨ b.isNum = true) → linM a = true → linM b = true → Nat.lcm (Nat.lcm 1 (spanM a)) (spanM b) ∣ span → CRep ((List.range span).map fun r => combinedM o ((classesM a span).getD r []) ((classesM b span).getD r [])) span (.bin o a b) := fun o ho1 ho2 hm h1 h2 hd => by
      obtain ⟨_, i1⟩ := classes_rep a h1 span hs (Nat.dvd_trans (lcm1 _ _).1 hd)
      obtain ⟨_, i2⟩ := classes_rep b h2 span hs (Nat.dvd_trans (lcm1 _ _).2 hd)
      refine ⟨by rw [List.length_map, List.length_range], fun r hr => ?_⟩
      rw [getD_range _ hr]
      have hn : ∀ c : Tr, c.isNum = true → ∀ p ∈ (classesM c span).getD r [], p.2.2 = 0 := fun c hc p hp => by
        cases c with
        | num v =>
          simp only [classesM] at hp
          rw [getD_range (fun _ => [((0, v, 0) : Piece)]) hr] at hp
          rw [List.mem_singleton.mp hp]
        | _ => cases hc
      exact (combined_rep ho1 ho2 (i1 r hr) (i2 r hr) fun e => (hm e).imp (hn a) (hn b)).cong (Int.le_refl _) fun m _ => (valM_bin o a b _).symm
    cases o with
    | div =>
      simp only [linM, Bool.and_eq_true, decide_eq_true_eq] at h
      exact dm .div (.inl rfl) h.1.1 h.1.2 h.2 hd
    | mod =>
      simp only [linM, Bool.and_eq_true, decide_eq_true_eq] at h
      exact dm .mod (.inr rfl) h.1.1 h.1.2 h.2 hd
    | mul =>
      simp only [linM, Bool.and_eq_true, Bool.or_eq_true] at h
      exact two .mul (by decide) (by decide) (fun _ => h.1.1) h.1.2 h.2 hd
    | _ =>
      simp only [linM, Bool.and_eq_true] at h
      exact two _ (by decide) (by decide) (fun e => by cases e) h.1 h.2 hd
end Ms
set_option Elab.async false
set_option linter.all false
set_option maxRecDepth 100000
set_option maxHeartbeats 4000000
namespace Ms
open PySem PySem.Spec L2 Ab
open PyProof.Rows hiding St
/-! ### the text by places, and what the top has written -/
def dSIGNS : D := .tup [.str "<=", .str ">=", .str "==", .str "!=", .str "&&", .str "||", .str "(", .str ")", .str "?", .str ":", .str "!", .str "*", .str "/", .str "+", .str "-", .str "<", .str ">"]
def dLEVELS : D := .tup [.tup [.str "or"], .tup [.str "and"], .tup [.str "==", .str "!="], .tup [.str "<", .str ">", .str "<=", .str ">="], .tup [.str "+", .str "-"], .tup [.str "*", .str "/", .str "mod"]]
def dCOMPARISONS : D := .tup [.str "==", .str "!=", .str "<", .str ">", .str "<=", .str ">="]
def signWords : List Str := ["mod", "<=", ">=", "==", "!=", "&&", "||", "(", ")", "?", ":", "!", "*", "/", "+", "-", "<", ">"]
def wordsV (x : Str) : Option V := if x = "||" then some (.str "or") else if x = "&&" then some (.str "and") else none
def topS (i : Nat) : Stmt := PySem.Challenge.pw_messageshelf_k26_whole_answers_fit_toget.main.body.getD i (.Pass ⟨0, 0, 0, 0⟩)
abbrev s_common_divisor : Stmt := (topS 8)
abbrev N_common_divisor : List Str := ["one", "other"]
abbrev P_common_divisor : List Str := ["one", "other"]
theorem sc_common_divisor : FnScope N_common_divisor P_common_divisor (defScope s_common_divisor) := ⟨rfl, rfl, rfl, by decide +kernel, rfl, by decide +kernel, by decide +kernel⟩
abbrev s_common_multiple : Stmt := (topS 9)
abbrev N_common_multiple : List Str := ["numbers", "found", "number"]
abbrev P_common_multiple : List Str := ["numbers"]
theorem sc_common_multiple : FnScope N_common_multiple P_common_multiple (defScope s_common_multiple) := ⟨rfl, rfl, rfl, by decide +kernel, rfl, by decide +kernel, by decide +kernel⟩
abbrev s_parts_of_tree : Stmt := (topS 10)
abbrev N_parts_of_tree : List Str := ["tree"]
abbrev P_parts_of_tree : List Str := ["tree"]
theorem sc_parts_of_tree : FnScope N_parts_of_tree P_parts_of_tree (defScope s_parts_of_tree) := ⟨rfl, rfl, rfl, by decide +kernel, rfl, by decide +kernel, by decide +kernel⟩
abbrev s_is_linear : Stmt := (topS 11)
abbrev N_is_linear : List Str := ["tree", "part"]
abbrev P_is_linear : List Str := ["tree"]
theorem sc_is_linear : FnScope N_is_linear P_is_linear (defScope s_is_linear) := ⟨rfl, rfl, rfl, by decide +kernel, rfl, by decide +kernel, by decide +kernel⟩
abbrev s_tree_span : Stmt := (topS 12)
abbrev N_tree_span : List Str := ["tree", "part"]
abbrev P_tree_span : List Str := ["tree"]
theorem sc_tree_span : FnScope N_tree_span P_tree_span (defScope s_tree_span) := ⟨rfl, rfl, rfl, by decide +kernel, rfl, by decide +kernel, by decide +kernel⟩
abbrev s_common_span : Stmt := (topS 13)
abbrev N_common_span : List Str := ["plurals", "trees", "span", "plural", "tree"]
abbrev P_common_span : List Str := ["plurals"]
theorem sc_common_span : FnScope N_common_span P_common_span (defScope s_common_span) := ⟨rfl, rfl, rfl, by decide +kernel, rfl, by decide +kernel, by decide +kernel⟩
abbrev s_joined : Stmt := (topS 14)
abbrev N_joined : List Str := ["pieces", "found", "start", "a", "b"]
abbrev P_joined : List Str := ["pieces"]
theorem sc_joined : FnScope N_joined P_joined (defScope s_joined) := ⟨rfl, rfl, rfl, by decide +kernel, rfl, by decide +kernel, by decide +kernel⟩
abbrev s_stretches : Stmt := (topS 15)
abbrev N_stretches : List Str := ["pieces", "found", "k", "end", "start", "a", "b"]
abbrev P_stretches : List Str := ["pieces"]
theorem sc_stretches : FnScope N_stretches P_stretches (defScope s_stretches) := ⟨rfl, rfl, rfl, by decide +kernel, rfl, by decide +kernel, by decide +kernel⟩
abbrev s_least_end : Stmt := (topS 16)
abbrev N_least_end : List Str := ["one", "other"]
abbrev P_least_end : List Str := ["one", "other"]
theorem sc_least_end : FnScope N_least_end P_least_end (defScope s_least_end) := ⟨rfl, rfl, rfl, by decide +kernel, rfl, by decide +kernel, by decide +kernel⟩
abbrev s_overlaid : Stmt := (topS 17)
abbrev N_overlaid : List Str := ["one", "other", "found", "start", "end", "a", "b", "first", "last", "c", "d", "low", "high"]
abbrev P_overlaid : List Str := ["one", "other"]
theorem sc_overlaid : FnScope N_overlaid P_overlaid (defScope s_overlaid) := ⟨rfl, rfl, rfl, by decide +kernel, rfl, by decide +kernel, by decide +kernel⟩
abbrev s_signed : Stmt := (topS 18)
abbrev N_signed : List Str := ["start", "end", "a", "b", "sign", "at", "above", "found", "low", "high", "told"]
abbrev P_signed : List Str := ["start", "end", "a", "b"]
theorem sc_signed : FnScope N_signed P_signed (defScope s_signed) := ⟨rfl, rfl, rfl, by decide +kernel, rfl, by decide +kernel, by decide +kernel⟩
abbrev s_widened_pieces : Stmt := (topS 19)
abbrev N_widened_pieces : List Str := ["classes", "span", "old", "times", "found", "rest", "shift", "pieces", "start", "end", "a", "b", "low", "high"]
abbrev P_widened_pieces : List Str := ["classes", "span"]
theorem sc_widened_pieces : FnScope N_widened_pieces P_widened_pieces (defScope s_widened_pieces) := ⟨rfl, rfl, rfl, by decide +kernel, rfl, by decide +kernel, by decide +kernel⟩
abbrev s_signs_of : Stmt := (topS 20)
abbrev N_signs_of : List Str := ["word", "sign"]
abbrev P_signs_of : List Str := ["word", "sign"]
theorem sc_signs_of : FnScope N_signs_of P_signs_of (defScope s_signs_of) := ⟨rfl, rfl, rfl, by decide +kernel, rfl, by decide +kernel, by decide +kernel⟩
abbrev s_combined : Stmt := (topS 21)
abbrev N_combined : List Str := ["word", "one", "other", "found", "start", "end", "a", "b", "c", "d", "sign", "low", "high"]
abbrev P_combined : List Str := ["word", "one", "other"]
theorem sc_combined : FnScope N_combined P_combined (defScope s_combined) := ⟨rfl, rfl, rfl, by decide +kernel, rfl, by decide +kernel, by decide +kernel⟩
abbrev s_chosen : Stmt := (topS 22)
abbrev N_chosen : List Str := ["test", "one", "other", "found", "start", "end", "a", "b", "c", "d", "low", "high", "sign"]
abbrev P_chosen : List Str := ["test", "one", "other"]
theorem sc_chosen : FnScope N_chosen P_chosen (defScope s_chosen) := ⟨rfl, rfl, rfl, by decide +kernel, rfl, by decide +kernel, by decide +kernel⟩
abbrev s_divided : Stmt := (topS 23)
abbrev N_divided : List Str := ["word", "pieces", "number", "start", "a", "b"]
abbrev P_divided : List Str := ["word", "pieces", "number"]
theorem sc_divided : FnScope N_divided P_divided (defScope s_divided) := ⟨rfl, rfl, rfl, by decide +kernel, rfl, by decide +kernel, by decide +kernel⟩
abbrev s_refused : Stmt := (topS 24)
abbrev N_refused : List Str := ["pieces", "found", "start", "end", "a", "b", "low", "high", "sign"]
abbrev P_refused : List Str := ["pieces"]
theorem sc_refused : FnScope N_refused P_refused (defScope s_refused) := ⟨rfl, rfl, rfl, by decide +kernel, rfl, by decide +kernel, by decide +kernel⟩
abbrev s_classes_of : Stmt := (topS 25)
abbrev N_classes_of : List Str := ["tree", "span", "word", "inner", "parts", "rest", "pieces", "part"]
abbrev P_classes_of : List Str := ["tree", "span"]
theorem sc_classes_of : FnScope N_classes_of P_classes_of (defScope s_classes_of) := ⟨rfl, rfl, rfl, by decide +kernel, rfl, by decide +kernel, by decide +kernel⟩
abbrev s_plural_classes : Stmt := (topS 26)
abbrev N_plural_classes : List Str := ["plural", "span"]
abbrev P_plural_classes : List Str := ["plural", "span"]
theorem sc_plural_classes : FnScope N_plural_classes P_plural_classes (defScope s_plural_classes) := ⟨rfl, rfl, rfl, by decide +kernel, rfl, by decide +kernel, by decide +kernel⟩
abbrev s_lowest : Stmt := (topS 28)
abbrev N_lowest : List Str := ["numbers"]
abbrev P_lowest : List Str := ["numbers"]
theorem sc_lowest : FnScope N_lowest P_lowest (defScope s_lowest) := ⟨rfl, rfl, rfl, by decide +kernel, rfl, by decide +kernel, by decide +kernel⟩
abbrev s_first_number : Stmt := (topS 29)
abbrev N_first_number : List Str := ["plural", "value"]
abbrev P_first_number : List Str := ["plural", "value"]
theorem sc_first_number : FnScope N_first_number P_first_number (defScope s_first_number) := ⟨rfl, rfl, rfl, by decide +kernel, rfl, by decide +kernel, by decide +kernel⟩
abbrev s_first_signed : Stmt := (topS 30)
abbrev N_first_signed : List Str := ["plural", "value", "signs", "span", "found", "rest", "pieces", "start", "end", "a", "b", "low", "high", "sign"]
abbrev P_first_signed : List Str := ["plural", "value", "signs"]
theorem sc_first_signed : FnScope N_first_signed P_first_signed (defScope s_first_signed) := ⟨rfl, rfl, rfl, by decide +kernel, rfl, by decide +kernel, by decide +kernel⟩
abbrev s_first_outside : Stmt := (topS 31)
abbrev N_first_outside : List Str := ["plural", "many", "found", "number"]
abbrev P_first_outside : List Str := ["plural", "many"]
theorem sc_first_outside : FnScope N_first_outside P_first_outside (defScope s_first_outside) := ⟨rfl, rfl, rfl, by decide +kernel, rfl, by decide +kernel, by decide +kernel⟩
abbrev s_first_values : Stmt := (topS 32)
abbrev N_first_values : List Str := ["plural", "most", "span", "known", "rest", "pieces", "start", "end", "a", "b", "many", "m", "n", "pairs", "value"]
abbrev P_first_values : List Str := ["plural", "most"]
theorem sc_first_values : FnScope N_first_values P_first_values (defScope s_first_values) := ⟨rfl, rfl, rfl, by decide +kernel, rfl, by decide +kernel, by decide +kernel⟩
abbrev s_last_unlike : Stmt := (topS 33)
abbrev N_last_unlike : List Str := ["pieces", "tail", "found", "start", "end", "a", "b", "m"]
abbrev P_last_unlike : List Str := ["pieces", "tail"]
theorem sc_last_unlike : FnScope N_last_unlike P_last_unlike (defScope s_last_unlike) := ⟨rfl, rfl, rfl, by decide +kernel, rfl, by decide +kernel, by decide +kernel⟩
abbrev s_rest_of : Stmt := (topS 34)
abbrev N_rest_of : List Str := ["plural", "span", "classes", "pieces", "tails", "size", "many", "rest", "start", "last"]
abbrev P_rest_of : List Str := ["plural"]
theorem sc_rest_of : FnScope N_rest_of P_rest_of (defScope s_rest_of) := ⟨rfl, rfl, rfl, by decide +kernel, rfl, by decide +kernel, by decide +kernel⟩
abbrev s_text : Stmt := (topS 36)
abbrev N_text : List Str := ["string", "sign"]
abbrev P_text : List Str := ["string"]
theorem sc_text : FnScope N_text P_text (defScope s_text) := ⟨rfl, rfl, rfl, by decide +kernel, rfl, by decide +kernel, by decide +kernel⟩
abbrev s_is_digit : Stmt := (topS 43)
abbrev N_is_digit : List Str := ["code"]
abbrev P_is_digit : List Str := ["code"]
theorem sc_is_digit : FnScope N_is_digit P_is_digit (defScope s_is_digit) := ⟨rfl, rfl, rfl, by decide +kernel, rfl, by decide +kernel, by decide +kernel⟩
abbrev s_is_word_code : Stmt := (topS 44)
abbrev N_is_word_code : List Str := ["code"]
abbrev P_is_word_code : List Str := ["code"]
theorem sc_is_word_code : FnScope N_is_word_code P_is_word_code (defScope s_is_word_code) := ⟨rfl, rfl, rfl, by decide +kernel, rfl, by decide +kernel, by decide +kernel⟩
abbrev s_Reader_init : Stmt := (inClass (topS 45) 0)
abbrev N_Reader_init : List Str := ["self", "codes"]
abbrev P_Reader_init : List Str := ["self", "codes"]
theorem sc_Reader_init : FnScope N_Reader_init P_Reader_init (defScope s_Reader_init) := ⟨rfl, rfl, rfl, by decide +kernel, rfl, by decide +kernel, by decide +kernel⟩
abbrev s_Reader_move : Stmt := (inClass (topS 45) 1)
abbrev N_Reader_move : List Str := ["self"]
abbrev P_Reader_move : List Str := ["self"]
theorem sc_Reader_move : FnScope N_Reader_move P_Reader_move (defScope s_Reader_move) := ⟨rfl, rfl, rfl, by decide +kernel, rfl, by decide +kernel, by decide +kernel⟩
abbrev s_Reader_move_word : Stmt := (inClass (topS 45) 2)
abbrev N_Reader_move_word : List Str := ["self", "found", "code"]
abbrev P_Reader_move_word : List Str := ["self"]
theorem sc_Reader_move_word : FnScope N_Reader_move_word P_Reader_move_word (defScope s_Reader_move_word) := ⟨rfl, rfl, rfl, by decide +kernel, rfl, by decide +kernel, by decide +kernel⟩
abbrev s_Reader_move_sign : Stmt := (inClass (topS 45) 3)
abbrev N_Reader_move_sign : List Str := ["self", "found", "sign"]
abbrev P_Reader_move_sign : List Str := ["self"]
theorem sc_Reader_move_sign : FnScope N_Reader_move_sign P_Reader_move_sign (defScope s_Reader_move_sign) := ⟨rfl, rfl, rfl, by decide +kernel, rfl, by decide +kernel, by decide +kernel⟩
abbrev s_Reader_choice : Stmt := (inClass (topS 45) 5)
abbrev N_Reader_choice : List Str := ["self", "tree", "depth", "word", "first", "first_depth", "first_word", "second", "second_depth", "second_word"]
abbrev P_Reader_choice : List Str := ["self"]
theorem sc_Reader_choice : FnScope N_Reader_choice P_Reader_choice (defScope s_Reader_choice) := ⟨rfl, rfl, rfl, by decide +kernel, rfl, by decide +kernel, by decide +kernel⟩
abbrev s_Reader_level : Stmt := (inClass (topS 45) 6)
abbrev N_Reader_level : List Str := ["self", "number", "tree", "depth", "word", "deed", "more", "extra", "right", "right_depth", "right_word"]
abbrev P_Reader_level : List Str := ["self", "number"]
theorem sc_Reader_level : FnScope N_Reader_level P_Reader_level (defScope s_Reader_level) := ⟨rfl, rfl, rfl, by decide +kernel, rfl, by decide +kernel, by decide +kernel⟩
abbrev s_Reader_operand : Stmt := (inClass (topS 45) 7)
abbrev N_Reader_operand : List Str := ["self", "word", "number", "tree", "depth", "inner"]
abbrev P_Reader_operand : List Str := ["self"]
theorem sc_Reader_operand : FnScope N_Reader_operand P_Reader_operand (defScope s_Reader_operand) := ⟨rfl, rfl, rfl, by decide +kernel, rfl, by decide +kernel, by decide +kernel⟩
abbrev s_Plural_init : Stmt := (inClass (topS 49) 0)
abbrev N_Plural_init : List Str := ["self", "source", "reader", "tree", "depth", "word"]
abbrev P_Plural_init : List Str := ["self", "source"]
theorem sc_Plural_init : FnScope N_Plural_init P_Plural_init (defScope s_Plural_init) := ⟨rfl, rfl, rfl, by decide +kernel, rfl, by decide +kernel, by decide +kernel⟩
abbrev s_Plural_tree : Stmt := (inClass (topS 49) 3)
abbrev N_Plural_tree : List Str := ["self"]
abbrev P_Plural_tree : List Str := ["self"]
theorem sc_Plural_tree : FnScope N_Plural_tree P_Plural_tree (defScope s_Plural_tree) := ⟨rfl, rfl, rfl, by decide +kernel, rfl, by decide +kernel, by decide +kernel⟩
abbrev s_l_source : Stmt := (topS 51)
abbrev N_l_source : List Str := ["_law_script", "_law_k", "_law_cell", "_law_deep"]
abbrev P_l_source : List Str := ["_law_script", "_law_k"]
theorem sc_l_source : FnScope N_l_source P_l_source (defScope s_l_source) := ⟨rfl, rfl, rfl, by decide +kernel, rfl, by decide +kernel, by decide +kernel⟩
abbrev s_l_draw : Stmt := (topS 52)
abbrev N_l_draw : List Str := ["_law_source_here", "_law_many", "_law_digit", "_law_seed"]
abbrev P_l_draw : List Str := ["_law_source_here", "_law_many"]
theorem sc_l_draw : FnScope N_l_draw P_l_draw (defScope s_l_draw) := ⟨rfl, rfl, rfl, by decide +kernel, rfl, by decide +kernel, by decide +kernel⟩
abbrev s_l_pick : Stmt := (topS 53)
abbrev N_l_pick : List Str := ["_law_source_here", "_law_some"]
abbrev P_l_pick : List Str := ["_law_source_here", "_law_some"]
theorem sc_l_pick : FnScope N_l_pick P_l_pick (defScope s_l_pick) := ⟨rfl, rfl, rfl, by decide +kernel, rfl, by decide +kernel, by decide +kernel⟩
abbrev s_l_text : Stmt := (topS 54)
abbrev N_l_text : List Str := ["_law_word", "_law_sign"]
abbrev P_l_text : List Str := ["_law_word"]
theorem sc_l_text : FnScope N_l_text P_l_text (defScope s_l_text) := ⟨rfl, rfl, rfl, by decide +kernel, rfl, by decide +kernel, by decide +kernel⟩
abbrev s_l_handed : Stmt := (topS 55)
abbrev N_l_handed : List Str := ["_law_source_here", "_law_codes"]
abbrev P_l_handed : List Str := ["_law_source_here", "_law_codes"]
theorem sc_l_handed : FnScope N_l_handed P_l_handed (defScope s_l_handed) := ⟨rfl, rfl, rfl, by decide +kernel, rfl, by decide +kernel, by decide +kernel⟩
abbrev s_l_same : Stmt := (topS 56)
abbrev N_l_same : List Str := ["_law_found", "_law_due", "_law_one", "_law_two"]
abbrev P_l_same : List Str := ["_law_found", "_law_due"]
theorem sc_l_same : FnScope N_l_same P_l_same (defScope s_l_same) := ⟨rfl, rfl, rfl, by decide +kernel, rfl, by decide +kernel, by decide +kernel⟩
abbrev s_l_leaf : Stmt := (topS 57)
abbrev N_l_leaf : List Str := ["_law_source_here", "_law_numbers"]
abbrev P_l_leaf : List Str := ["_law_source_here", "_law_numbers"]
theorem sc_l_leaf : FnScope N_l_leaf P_l_leaf (defScope s_l_leaf) := ⟨rfl, rfl, rfl, by decide +kernel, rfl, by decide +kernel, by decide +kernel⟩
abbrev s_l_linear : Stmt := (topS 58)
abbrev N_l_linear : List Str := ["_law_source_here", "_law_deep", "_law_numbers", "_law_divisors", "_law_words", "_law_word", "_law_one", "_law_other", "_law_parts", "_law_k"]
abbrev P_l_linear : List Str := ["_law_source_here", "_law_deep", "_law_numbers", "_law_divisors"]
theorem sc_l_linear : FnScope N_l_linear P_l_linear (defScope s_l_linear) := ⟨rfl, rfl, rfl, by decide +kernel, rfl, by decide +kernel, by decide +kernel⟩
abbrev s_l_compare : Stmt := (topS 59)
abbrev N_l_compare : List Str := ["_law_word", "_law_one", "_law_other", "_law_signs"]
abbrev P_l_compare : List Str := ["_law_word", "_law_one", "_law_other"]
theorem sc_l_compare : FnScope N_l_compare P_l_compare (defScope s_l_compare) := ⟨rfl, rfl, rfl, by decide +kernel, rfl, by decide +kernel, by decide +kernel⟩
abbrev s_l_value : Stmt := (topS 60)
abbrev N_l_value : List Str := ["_law_tree", "_law_n", "_law_word", "_law_one", "_law_other", "_law_down"]
abbrev P_l_value : List Str := ["_law_tree", "_law_n"]
theorem sc_l_value : FnScope N_l_value P_l_value (defScope s_l_value) := ⟨rfl, rfl, rfl, by decide +kernel, rfl, by decide +kernel, by decide +kernel⟩
abbrev s_l_rank : Stmt := (topS 61)
abbrev N_l_rank : List Str := ["_law_word", "_law_ranks"]
abbrev P_l_rank : List Str := ["_law_word"]
theorem sc_l_rank : FnScope N_l_rank P_l_rank (defScope s_l_rank) := ⟨rfl, rfl, rfl, by decide +kernel, rfl, by decide +kernel, by decide +kernel⟩
abbrev s_l_written : Stmt := (topS 62)
abbrev N_l_written : List Str := ["_law_tree", "_law_word", "_law_found", "_law_sign", "_law_codes", "_law_rank_here"]
abbrev P_l_written : List Str := ["_law_tree"]
theorem sc_l_written : FnScope N_l_written P_l_written (defScope s_l_written) := ⟨rfl, rfl, rfl, by decide +kernel, rfl, by decide +kernel, by decide +kernel⟩
abbrev s_l_within : Stmt := (topS 63)
abbrev N_l_within : List Str := ["_law_tree", "_law_least", "_law_found"]
abbrev P_l_within : List Str := ["_law_tree", "_law_least"]
theorem sc_l_within : FnScope N_l_within P_l_within (defScope s_l_within) := ⟨rfl, rfl, rfl, by decide +kernel, rfl, by decide +kernel, by decide +kernel⟩
abbrev s_l_divisor : Stmt := (topS 64)
abbrev N_l_divisor : List Str := ["_law_one", "_law_other"]
abbrev P_l_divisor : List Str := ["_law_one", "_law_other"]
theorem sc_l_divisor : FnScope N_l_divisor P_l_divisor (defScope s_l_divisor) := ⟨rfl, rfl, rfl, by decide +kernel, rfl, by decide +kernel, by decide +kernel⟩
abbrev s_l_multiple : Stmt := (topS 65)
abbrev N_l_multiple : List Str := ["_law_some", "_law_found", "_law_number"]
abbrev P_l_multiple : List Str := ["_law_some"]
theorem sc_l_multiple : FnScope N_l_multiple P_l_multiple (defScope s_l_multiple) := ⟨rfl, rfl, rfl, by decide +kernel, rfl, by decide +kernel, by decide +kernel⟩
abbrev s_l_span : Stmt := (topS 66)
abbrev N_l_span : List Str := ["_law_tree", "_law_part"]
abbrev P_l_span : List Str := ["_law_tree"]
theorem sc_l_span : FnScope N_l_span P_l_span (defScope s_l_span) := ⟨rfl, rfl, rfl, by decide +kernel, rfl, by decide +kernel, by decide +kernel⟩
abbrev s_l_end : Stmt := (topS 67)
abbrev N_l_end : List Str := ["_law_tree", "_law_word", "_law_ends", "_law_first", "_law_away", "_law_lot", "_law_end_here", "_law_turn", "_law_part"]
abbrev P_l_end : List Str := ["_law_tree"]
theorem sc_l_end : FnScope N_l_end P_l_end (defScope s_l_end) := ⟨rfl, rfl, rfl, by decide +kernel, rfl, by decide +kernel, by decide +kernel⟩
abbrev s_l_plural : Stmt := (topS 68)
abbrev N_l_plural : List Str := ["_law_source_here", "_law_tree", "_law_codes", "_law_code"]
abbrev P_l_plural : List Str := ["_law_source_here", "_law_tree"]
theorem sc_l_plural : FnScope N_l_plural P_l_plural (defScope s_l_plural) := ⟨rfl, rfl, rfl, by decide +kernel, rfl, by decide +kernel, by decide +kernel⟩
abbrev s_l_ten : Stmt := (topS 69)
abbrev N_l_ten : List Str := ["_law_many", "_law_found", "_law_k"]
abbrev P_l_ten : List Str := ["_law_many"]
theorem sc_l_ten : FnScope N_l_ten P_l_ten (defScope s_l_ten) := ⟨rfl, rfl, rfl, by decide +kernel, rfl, by decide +kernel, by decide +kernel⟩
abbrev s_l_far : Stmt := (topS 70)
abbrev N_l_far : List Str := ["_law_source_here", "_law_some"]
abbrev P_l_far : List Str := ["_law_source_here"]
theorem sc_l_far : FnScope N_l_far P_l_far (defScope s_l_far) := ⟨rfl, rfl, rfl, by decide +kernel, rfl, by decide +kernel, by decide +kernel⟩
abbrev s_l_planted : Stmt := (topS 71)
abbrev N_l_planted : List Str := ["_law_way", "_law_base", "_law_up", "_law_at", "_law_step", "_law_rest", "_law_n", "_law_c", "_law_d", "_law_test", "_law_gap", "_law_first"]
abbrev P_l_planted : List Str := ["_law_way", "_law_base", "_law_up", "_law_at", "_law_step", "_law_rest"]
theorem sc_l_planted : FnScope N_l_planted P_l_planted (defScope s_l_planted) := ⟨rfl, rfl, rfl, by decide +kernel, rfl, by decide +kernel, by decide +kernel⟩
abbrev s_l_tails : Stmt := (topS 72)
abbrev N_l_tails : List Str := ["_law_tree", "_law_last", "_law_many", "_law_begin", "_law_now", "_law_after", "_law_k"]
abbrev P_l_tails : List Str := ["_law_tree", "_law_last"]
theorem sc_l_tails : FnScope N_l_tails P_l_tails (defScope s_l_tails) := ⟨rfl, rfl, rfl, by decide +kernel, rfl, by decide +kernel, by decide +kernel⟩
abbrev s_l_pattern : Stmt := (topS 73)
abbrev N_l_pattern : List Str := ["_law_tails_here", "_law_many", "_law_size", "_law_k"]
abbrev P_l_pattern : List Str := ["_law_tails_here"]
theorem sc_l_pattern : FnScope N_l_pattern P_l_pattern (defScope s_l_pattern) := ⟨rfl, rfl, rfl, by decide +kernel, rfl, by decide +kernel, by decide +kernel⟩
abbrev s_l_drawn : Stmt := (topS 74)
abbrev N_l_drawn : List Str := ["_law_source_here", "_law_numbers", "_law_base", "_law_up", "_law_step"]
abbrev P_l_drawn : List Str := ["_law_source_here"]
theorem sc_l_drawn : FnScope N_l_drawn P_l_drawn (defScope s_l_drawn) := ⟨rfl, rfl, rfl, by decide +kernel, rfl, by decide +kernel, by decide +kernel⟩
abbrev s_l_values_right : Stmt := (topS 75)
abbrev N_l_values_right : List Str := ["_law_tree", "_law_pairs", "_law_numbers", "_law_n", "_law_values", "_law_known", "_law_value_here", "_law_k", "_law_first"]
abbrev P_l_values_right : List Str := ["_law_tree", "_law_pairs"]
theorem sc_l_values_right : FnScope N_l_values_right P_l_values_right (defScope s_l_values_right) := ⟨rfl, rfl, rfl, by decide +kernel, rfl, by decide +kernel, by decide +kernel⟩
abbrev s_l_outside_right : Stmt := (topS 76)
abbrev N_l_outside_right : List Str := ["_law_rule", "_law_pairs", "_law_limit", "_law_found", "_law_outside", "_law_value_here", "_law_n"]
abbrev P_l_outside_right : List Str := ["_law_rule", "_law_pairs", "_law_limit"]
theorem sc_l_outside_right : FnScope N_l_outside_right P_l_outside_right (defScope s_l_outside_right) := ⟨rfl, rfl, rfl, by decide +kernel, rfl, by decide +kernel, by decide +kernel⟩
abbrev s_l_rest_right : Stmt := (topS 77)
abbrev N_l_rest_right : List Str := ["_law_tree", "_law_found", "_law_pairs", "_law_start", "_law_pattern_here", "_law_size", "_law_known", "_law_far_here", "_law_value_here", "_law_n", "_law_k"]
abbrev P_l_rest_right : List Str := ["_law_tree", "_law_found", "_law_pairs"]
theorem sc_l_rest_right : FnScope N_l_rest_right P_l_rest_right (defScope s_l_rest_right) := ⟨rfl, rfl, rfl, by decide +kernel, rfl, by decide +kernel, by decide +kernel⟩
abbrev s_law : Stmt := (topS 78)
abbrev N_law : List Str := ["_law_script", "_law_k", "_law_source_here", "_law_tree", "_law_rule", "_law_pairs", "_law_value_here", "_law_n"]
abbrev P_law : List Str := ["_law_script"]
theorem sc_law : FnScope N_law P_law (defScope s_law) := ⟨rfl, rfl, rfl, by decide +kernel, rfl, by decide +kernel, by decide +kernel⟩
structure At (K : PySem.W.Frag) (mg : Str → Option Value) (x : Str) (st : Stmt) (ps : List Str) where
  f : Addr
  fd : FuncData
  F : Fun K x x st f fd
  b : Binds K fd ps []
  m : mg x = some (.ref f)
structure MAt (K : PySem.W.Frag) (C : Addr) (x qual : Str) (st : Stmt) (ps : List Str) where
  f : Addr
  fd : FuncData
  F : Fun K x qual st f fd
  b : Binds K fd ps []
  mt : Meth K C x f
structure CAt (K : PySem.W.Frag) (mg : Str → Option Value) (x : Str) (d : D) where
  a : Addr
  m : mg x = some (.ref a)
  dv : ∀ B, DV K B (.ref a) d
structure Txt (K : PySem.W.Frag) (w : World) (mg : Str → Option Value) where
  common_divisor : At K mg "common_divisor" s_common_divisor P_common_divisor
  common_multiple : At K mg "common_multiple" s_common_multiple P_common_multiple
  parts_of_tree : At K mg "parts_of_tree" s_parts_of_tree P_parts_of_tree
  is_linear : At K mg "is_linear" s_is_linear P_is_linear
  tree_span : At K mg "tree_span" s_tree_span P_tree_span
  common_span : At K mg "common_span" s_common_span P_common_span
  joined : At K mg "joined" s_joined P_joined
  stretches : At K mg "stretches" s_stretches P_stretches
  least_end : At K mg "least_end" s_least_end P_least_end
  overlaid : At K mg "overlaid" s_overlaid P_overlaid
  signed : At K mg "signed" s_signed P_signed
  widened_pieces : At K mg "widened_pieces" s_widened_pieces P_widened_pieces
  signs_of : At K mg "signs_of" s_signs_of P_signs_of
  combined : At K mg "combined" s_combined P_combined
  chosen : At K mg "chosen" s_chosen P_chosen
  divided : At K mg "divided" s_divided P_divided
  refused : At K mg "refused" s_refused P_refused
  classes_of : At K mg "classes_of" s_classes_of P_classes_of
  plural_classes : At K mg "plural_classes" s_plural_classes P_plural_classes
  lowest : At K mg "lowest" s_lowest P_lowest
  first_number : At K mg "first_number" s_first_number P_first_number
  first_signed : At K mg "first_signed" s_first_signed P_first_signed
  first_outside : At K mg "first_outside" s_first_outside P_first_outside
  first_values : At K mg "first_values" s_first_values P_first_values
  last_unlike : At K mg "last_unlike" s_last_unlike P_last_unlike
  rest_of : At K mg "rest_of" s_rest_of P_rest_of
  text : At K mg "text" s_text P_text
  is_digit : At K mg "is_digit" s_is_digit P_is_digit
  is_word_code : At K mg "is_word_code" s_is_word_code P_is_word_code
  l_source : At K mg "_law_source" s_l_source P_l_source
  l_draw : At K mg "_law_draw" s_l_draw P_l_draw
  l_pick : At K mg "_law_pick" s_l_pick P_l_pick
  l_text : At K mg "_law_text" s_l_text P_l_text
  l_handed : At K mg "_law_handed" s_l_handed P_l_handed
  l_same : At K mg "_law_same" s_l_same P_l_same
  l_leaf : At K mg "_law_leaf" s_l_leaf P_l_leaf
  l_linear : At K mg "_law_linear" s_l_linear P_l_linear
  l_compare : At K mg "_law_compare" s_l_compare P_l_compare
  l_value : At K mg "_law_value" s_l_value P_l_value
  l_rank : At K mg "_law_rank" s_l_rank P_l_rank
  l_written : At K mg "_law_written" s_l_written P_l_written
  l_within : At K mg "_law_within" s_l_within P_l_within
  l_divisor : At K mg "_law_divisor" s_l_divisor P_l_divisor
  l_multiple : At K mg "_law_multiple" s_l_multiple P_l_multiple
  l_span : At K mg "_law_span" s_l_span P_l_span
  l_end : At K mg "_law_end" s_l_end P_l_end
  l_plural : At K mg "_law_plural" s_l_plural P_l_plural
  l_ten : At K mg "_law_ten" s_l_ten P_l_ten
  l_far : At K mg "_law_far" s_l_far P_l_far
  l_planted : At K mg "_law_planted" s_l_planted P_l_planted
  l_tails : At K mg "_law_tails" s_l_tails P_l_tails
  l_pattern : At K mg "_law_pattern" s_l_pattern P_l_pattern
  l_drawn : At K mg "_law_drawn" s_l_drawn P_l_drawn
  l_values_right : At K mg "_law_values_right" s_l_values_right P_l_values_right
  l_outside_right : At K mg "_law_outside_right" s_l_outside_right P_l_outside_right
  l_rest_right : At K mg "_law_rest_right" s_l_rest_right P_l_rest_right
  cReader : Addr
  cPlural : Addr
  Reader_init : MAt K cReader "__init__" "Reader.__init__" s_Reader_init P_Reader_init
  Reader_move : MAt K cReader "move" "Reader.move" s_Reader_move P_Reader_move
  Reader_move_word : MAt K cReader "move_word" "Reader.move_word" s_Reader_move_word P_Reader_move_word
  Reader_move_sign : MAt K cReader "move_sign" "Reader.move_sign" s_Reader_move_sign P_Reader_move_sign
  Reader_choice : MAt K cReader "choice" "Reader.choice" s_Reader_choice P_Reader_choice
  Reader_level : MAt K cReader "level" "Reader.level" s_Reader_level P_Reader_level
  Reader_operand : MAt K cReader "operand" "Reader.operand" s_Reader_operand P_Reader_operand
  Plural_init : MAt K cPlural "__init__" "Plural.__init__" s_Plural_init P_Plural_init
  Plural_tree : MAt K cPlural "tree" "Plural.tree" s_Plural_tree P_Plural_tree
  clReader : Cls K cReader
  mkReader : Mk K cReader Reader_init.f
  gReader : mg "Reader" = some (.ref cReader)
  clPlural : Cls K cPlural
  mkPlural : Mk K cPlural Plural_init.f
  gPlural : mg "Plural" = some (.ref cPlural)
  nReader_codes : NoAttr K cReader "codes"
  nReader_after : NoAttr K cReader "after"
  nReader_word : NoAttr K cReader "word"
  nReader_number : NoAttr K cReader "number"
  nReader_begin : NoAttr K cReader "begin"
  nPlural_codes : NoAttr K cPlural "codes"
  nPlural_rule : NoAttr K cPlural "rule"
  b_len : mg "len" = none
  b_abs : mg "abs" = none
  b_ord : mg "ord" = none
  b_isinstance : mg "isinstance" = none
  b_all : mg "all" = none
  b_any : mg "any" = none
  b_max : mg "max" = none
  b_min : mg "min" = none
  b_int : mg "int" = none
  b_str : mg "str" = none
  b_list : mg "list" = none
  b_tuple : mg "tuple" = none
  b_bool : mg "bool" = none
  b_set : mg "set" = none
  b_sorted : mg "sorted" = none
  b_range : mg "range" = none
  b_enumerate : mg "enumerate" = none
  b_zip : mg "zip" = none
  cSIGNS : CAt K mg "SIGNS" dSIGNS
  cLEVELS : CAt K mg "LEVELS" dLEVELS
  cCOMPARISONS : CAt K mg "COMPARISONS" dCOMPARISONS
  tGREATEST : Tok
  mGREATEST : mg "GREATEST" = some (.int 1000 tGREATEST)
  tPERCENT : Tok
  mPERCENT : mg "PERCENT" = some (.int 37 tPERCENT)
  aWORDS : Addr
  mWORDS : mg "WORDS" = some (.ref aWORDS)
  kWORDS : KD K w aWORDS
  vWORDS : ∀ x : Str, x ∈ signWords → ∃ (r : Option Value) (o : Option V), PySem.W.nsIn K aWORDS x = some r ∧ RelO o r ∧ o = wordsV x
end Ms
set_option Elab.async false
set_option linter.all false
set_option maxRecDepth 100000
set_option maxHeartbeats 0
namespace Ms
open PySem PySem.Spec L2 Ab
open PyProof.Rows hiding St
/-! ### the head's facts -/
def fd_common_divisor : He.DefD := ⟨("common_divisor", none), "common_divisor", "common_divisor", defArgs s_common_divisor, defBody s_common_divisor, defScope s_common_divisor, [], []⟩
def fd_common_multiple : He.DefD := ⟨("common_multiple", none), "common_multiple", "common_multiple", defArgs s_common_multiple, defBody s_common_multiple, defScope s_common_multiple, [], []⟩
def fd_parts_of_tree : He.DefD := ⟨("parts_of_tree", none), "parts_of_tree", "parts_of_tree", defArgs s_parts_of_tree, defBody s_parts_of_tree, defScope s_parts_of_tree, [], []⟩
def fd_is_linear : He.DefD := ⟨("is_linear", none), "is_linear", "is_linear", defArgs s_is_linear, defBody s_is_linear, defScope s_is_linear, [], []⟩
def fd_tree_span : He.DefD := ⟨("tree_span", none), "tree_span", "tree_span", defArgs s_tree_span, defBody s_tree_span, defScope s_tree_span, [], []⟩
def fd_common_span : He.DefD := ⟨("common_span", none), "common_span", "common_span", defArgs s_common_span, defBody s_common_span, defScope s_common_span, [], []⟩
def fd_joined : He.DefD := ⟨("joined", none), "joined", "joined", defArgs s_joined, defBody s_joined, defScope s_joined, [], []⟩
def fd_stretches : He.DefD := ⟨("stretches", none), "stretches", "stretches", defArgs s_stretches, defBody s_stretches, defScope s_stretches, [], []⟩
def fd_least_end : He.DefD := ⟨("least_end", none), "least_end", "least_end", defArgs s_least_end, defBody s_least_end, defScope s_least_end, [], []⟩
def fd_overlaid : He.DefD := ⟨("overlaid", none), "overlaid", "overlaid", defArgs s_overlaid, defBody s_overlaid, defScope s_overlaid, [], []⟩
def fd_signed : He.DefD := ⟨("signed", none), "signed", "signed", defArgs s_signed, defBody s_signed, defScope s_signed, [], []⟩
def fd_widened_pieces : He.DefD := ⟨("widened_pieces", none), "widened_pieces", "widened_pieces", defArgs s_widened_pieces, defBody s_widened_pieces, defScope s_widened_pieces, [], []⟩
def fd_signs_of : He.DefD := ⟨("signs_of", none), "signs_of", "signs_of", defArgs s_signs_of, defBody s_signs_of, defScope s_signs_of, [], []⟩
def fd_combined : He.DefD := ⟨("combined", none), "combined", "combined", defArgs s_combined, defBody s_combined, defScope s_combined, [], []⟩
def fd_chosen : He.DefD := ⟨("chosen", none), "chosen", "chosen", defArgs s_chosen, defBody s_chosen, defScope s_chosen, [], []⟩
def fd_divided : He.DefD := ⟨("divided", none), "divided", "divided", defArgs s_divided, defBody s_divided, defScope s_divided, [], []⟩
def fd_refused : He.DefD := ⟨("refused", none), "refused", "refused", defArgs s_refused, defBody s_refused, defScope s_refused, [], []⟩
def fd_classes_of : He.DefD := ⟨("classes_of", none), "classes_of", "classes_of", defArgs s_classes_of, defBody s_classes_of, defScope s_classes_of, [], []⟩
def fd_plural_classes : He.DefD := ⟨("plural_classes", none), "plural_classes", "plural_classes", defArgs s_plural_classes, defBody s_plural_classes, defScope s_plural_classes, [], []⟩
def fd_lowest : He.DefD := ⟨("lowest", none), "lowest", "lowest", defArgs s_lowest, defBody s_lowest, defScope s_lowest, [], []⟩
def fd_first_number : He.DefD := ⟨("first_number", none), "first_number", "first_number", defArgs s_first_number, defBody s_first_number, defScope s_first_number, [], []⟩
def fd_first_signed : He.DefD := ⟨("first_signed", none), "first_signed", "first_signed", defArgs s_first_signed, defBody s_first_signed, defScope s_first_signed, [], []⟩
def fd_first_outside : He.DefD := ⟨("first_outside", none), "first_outside", "first_outside", defArgs s_first_outside, defBody s_first_outside, defScope s_first_outside, [], []⟩
def fd_first_values : He.DefD := ⟨("first_values", none), "first_values", "first_values", defArgs s_first_values, defBody s_first_values, defScope s_first_values, [], []⟩
def fd_last_unlike : He.DefD := ⟨("last_unlike", none), "last_unlike", "last_unlike", defArgs s_last_unlike, defBody s_last_unlike, defScope s_last_unlike, [], []⟩
def fd_rest_of : He.DefD := ⟨("rest_of", none), "rest_of", "rest_of", defArgs s_rest_of, defBody s_rest_of, defScope s_rest_of, [], []⟩
def fd_text : He.DefD := ⟨("text", none), "text", "text", defArgs s_text, defBody s_text, defScope s_text, [], []⟩
def fd_is_digit : He.DefD := ⟨("is_digit", none), "is_digit", "is_digit", defArgs s_is_digit, defBody s_is_digit, defScope s_is_digit, [], []⟩
def fd_is_word_code : He.DefD := ⟨("is_word_code", none), "is_word_code", "is_word_code", defArgs s_is_word_code, defBody s_is_word_code, defScope s_is_word_code, [], []⟩
def fd_Reader_init : He.DefD := ⟨("Reader", some "__init__"), "__init__", "Reader.__init__", defArgs s_Reader_init, defBody s_Reader_init, defScope s_Reader_init, [], []⟩
def fd_Reader_move : He.DefD := ⟨("Reader", some "move"), "move", "Reader.move", defArgs s_Reader_move, defBody s_Reader_move, defScope s_Reader_move, [], []⟩
def fd_Reader_move_word : He.DefD := ⟨("Reader", some "move_word"), "move_word", "Reader.move_word", defArgs s_Reader_move_word, defBody s_Reader_move_word, defScope s_Reader_move_word, [], []⟩
def fd_Reader_move_sign : He.DefD := ⟨("Reader", some "move_sign"), "move_sign", "Reader.move_sign", defArgs s_Reader_move_sign, defBody s_Reader_move_sign, defScope s_Reader_move_sign, [], []⟩
def fd_Reader_choice : He.DefD := ⟨("Reader", some "choice"), "choice", "Reader.choice", defArgs s_Reader_choice, defBody s_Reader_choice, defScope s_Reader_choice, [], []⟩
def fd_Reader_level : He.DefD := ⟨("Reader", some "level"), "level", "Reader.level", defArgs s_Reader_level, defBody s_Reader_level, defScope s_Reader_level, [], []⟩
def fd_Reader_operand : He.DefD := ⟨("Reader", some "operand"), "operand", "Reader.operand", defArgs s_Reader_operand, defBody s_Reader_operand, defScope s_Reader_operand, [], []⟩
def fd_Plural_init : He.DefD := ⟨("Plural", some "__init__"), "__init__", "Plural.__init__", defArgs s_Plural_init, defBody s_Plural_init, defScope s_Plural_init, [], []⟩
def fd_Plural_tree : He.DefD := ⟨("Plural", some "tree"), "tree", "Plural.tree", defArgs s_Plural_tree, defBody s_Plural_tree, defScope s_Plural_tree, [], []⟩
def fd_l_source : He.DefD := ⟨("_law_source", none), "_law_source", "_law_source", defArgs s_l_source, defBody s_l_source, defScope s_l_source, [], []⟩
def fd_l_draw : He.DefD := ⟨("_law_draw", none), "_law_draw", "_law_draw", defArgs s_l_draw, defBody s_l_draw, defScope s_l_draw, [], []⟩
def fd_l_pick : He.DefD := ⟨("_law_pick", none), "_law_pick", "_law_pick", defArgs s_l_pick, defBody s_l_pick, defScope s_l_pick, [], []⟩
def fd_l_text : He.DefD := ⟨("_law_text", none), "_law_text", "_law_text", defArgs s_l_text, defBody s_l_text, defScope s_l_text, [], []⟩
def fd_l_handed : He.DefD := ⟨("_law_handed", none), "_law_handed", "_law_handed", defArgs s_l_handed, defBody s_l_handed, defScope s_l_handed, [], []⟩
def fd_l_same : He.DefD := ⟨("_law_same", none), "_law_same", "_law_same", defArgs s_l_same, defBody s_l_same, defScope s_l_same, [], []⟩
def fd_l_leaf : He.DefD := ⟨("_law_leaf", none), "_law_leaf", "_law_leaf", defArgs s_l_leaf, defBody s_l_leaf, defScope s_l_leaf, [], []⟩
def fd_l_linear : He.DefD := ⟨("_law_linear", none), "_law_linear", "_law_linear", defArgs s_l_linear, defBody s_l_linear, defScope s_l_linear, [], []⟩
def fd_l_compare : He.DefD := ⟨("_law_compare", none), "_law_compare", "_law_compare", defArgs s_l_compare, defBody s_l_compare, defScope s_l_compare, [], []⟩
def fd_l_value : He.DefD := ⟨("_law_value", none), "_law_value", "_law_value", defArgs s_l_value, defBody s_l_value, defScope s_l_value, [], []⟩
def fd_l_rank : He.DefD := ⟨("_law_rank", none), "_law_rank", "_law_rank", defArgs s_l_rank, defBody s_l_rank, defScope s_l_rank, [], []⟩
def fd_l_written : He.DefD := ⟨("_law_written", none), "_law_written", "_law_written", defArgs s_l_written, defBody s_l_written, defScope s_l_written, [], []⟩
def fd_l_within : He.DefD := ⟨("_law_within", none), "_law_within", "_law_within", defArgs s_l_within, defBody s_l_within, defScope s_l_within, [], []⟩
def fd_l_divisor : He.DefD := ⟨("_law_divisor", none), "_law_divisor", "_law_divisor", defArgs s_l_divisor, defBody s_l_divisor, defScope s_l_divisor, [], []⟩
def fd_l_multiple : He.DefD := ⟨("_law_multiple", none), "_law_multiple", "_law_multiple", defArgs s_l_multiple, defBody s_l_multiple, defScope s_l_multiple, [], []⟩
def fd_l_span : He.DefD := ⟨("_law_span", none), "_law_span", "_law_span", defArgs s_l_span, defBody s_l_span, defScope s_l_span, [], []⟩
def fd_l_end : He.DefD := ⟨("_law_end", none), "_law_end", "_law_end", defArgs s_l_end, defBody s_l_end, defScope s_l_end, [], []⟩
def fd_l_plural : He.DefD := ⟨("_law_plural", none), "_law_plural", "_law_plural", defArgs s_l_plural, defBody s_l_plural, defScope s_l_plural, [], []⟩
def fd_l_ten : He.DefD := ⟨("_law_ten", none), "_law_ten", "_law_ten", defArgs s_l_ten, defBody s_l_ten, defScope s_l_ten, [], []⟩
def fd_l_far : He.DefD := ⟨("_law_far", none), "_law_far", "_law_far", defArgs s_l_far, defBody s_l_far, defScope s_l_far, [], []⟩
def fd_l_planted : He.DefD := ⟨("_law_planted", none), "_law_planted", "_law_planted", defArgs s_l_planted, defBody s_l_planted, defScope s_l_planted, [], []⟩
def fd_l_tails : He.DefD := ⟨("_law_tails", none), "_law_tails", "_law_tails", defArgs s_l_tails, defBody s_l_tails, defScope s_l_tails, [], []⟩
def fd_l_pattern : He.DefD := ⟨("_law_pattern", none), "_law_pattern", "_law_pattern", defArgs s_l_pattern, defBody s_l_pattern, defScope s_l_pattern, [], []⟩
def fd_l_drawn : He.DefD := ⟨("_law_drawn", none), "_law_drawn", "_law_drawn", defArgs s_l_drawn, defBody s_l_drawn, defScope s_l_drawn, [], []⟩
def fd_l_values_right : He.DefD := ⟨("_law_values_right", none), "_law_values_right", "_law_values_right", defArgs s_l_values_right, defBody s_l_values_right, defScope s_l_values_right, [], []⟩
def fd_l_outside_right : He.DefD := ⟨("_law_outside_right", none), "_law_outside_right", "_law_outside_right", defArgs s_l_outside_right, defBody s_l_outside_right, defScope s_l_outside_right, [], []⟩
def fd_l_rest_right : He.DefD := ⟨("_law_rest_right", none), "_law_rest_right", "_law_rest_right", defArgs s_l_rest_right, defBody s_l_rest_right, defScope s_l_rest_right, [], []⟩
def fd_law : He.DefD := ⟨("law", none), "law", "law", defArgs s_law, defBody s_law, defScope s_law, [], []⟩
def hfn : List He.DefD := [fd_common_divisor, fd_common_multiple, fd_parts_of_tree, fd_is_linear, fd_tree_span, fd_common_span, fd_joined, fd_stretches, fd_least_end, fd_overlaid, fd_signed, fd_widened_pieces, fd_signs_of, fd_combined, fd_chosen, fd_divided, fd_refused, fd_classes_of, fd_plural_classes, fd_lowest, fd_first_number, fd_first_signed, fd_first_outside, fd_first_values, fd_last_unlike, fd_rest_of, fd_text, fd_is_digit, fd_is_word_code, fd_Reader_init, fd_Reader_move, fd_Reader_move_word, fd_Reader_move_sign, fd_Reader_choice, fd_Reader_level, fd_Reader_operand, fd_Plural_init, fd_Plural_tree, fd_l_source, fd_l_draw, fd_l_pick, fd_l_text, fd_l_handed, fd_l_same, fd_l_leaf, fd_l_linear, fd_l_compare, fd_l_value, fd_l_rank, fd_l_written, fd_l_within, fd_l_divisor, fd_l_multiple, fd_l_span, fd_l_end, fd_l_plural, fd_l_ten, fd_l_far, fd_l_planted, fd_l_tails, fd_l_pattern, fd_l_drawn, fd_l_values_right, fd_l_outside_right, fd_l_rest_right, fd_law]
def hfa0 : List He.Fa := [.glo "common_divisor", .glo "common_multiple", .glo "parts_of_tree", .glo "is_linear", .glo "tree_span", .glo "common_span", .glo "joined", .glo "stretches", .glo "least_end", .glo "overlaid", .glo "signed", .glo "widened_pieces", .glo "signs_of", .glo "combined", .glo "chosen", .glo "divided", .glo "refused", .glo "classes_of", .glo "plural_classes", .glo "lowest", .glo "first_number", .glo "first_signed", .glo "first_outside", .glo "first_values", .glo "last_unlike", .glo "rest_of", .glo "text", .glo "is_digit", .glo "is_word_code", .glo "_law_source"]
def hfa1 : List He.Fa := [.glo "_law_draw", .glo "_law_pick", .glo "_law_text", .glo "_law_handed", .glo "_law_same", .glo "_law_leaf", .glo "_law_linear", .glo "_law_compare", .glo "_law_value", .glo "_law_rank", .glo "_law_written", .glo "_law_within", .glo "_law_divisor", .glo "_law_multiple", .glo "_law_span", .glo "_law_end", .glo "_law_plural", .glo "_law_ten", .glo "_law_far", .glo "_law_planted", .glo "_law_tails", .glo "_law_pattern", .glo "_law_drawn", .glo "_law_values_right", .glo "_law_outside_right", .glo "_law_rest_right", .glo "law", .glo "Reader", .glo "Plural", .glo "SIGNS"]
def hfa2 : List He.Fa := [.glo "LEVELS", .glo "COMPARISONS", .glo "WORDS", .free "len", .free "abs", .free "ord", .free "isinstance", .free "all", .free "any", .free "max", .free "min", .free "int", .free "str", .free "list", .free "tuple", .free "bool", .free "set", .free "sorted", .free "range", .free "enumerate", .free "zip", .int "GREATEST" 1000, .int "PERCENT" 37, .cls "Reader", .mkr "Reader", .noat "Reader" "codes", .noat "Reader" "after", .noat "Reader" "word", .noat "Reader" "number", .noat "Reader" "begin"]
def hfa3 : List He.Fa := [.cls "Plural", .mkr "Plural", .noat "Plural" "codes", .noat "Plural" "rule", .meth "Reader" "__init__", .meth "Reader" "move", .meth "Reader" "move_word", .meth "Reader" "move_sign", .meth "Reader" "choice", .meth "Reader" "level", .meth "Reader" "operand", .meth "Plural" "__init__", .meth "Plural" "tree"]
def hfa : List He.Fa := hfa0 ++ hfa1 ++ hfa2 ++ hfa3
def hnm0 : List Str := ["_wall", "ShelfError", "PluralError", "NotLinear", "TooLarge", "GREATEST", "common_divisor", "common_multiple", "parts_of_tree", "is_linear", "tree_span", "common_span", "joined", "stretches", "least_end", "overlaid", "signed", "widened_pieces", "signs_of", "combined", "chosen", "divided", "refused", "classes_of", "plural_classes", "lowest", "first_number", "first_signed", "first_outside", "first_values"]
def hnm1 : List Str := ["last_unlike", "rest_of", "text", "SIGNS", "WORDS", "LEVELS", "COMPARISONS", "PERCENT", "is_digit", "is_word_code", "Reader", "compared", "worked", "value_of", "Plural", "_law_source", "_law_draw", "_law_pick", "_law_text", "_law_handed", "_law_same", "_law_leaf", "_law_linear", "_law_compare", "_law_value", "_law_rank", "_law_written", "_law_within", "_law_divisor", "_law_multiple"]
def hnm2 : List Str := ["_law_span", "_law_end", "_law_plural", "_law_ten", "_law_far", "_law_planted", "_law_tails", "_law_pattern", "_law_drawn", "_law_values_right", "_law_outside_right", "_law_rest_right"]
def hnm : List Str := hnm0 ++ hnm1 ++ hnm2
def hlaw : Nat := 78
/-! tuples by their places -/
def seqOf (K : PySem.W.Frag) (a : Addr) : Option (List Value) := match K.lookup a with
  | some ⟨.type c, _, .seq its _, _⟩ => if c = "tuple" ∧ its.size ≤ sizeLine then some its.toList else none
  | _ => none
theorem seqOf_ok {K : PySem.W.Frag} {a : Addr} {us : List Value} {vs : List V} (h : seqOf K a = some us) (r : He.relAll vs us = true) (B : Hp) : SqT K B a vs := by
  unfold seqOf at h
  split at h
  · rename_i c d its n sl q
    split at h
    · rename_i hc
      cases h
      exact .inr ⟨_, its, n, q, congrArg Value.type hc.1, rfl, hc.2, He.relAll_ok r⟩
    · cases h
  · cases h
def strsAt (K : PySem.W.Frag) (a : Addr) (xs : List Str) : Bool := match seqOf K a with
  | some us => He.relAll (xs.map V.str) us
  | none => false
theorem dvs_strs {K : PySem.W.Frag} {B : Hp} : ∀ xs : List Str, DVs K B (xs.map V.str) (xs.map D.str)
  | [] => .nil
  | x :: xs => .cons (.str x) (dvs_strs xs)
theorem strsAt_ok {K : PySem.W.Frag} {a : Addr} {xs : List Str} (h : strsAt K a xs = true) (B : Hp) : DV K B (.ref a) (.tup (xs.map D.str)) := by
  unfold strsAt at h
  split at h
  · rename_i us e
    exact .tup (seqOf_ok e h B) (dvs_strs xs)
  · cases h
def refsAt (K : PySem.W.Frag) : List Value → List (List Str) → Bool
  | [], [] => true
  | .ref a :: us, xs :: xss => strsAt K a xs && refsAt K us xss
  | _, _ => false
theorem refsAt_ok {K : PySem.W.Frag} : ∀ {us : List Value} {xss : List (List Str)}, refsAt K us xss = true → ∃ vs : List V, He.relAll vs us = true ∧ ∀ B, DVs K B vs (xss.map fun xs => D.tup (xs.map D.str))
  | [], [], _ => ⟨[], rfl, fun B => .nil⟩
  | [], _ :: _, h => by cases h
  | u :: us, [], h => by cases u <;> cases h
  | u :: us, xs :: xss, h => by
    cases u with
    | ref a =>
      obtain ⟨h1, h2⟩ := Bool.and_eq_true_iff.mp (show (strsAt K a xs && refsAt K us xss) = true from h)
      obtain ⟨vs, r1, r2⟩ := refsAt_ok h2
      refine ⟨.ref a :: vs, ?_, fun B => .cons (strsAt_ok h1 B) (r2 B)⟩
      show (decide (a = a) && He.relAll vs us) = true
      rw [decide_eq_true rfl, r1]
      rfl
    | _ => cases h
def nestAt (K : PySem.W.Frag) (a : Addr) (xss : List (List Str)) : Bool := match seqOf K a with
  | some us => refsAt K us xss
  | none => false
theorem nestAt_ok {K : PySem.W.Frag} {a : Addr} {xss : List (List Str)} (h : nestAt K a xss = true) (B : Hp) : DV K B (.ref a) (.tup (xss.map fun xs => D.tup (xs.map D.str))) := by
  unfold nestAt at h
  split at h
  · rename_i us e
    obtain ⟨vs, r1, r2⟩ := refsAt_ok h
    exact .tup (seqOf_ok e r1 B) (r2 B)
  · cases h
def wordAt (K : PySem.W.Frag) (a : Addr) (x : Str) : Bool := match PySem.W.nsIn K a x, wordsV x with
  | some none, none => true
  | some (some u), some v => He.relB v u
  | _, _ => false
theorem wordAt_ok {K : PySem.W.Frag} {a : Addr} {x : Str} (h : wordAt K a x = true) : ∃ (r : Option Value) (o : Option V), PySem.W.nsIn K a x = some r ∧ RelO o r ∧ o = wordsV x := by
  unfold wordAt at h
  cases e1 : PySem.W.nsIn K a x with
  | none => rw [e1] at h; cases h
  | some r =>
    cases r with
    | none =>
      cases e2 : wordsV x with
      | none => exact ⟨none, none, rfl, trivial, rfl⟩
      | some v => rw [e1, e2] at h; cases h
    | some u =>
      cases e2 : wordsV x with
      | none => rw [e1, e2] at h; cases h
      | some v =>
        rw [e1, e2] at h
        exact ⟨some u, some v, rfl, He.relB_ok h, rfl⟩
def lSIGNS : List Str := ["<=", ">=", "==", "!=", "&&", "||", "(", ")", "?", ":", "!", "*", "/", "+", "-", "<", ">"]
def lLEVELS : List (List Str) := [["or"], ["and"], ["==", "!="], ["<", ">", "<=", ">="], ["+", "-"], ["*", "/", "mod"]]
def lCOMPARISONS : List Str := ["==", "!=", "<", ">", "<=", ">="]
def hex (K : PySem.W.Frag) : Bool := strsAt K (He.ga K "SIGNS") lSIGNS && (nestAt K (He.ga K "LEVELS") lLEVELS && (strsAt K (He.ga K "COMPARISONS") lCOMPARISONS && signWords.all (wordAt K (He.ga K "WORDS"))))
def hts : List He.Tab := [(fun K => He.ga K "WORDS", ["||", "&&"])]
abbrev hR : PySem.W.OpenRow := PySem.W.OpenLaw.row PySem.Challenge.rw_messageshelf_k26_whole_answers_fit_toget
abbrev hk : PySem.W.Hook := He.hookX 4 hfa hfn hts [] hex
def hob (s : PySem.W.SharedT) : He.AlX := He.obsX 4 hfa hfn hts [] hex (HandSHeadRun.getT s)
theorem hob_eq (s : PySem.W.SharedT) : hob s = hk.obs s.abs := He.obsX_eq (HandSHeadRun.getT_eq s)
theorem hrunF (w : World) : HandSHeadRun.RunEq hR (PySem.W.view hR.prog [78]) hk hob 8000 hnm (w.withFollow "special-get-raises" false) := by
  intro os
  kernel_rfl
theorem hrunT (w : World) : HandSHeadRun.RunEq hR (PySem.W.view hR.prog [78]) hk hob 8000 hnm (w.withFollow "special-get-raises" true) := by
  intro os
  kernel_rfl
theorem hrun (w : World) : HandSHeadRun.RunEq hR (PySem.W.view hR.prog [78]) hk hob 8000 hnm w :=
  PySem.W.byRow2 "special-get-raises" (P := fun w => HandSHeadRun.RunEq hR (PySem.W.view hR.prog [78]) hk hob 8000 hnm w) hrunF hrunT w
end Ms
set_option Elab.async false
set_option linter.all false
set_option maxRecDepth 100000
set_option maxHeartbeats 4000000
namespace Ms
open PySem PySem.Spec L2 Ab
open PyProof.Rows hiding St
local macro_rules | `(tactic| walk_at "e1") => `(tactic| first
  | ((with_reducible refine' we_var ?hv ?_); case hv => rfl)
  | (with_reducible refine we_cI ?_)
  | (with_reducible refine we_cS ?_)
  | (with_reducible refine we_cB ?_)
  | (with_reducible refine we_cN ?_)
  | ((with_reducible refine' we_ixJ ?hv ?hw ?_); (case hv => rfl); (case hw => rfl))
  | (with_reducible refine we_opc ?_)
  | (with_reducible refine we_cbc ?_)
  | (with_reducible refine wa_cons ?_)
  | (with_reducible refine wa_nil ?_)
  | (with_reducible refine wt_test ?_)
  | (with_reducible refine we_if ?_)
  | (with_reducible refine wt_B ?_)
  | (with_reducible refine wt_not ?_)
  | (with_reducible refine wt_and ?_)
  | (with_reducible refine wt_or ?_)
  | (with_reducible refine we_tupS ?_)
  | (with_reducible refine we_lstS ?_)
  | (with_reducible refine we_andV ?_)
  | (with_reducible refine we_orV ?_)
  | (with_reducible refine we_notV ?_)
  | (with_reducible refine we_chainc ?_)
  | (with_reducible refine we_callD ?_)
  | (with_reducible refine we_un au_neg ?_)
  | refine fI2.i ?_
  | refine fPlus.i ?_
  | refine fEq.i ?_
  | refine fEq.s ?_
  | refine fC2.i ?_
  | refine fMax3.i ?_
  | refine fInt.i ?_
  | refine fInt.b ?_
  | refine fLen.l ?_
  | refine fLen.t ?_
  | refine fNo.i ?_
  | refine ix_hd ?_
  | refine fIx.t rfl ?_
  | refine fIx.l rfl ?_
  | refine fEq.b ?_
  | refine fIn.t rfl rfl ?_
  | refine fIn.l rfl rfl ?_
  | refine fSl.t ?_
  | refine fSl.l ?_
  | (with_reducible refine we_sl ?_)
  | (with_reducible refine wp_cons ?_)
  | (with_reducible refine wp_nil ?_)
  | refine we_fld1 rfl (by with_reducible assumption) (by with_reducible assumption) rfl ?_
  | (with_reducible refine wo_none ?_)
  | (with_reducible refine wo_some ?_)
  | refine fNeg.i ?_
  | refine fDs.mk rfl (Nat.le_of_ble_eq_true rfl) ?_
  | ((with_reducible refine br_t ?hv ?_); case hv => rfl)
  | ((with_reducible refine br_f ?hv ?_); case hv => rfl)
  | ((with_reducible refine' Exists.intro _ (And.intro ?hv ?_)); case hv => rfl)
  | ((with_reducible refine' Exists.intro _ (Exists.intro _ (And.intro ?hv ?_))); case hv => rfl)
  | ((with_reducible refine' Exists.intro _ (Exists.intro _ (Exists.intro _ (And.intro ?hv ?_)))); case hv => rfl))
local macro_rules | `(tactic| walk_at "t1") => `(tactic| first
  | (with_reducible refine ws_seq ?_)
  | (with_reducible refine ws_newL ?_)
  | (with_reducible refine ws_newD ?_)
  | (with_reducible refine ws_set ?_)
  | (with_reducible refine ws_if ?_)
  | (with_reducible refine ws_ret ?_)
  | (with_reducible refine ws_next ?_)
  | (with_reducible refine ws_par ?_)
  | (with_reducible refine ws_par3 ?_)
  | (with_reducible refine ws_drop ?_)
  | (with_reducible refine ws_retN ?_))
local macro_rules | `(tactic| walk_at "f1") => `(tactic| refine ws_fld1 rfl (by with_reducible assumption) (by with_reducible assumption) (Nat.le_of_ble_eq_true rfl) ?_)
local macro_rules | `(tactic| walk_at "s1") => `(tactic| first | walk_at "e1" | walk_at "t1")
local macro_rules | `(tactic| walk_at "ge") => `(tactic| repeat walk_at "e1")
local macro_rules | `(tactic| walk_at "go") => `(tactic| repeat walk_at "s1")
local macro_rules | `(tactic| walk_at "g1") => `(tactic| refine Exists.intro _ (Exists.intro _ (And.intro g_name ?_)))
local macro_rules | `(tactic| walk_at "g2") => `(tactic| refine Exists.intro _ (Exists.intro _ (And.intro (g_tup rfl (gs_cons g_name (gs_cons g_name gs_nil))) ?_)))
local macro_rules | `(tactic| walk_at "g3") => `(tactic| refine Exists.intro _ (Exists.intro _ (And.intro (g_tup rfl (gs_cons g_name (gs_cons g_name (gs_cons g_name gs_nil)))) ?_)))
local macro_rules | `(tactic| walk_at "g4") => `(tactic| refine Exists.intro _ (Exists.intro _ (And.intro (g_tup rfl (gs_cons g_name (gs_cons g_name (gs_cons g_name (gs_cons g_name gs_nil))))) ?_)))
local macro_rules | `(tactic| walk_at "g6") => `(tactic| refine Exists.intro _ (Exists.intro _ (And.intro (g_tup rfl (gs_cons g_name (gs_cons g_name (gs_cons g_name (gs_cons g_name (gs_cons g_name (gs_cons g_name gs_nil))))))) ?_)))
local macro_rules | `(tactic| walk_at "g13") => `(tactic| refine Exists.intro _ (Exists.intro _ (And.intro (g_tup rfl (gs_cons g_name (gs_cons (g_tup rfl (gs_cons g_name (gs_cons g_name (gs_cons g_name gs_nil)))) gs_nil))) ?_)))
local macro_rules | `(tactic| walk_at "nm") => `(tactic| try dsimp only [awipe, List.set_cons_succ, List.set_cons_zero, List.map])
local macro_rules | `(tactic| walk_at "c1") => `(tactic| refine Exists.intro _ (Exists.intro _ (And.intro g_name (And.intro (by decide) ?_))))
local macro_rules | `(tactic| walk_at "c3") => `(tactic| refine Exists.intro _ (Exists.intro _ (And.intro (g_tup rfl (gs_cons g_name (gs_cons g_name (gs_cons g_name gs_nil)))) (And.intro (by decide) ?_))))
local macro_rules | `(tactic| walk_at "c2") => `(tactic| refine Exists.intro _ (Exists.intro _ (And.intro (g_tup rfl (gs_cons g_name (gs_cons g_name gs_nil))) (And.intro (by decide) ?_))))
section
variable {P : Program} {w : World} {K : PySem.W.Frag} {mg : Str → Option Value} {base : Heap}
/-! bounds -/
def Bd (k : Nat) (i : Int) : Prop := i.natAbs < 2 ^ k
theorem Bd.mono {j k : Nat} {i : Int} (h : Bd j i) (l : j ≤ k) : Bd k i := Nat.lt_of_lt_of_le h (Nat.pow_le_pow_right (by omega) l)
theorem Bd.log {k : Nat} {i : Int} (h : Bd k i) (hk : 0 < k) : i.natAbs.log2 < k := by
  by_cases q : i.natAbs = 0
  · rw [q]; exact hk
  · exact (Nat.log2_lt q).mpr h
theorem Bd.neg {k : Nat} {i : Int} (h : Bd k i) : Bd k (-i) := by unfold Bd at *; omega
theorem Bd.add {k : Nat} {i j : Int} (h : Bd k i) (g : Bd k j) : Bd (k + 1) (i + j) := by
  unfold Bd at *; rw [Nat.pow_succ]; omega
theorem Bd.sub {k : Nat} {i j : Int} (h : Bd k i) (g : Bd k j) : Bd (k + 1) (i - j) := by
  unfold Bd at *; rw [Nat.pow_succ]; omega
theorem Bd.mul {k l : Nat} {i j : Int} (h : Bd k i) (g : Bd l j) : Bd (k + l) (i * j) := by
  unfold Bd at *; rw [Int.natAbs_mul, Nat.pow_add]; exact Nat.mul_lt_mul'' h g
theorem Bd.muls {k : Nat} {i s : Int} (h : Bd k i) (g : s.natAbs ≤ 1) : Bd k (i * s) := by
  unfold Bd at *
  rw [Int.natAbs_mul]
  exact Nat.lt_of_le_of_lt (by rcases Nat.le_one_iff_eq_zero_or_eq_one.mp g with e | e <;> rw [e] <;> omega) h
theorem mulOk {k l : Nat} {i j : Int} (h : Bd k i) (g : Bd l j) (hk : 0 < k) (hl : 0 < l) (q : k + l ≤ 1000000) : CMulW i j := by
  have := h.log hk
  have := g.log hl
  unfold CMulW
  omega
theorem divOk {k : Nat} {i j : Int} (g : Bd k j) (hp : 0 < j) (hk : 0 < k) (q : k ≤ 9000) : CDivW i j := ⟨hp, by have := g.log hk; omega⟩
/-! data -/
def encO : Option Int → D
  | none => .non
  | some i => .int i
abbrev Det_least_end : FT := Det (fun z : Option Int × Option Int => [encO z.1, encO z.2]) (fun _ => True) (fun z => encO (leastEnd z.1 z.2))
theorem ok_least_end (T : Txt K w mg) : FnOk P w K mg base CX0 1 T.least_end.f T.least_end.fd P_least_end (spG K Det_least_end) := by
  refine okDet T.least_end.F sc_least_end (fun x => rfl) fun cdv A outer s H E z hr _ => ?_
  obtain ⟨x, y⟩ := z
  have hu := hu_of hr
  refine ⟨_, (pss_cons (ps_if (PW.pt (pw_or (pt_cmpR op_isNo (pv 0) pe_non (nomark _)) (pw_or1 (pt_cmpR op_isNo (pv 1) pe_non (nomark _))))) (pss_one (ps_ret (pe_ifExp (pt_cmpR op_isNo (pv 0) pe_non (nomark _)) (pv 1) (pv 0)))) pss_nil)
        (pss_one (ps_ret (pe_callB (cl_min2 rfl) (by rfl) T.b_min (by decide +kernel) (pa_cons (pv 0) (pa_cons (pv 1) pa_nil)))))), ?_⟩
  try dsimp only [cx_K, cx_w]
  refine ws_rho (ρ' := [some _, some _]) rfl ?_
  cases x with
  | none =>
    walk_at "go"
    exact ⟨rfl, rfl⟩
  | some x =>
    cases y with
    | none => 
      walk_at "go"
      exact ⟨rfl, rfl⟩
    | some y => 
      walk_at "go"
      exact ⟨rfl, rfl⟩
abbrev encSg (g : Sg) : D := .tup [.int g.1, encO g.2.1, .int g.2.2]
theorem rsP {γ : Type} {p : Addr} {b ys : List γ} {e : γ → D} {d : D} {Rf : RS} (h : ys.map e = [d]) : (p, RV.lst (b.map e ++ [d])) :: Rf = (p, RV.lst ((b ++ ys).map e)) :: Rf := by rw [List.map_append, h]
theorem rsN {γ : Type} {p : Addr} {b ys : List γ} {e : γ → D} {Rf : RS} (h : ys = []) : (p, RV.lst (b.map e)) :: Rf = (p, RV.lst ((b ++ ys).map e)) :: Rf := by rw [h, List.append_nil]
theorem clip_len (s : Int) (e : Option Int) (g : Sg) : (clip s e g).length ≤ 1 := by unfold clip; split <;> simp
abbrev Det_signed : FT := Det (fun z : Int × Option Int × Int × Int => [.int z.1, encO z.2.1, .int z.2.2.1, .int z.2.2.2]) (fun z => Bd 9000 z.2.2.1 ∧ Bd 9000 z.2.2.2) (fun z => .lst ((signedM z.1 z.2.1 z.2.2.1 z.2.2.2).map encSg))
theorem okHL_none {l : Int} : okHL l none = true := rfl
theorem ok_signed (T : Txt K w mg) : FnOk P w K mg base CX0 2 T.signed.f T.signed.fd P_signed (spG K Det_signed) := by
  refine okDet T.signed.F sc_signed (fun x => rfl) fun cdv A outer s H E z hr pre => ?_
  obtain ⟨s0, e0, a, b0⟩ := z
  have hu := hu_of hr
  refine ⟨_, (pss_cons (ps_if (pt_cmpR op_eq (pv 3) pe_int (nomark _)) (pss_one (ps_ret (pe_lst (pa_cons (pe_tup (pa_cons (pv 0) (pa_cons (pv 1) (pa_cons (pe_op op_sub (pe_callTy cl_int (by rfl) T.b_int (by decide +kernel) (pa_cons (pe_cmpR op_gt (pv 2) pe_int (nomark _)) pa_nil)) (pe_callTy cl_int (by rfl) T.b_int (by decide +kernel) (pa_cons (pe_cmpR op_lt (pv 2) pe_int (nomark _)) pa_nil))) pa_nil)))) pa_nil)))) pss_nil)
        (pss_cons (ps_set (i := 4) sc_signed.nd rfl (.inl rfl) (pe_ifExp (pt_cmpR op_gt (pv 3) pe_int (nomark _)) pe_int (pe_un un_neg pe_int)))
        (pss_cons (ps_par (i := 2) (j := 3) (by rfl) sc_signed.nd rfl rfl (by decide) rfl rfl (pa_cons (pe_op op_mulW (pv 2) (pv 4)) (pa_cons (pe_op op_mulW (pv 3) (pv 4)) pa_nil)) (by rfl))
        (pss_cons (ps_par (i := 5) (j := 6) (by rfl) sc_signed.nd rfl rfl (by decide) rfl rfl (pa_cons (pe_op op_sub pe_int (pe_op op_fdivW (pv 2) (pv 3))) (pa_cons (pe_op op_plus (pe_op op_fdivW (pe_op op_sub pe_int (pv 2)) (pv 3)) pe_int) pa_nil)) (by rfl))
        (pss_cons (ps_set (i := 7) sc_signed.nd rfl (.inl rfl) (pe_lst pa_nil))
        (pss_cons (ps_for PassesOwn.never rfl (pi_seq (pe_tup (pa_cons (pe_tup (pa_cons (pv 0) (pa_cons (pv 5) (pa_cons (pe_op op_sub pe_int (pv 4)) pa_nil)))) (pa_cons (pe_tup (pa_cons (pv 5) (pa_cons (pv 6) (pa_cons pe_int pa_nil)))) (pa_cons (pe_tup (pa_cons (pv 6) (pa_cons pe_non (pa_cons (pv 4) pa_nil)))) pa_nil))))) (pg_tup (n := 3) rfl (pgs_cons (pg_name (i := 8) sc_signed.nd rfl (.inl rfl)) (pgs_cons (pg_name (i := 9) sc_signed.nd rfl (.inl rfl)) (pgs_cons (pg_name (i := 10) sc_signed.nd rfl (.inl rfl)) pgs_nil)))) (pss_cons (ps_par (i := 8) (j := 9) (by rfl) sc_signed.nd rfl rfl (by decide) rfl rfl (pa_cons (pe_callB (cl_max2 rfl) (by rfl) T.b_max (by decide +kernel) (pa_cons (pv 0) (pa_cons (pv 8) pa_nil))) (pa_cons (pe_call (ok_least_end T) (hr.mono (by omega)) (by rfl) T.least_end.m T.least_end.F.kp T.least_end.b .nil pass0 (pa_cons (pv 9) (pa_cons (pv 1) pa_nil))) pa_nil)) (by rfl))
        (pss_one (ps_if (PW.pt (pw_or (pt_cmpR op_isNo (pv 9) pe_non (nomark _)) (pw_or1 (pt_cmpR op_lt (pv 8) (pv 9) (nomark _))))) (pss_one (ps_expr (pe_bm PySem.F.plainAttrs_list PySem.F.slot_list_append PySem.F.type_list_append mt_append (pv 7) (pa_cons (pe_tup (pa_cons (pv 8) (pa_cons (pv 9) (pa_cons (pv 10) pa_nil)))) pa_nil)))) pss_nil))))
        (pss_one (ps_ret (pv 7))))))))), ?_⟩
  try dsimp only [cx_K, cx_w]
  refine ws_rho (ρ' := [some _, some _, some _, some _, none, none, none, none, none, none, none]) rfl ?_
  walk_at "go"
  refine ⟨fun hb => ?_, fun hb => ?_⟩
  · walk_at "go"
    simp only [Bool.xor_false, decide_eq_true_eq] at hb
    refine ⟨?_, rfl⟩
    simp [signedM, hb, b2i, encSg]
  · simp only [Bool.xor_false, decide_eq_false_iff_not] at hb
    have hs1 : (sgn b0).natAbs ≤ 1 := by unfold sgn; split <;> decide
    have hbp : 0 < b0 * sgn b0 := by
      unfold sgn
      split
      · omega
      · omega
    obtain ⟨pa, pb⟩ := pre
    have pa : Bd 9000 a := pa
    have pb : Bd 9000 b0 := pb
    have hm : ∀ x, Bd 9000 x → CMulW x (sgn b0) := fun x hx => mulOk hx (l := 2) (show (sgn b0).natAbs < 2 ^ 2 by omega) (by omega) (by omega) (by omega)
    walk_at "s1"
    refine ws_seq (ws_setE (.d (.int (sgn b0))) ?_ ?_)
    · walk_at "go"
      refine ⟨fun h => ?_, fun h => ?_⟩
      · walk_at "go"
        refine ⟨?_, rfl⟩
        unfold sgn
        rw [if_pos (of_decide_eq_true h)]
      · walk_at "go"
        refine ⟨?_, rfl⟩
        unfold sgn
        rw [if_neg (of_decide_eq_false h)]
    walk_at "go"
    refine fI2c.i (hm _ pa) ?_
    walk_at "go"
    refine fI2c.i (hm _ pb) ?_
    walk_at "go"
    have pas : Bd 9000 (a * sgn b0) := pa.muls hs1
    have pbs : Bd 9000 (b0 * sgn b0) := pb.muls hs1
    refine fI2c.i (divOk pbs hbp (by omega) (by omega)) ?_
    walk_at "go"
    refine fI2c.i (divOk pbs hbp (by omega) (by omega)) ?_
    walk_at "go"
    intro p
    walk_at "go"
    refine ws_forP (p := p) (Rf := []) [((s0, some (0 - a * sgn b0 / (b0 * sgn b0)), 0 - sgn b0) : Sg), (0 - a * sgn b0 / (b0 * sgn b0), some ((0 - a * sgn b0) / (b0 * sgn b0) + 1), 0), ((0 - a * sgn b0) / (b0 * sgn b0) + 1, none, sgn b0)] encSg (clip s0 e0) [] encSg [8, 9, 10] ?_ (fun x b hx hl => ?_) ?_
    · refine wi_seq ?_
      walk_at "go"
      exact ⟨_, fSeq.t, rfl, rfl⟩
    · have hl2 : b.length < 10000000 := by
        simp only [List.flatMap_cons, List.flatMap_nil, List.length_append, List.length_nil] at hl
        have := clip_len s0 e0 (s0, some (0 - a * sgn b0 / (b0 * sgn b0)), 0 - sgn b0)
        have := clip_len s0 e0 (0 - a * sgn b0 / (b0 * sgn b0), some ((0 - a * sgn b0) / (b0 * sgn b0) + 1), 0)
        have := clip_len s0 e0 ((0 - a * sgn b0) / (b0 * sgn b0) + 1, none, sgn b0)
        omega
      obtain ⟨l, h, t⟩ := x
      walk_at "nm"
      walk_at "g3"
      walk_at "nm"
      walk_at "go"
      refine ⟨(h, e0), rfl, trivial, ?_⟩
      walk_at "go"
      walk_at "nm"
      cases eh : leastEnd h e0 with
      | none =>
        walk_at "go"
        refine we_app1 rfl (by rw [List.length_map]; exact hl2) ?_
        walk_at "go"
        refine ⟨rfl, rfl, rsP ?_⟩
        simp [clip, eh, okHL, encSg, encO]
      | some h2 =>
        walk_at "go"
        refine ⟨fun q => ?_, fun q => ?_⟩
        · walk_at "go"
          refine we_app1 rfl (by rw [List.length_map]; exact hl2) ?_
          walk_at "go"
          refine ⟨rfl, rfl, rsP ?_⟩
          simp [clip, eh, okHL, encSg, encO, of_decide_eq_true q]
        · walk_at "go"
          refine ⟨rfl, rsN ?_⟩
          simp [clip, eh, okHL, encSg, encO, of_decide_eq_false q]
    · refine ws_retL rfl ⟨?_, rfl⟩
      rw [signedM, if_neg hb]
      rfl
/-! pieces -/
abbrev encP (p : Piece) : D := .tup [.int p.1, .int p.2.1, .int p.2.2]
abbrev encPs (ps : List Piece) : D := .lst (ps.map encP)
abbrev encS (s : Str4) : D := .tup [.int s.1, encO s.2.1, .int s.2.2.1, .int s.2.2.2]
abbrev encS6 (s : Str6) : D := .tup [.int s.1, encO s.2.1, .int s.2.2.1, .int s.2.2.2.1, .int s.2.2.2.2.1, .int s.2.2.2.2.2]
theorem encP_pL (b : List Piece) : b.map encP = (b.map pL).map fun ns => D.tup (ns.map .int) := by rw [List.map_map]; rfl
abbrev Det_joined : FT := Det (fun z : List Piece => [encPs z]) (fun z => z.length < 10000000) (fun z => encPs (joinedM z))
theorem joinStep_nil {p : Piece} : joinStep [] p = [p] := rfl
theorem joinStep_len (b : List Piece) (p : Piece) : (joinStep b p).length ≤ b.length + 1 := by
  unfold joinStep
  split
  · simp
  · split <;> simp
theorem joinFold_len (xs b : List Piece) : (xs.foldl joinStep b).length ≤ b.length + xs.length := by
  induction xs generalizing b with
  | nil => exact Nat.le_refl _
  | cons x xs ih =>
    have := ih (joinStep b x)
    have := joinStep_len b x
    simp only [List.foldl_cons, List.length_cons]
    omega
theorem ok_joined (T : Txt K w mg) : FnOk P w K mg base CX0 1 T.joined.f T.joined.fd P_joined (spG K Det_joined) := by
  refine okDet T.joined.F sc_joined (fun x => rfl) fun cdv A outer s H E z hr pre => ?_
  have hu := hu_of hr
  refine ⟨_, (pss_cons (ps_set (i := 1) sc_joined.nd rfl (.inl rfl) (pe_lst pa_nil))
        (pss_cons (ps_for PassesOwn.never rfl (pi_seq (pv 0)) (pg_tup (n := 3) rfl (pgs_cons (pg_name (i := 2) sc_joined.nd rfl (.inl rfl)) (pgs_cons (pg_name (i := 3) sc_joined.nd rfl (.inl rfl)) (pgs_cons (pg_name (i := 4) sc_joined.nd rfl (.inl rfl)) pgs_nil)))) (pss_one (ps_if (PW.pt (pw_or (pt_cmpR (op_eqD hr.units) (pv 1) (pe_lst pa_nil) (nomark _)) (pw_or1 (pt_cmpR (op_neD hr.units) (pe_slice sl_any (pe_ix ix_seq (pv 1) (pe_un un_neg pe_int) (fun _ _ => rfl)) (po_some pe_int) po_none) (pe_tup (pa_cons (pv 3) (pa_cons (pv 4) pa_nil))) (nomark _))))) (pss_one (ps_expr (pe_bm PySem.F.plainAttrs_list PySem.F.slot_list_append PySem.F.type_list_append mt_append (pv 1) (pa_cons (pe_tup (pa_cons (pv 2) (pa_cons (pv 3) (pa_cons (pv 4) pa_nil)))) pa_nil)))) pss_nil)))
        (pss_one (ps_ret (pv 1))))), ?_⟩
  try dsimp only [cx_K, cx_w]
  refine ws_rho (ρ' := [some _, none, none, none, none]) rfl ?_
  walk_at "go"
  intro p
  walk_at "go"
  refine ws_forB z encP joinStep [] [2, 3, 4] (fun _ => [some (.d (encPs z)), some (.v (.ref p)), none, none, none]) (fun b => [(p, .lst (b.map encP))]) ?_ rfl (fun pre2 x post b e1 e2 => ?_) ?_
  · refine wi_seq ?_
    walk_at "go"
    exact ⟨_, fSeq.l, rfl, rfl⟩
  · have hl2 : (b.map encP).length < 10000000 := by
      have h1 := joinFold_len pre2 []
      have h2 : z.length = pre2.length + (post.length + 1) := by rw [e1]; simp
      rw [List.length_map, e2]
      simp only [List.length_nil] at h1
      omega
    obtain ⟨x1, x2, x3⟩ := x
    walk_at "g3"
    walk_at "nm"
    refine ws_if (wt_or (wt_test (we_eqNil1 (b.map pL) rfl (encP_pL b) ?_)))
    walk_at "go"
    rcases List.eq_nil_or_concat b with hb | ⟨b2, l, hb⟩
    · subst hb
      walk_at "go"
      refine we_app1 rfl hl2 ?_
      walk_at "go"
      exact ⟨rfl, rfl, rfl⟩
    · have hb : b = b2 ++ [l] := by rw [hb]; simp
      have hd : decide (b.map pL = []) = false := decide_eq_false (by rw [hb]; simp)
      have ha : atI (b.map encP) (-1) = some (encP l) := by
        rw [hb, List.map_append]
        exact atI_last _ _
      have hj : joinStep b (x1, x2, x3) = if l.2 = (x2, x3) then b else b ++ [(x1, x2, x3)] := by
        unfold joinStep
        rw [hb, List.getLast?_concat]
      obtain ⟨l1, l2, l3⟩ := l
      refine br_f hd ?_
      walk_at "s1"
      walk_at "s1"
      walk_at "s1"
      refine we_ix1 rfl ?_
      walk_at "go"
      refine ⟨rfl, _, ha, ?_⟩
      walk_at "go"
      refine fEqD.t (xs := [l2, l3]) (ys := [x2, x3]) ?_
      walk_at "go"
      refine ⟨fun q => ?_, fun q => ?_⟩
      · walk_at "go"
        refine we_app1 rfl hl2 ?_
        walk_at "go"
        have hn : ¬ (l2, l3) = (x2, x3) := by simp at q ⊢; omega
        refine ⟨rfl, rfl, ?_⟩
        rw [hj, if_neg hn, List.map_append]
        rfl
      · walk_at "go"
        have hn : (l2, l3) = (x2, x3) := by simpa using q
        refine ⟨rfl, ?_⟩
        rw [hj, if_pos hn]
  · refine ws_retL rfl ⟨rfl, rfl⟩
/-! stretches -/
abbrev Det_stretches : FT := Det (fun z : List Piece => [encPs z]) (fun z => z.length < 10000000) (fun z => .lst ((stretchesM z).map encS))
def str1 (z : List Piece) (q : Piece × Nat) : List Str4 := [(q.1.1, (z[q.2 + 1]?).map (fun r => r.1), q.1.2.1, q.1.2.2)]
theorem str1_all (pre z : List Piece) : (z.zipIdx pre.length).flatMap (str1 (pre ++ z)) = stretchesM z := by
  induction z generalizing pre with
  | nil => rfl
  | cons p z ih =>
    have h := ih (pre ++ [p])
    rw [List.length_append, List.append_assoc] at h
    have h : (z.zipIdx (pre.length + 1)).flatMap (str1 (pre ++ p :: z)) = stretchesM z := h
    rw [List.zipIdx_cons, List.flatMap_cons, h]
    have e : (pre ++ p :: z)[pre.length + 1]? = z[0]? := by
      rw [List.getElem?_append_right (by omega)]
      simp
    cases z with
    | nil => simp [str1, stretchesM]
    | cons q z => simp [str1, stretchesM, e]
theorem enum_enc {α : Type} (e : α → D) (z : List α) : enumD (z.map e) = z.zipIdx.map fun q => .tup [.int (q.2 : Nat), e q.1] := by
  unfold enumD
  rw [List.zipIdx_map, List.map_map]
  rfl
theorem zipIdx_at {α : Type} {z : List α} {q : α × Nat} (h : q ∈ z.zipIdx) : z[q.2]? = some q.1 := by
  obtain ⟨x, k⟩ := q
  exact List.mem_zipIdx_iff_getElem?.mp h
theorem zipIdx_lt {α : Type} {z : List α} {q : α × Nat} (h : q ∈ z.zipIdx) : q.2 < z.length := by
  have := zipIdx_at h
  exact (List.getElem?_eq_some_iff.mp this).1
theorem str1_len (z : List Piece) (xs : List (Piece × Nat)) : (xs.flatMap (str1 z)).length = xs.length := by
  induction xs with
  | nil => rfl
  | cons x xs ih => simp only [List.flatMap_cons, List.length_append, ih, List.length_cons, str1, List.length_nil]; omega
theorem ok_stretches (T : Txt K w mg) : FnOk P w K mg base CX0 1 T.stretches.f T.stretches.fd P_stretches (spG K Det_stretches) := by
  refine okDet T.stretches.F sc_stretches (fun x => rfl) fun cdv A outer s H E z hr pre => ?_
  have hu := hu_of hr
  refine ⟨_, (pss_cons (ps_set (i := 1) sc_stretches.nd rfl (.inl rfl) (pe_lst pa_nil))
        (pss_cons (ps_for PassesOwn.never rfl (pi_enum (by rfl) T.b_enumerate (pa_cons (pv 0) pa_nil)) (pg_tup (n := 2) rfl (pgs_cons (pg_name (i := 2) sc_stretches.nd rfl (.inl rfl)) (pgs_cons (pg_tup (n := 3) rfl (pgs_cons (pg_name (i := 4) sc_stretches.nd rfl (.inl rfl)) (pgs_cons (pg_name (i := 5) sc_stretches.nd rfl (.inl rfl)) (pgs_cons (pg_name (i := 6) sc_stretches.nd rfl (.inl rfl)) pgs_nil)))) pgs_nil))) (pss_cons (ps_set (i := 3) sc_stretches.nd rfl (.inl rfl) (pe_ifExp (pt_cmpR op_lt (pe_op op_plus (pv 2) pe_int) (pe_callB cl_len (by rfl) T.b_len (by decide +kernel) (pa_cons (pv 0) pa_nil)) (nomark _)) (pe_ix ix_seq (pe_ix ix_seq (pv 0) (pe_op op_plus (pv 2) pe_int) (fun _ _ => rfl)) pe_int (fun _ _ => rfl)) pe_non))
        (pss_one (ps_expr (pe_bm PySem.F.plainAttrs_list PySem.F.slot_list_append PySem.F.type_list_append mt_append (pv 1) (pa_cons (pe_tup (pa_cons (pv 4) (pa_cons (pv 3) (pa_cons (pv 5) (pa_cons (pv 6) pa_nil))))) pa_nil))))))
        (pss_one (ps_ret (pv 1))))), ?_⟩
  try dsimp only [cx_K, cx_w]
  refine ws_rho (ρ' := [some _, none, none, none, none, none, none]) rfl ?_
  walk_at "go"
  intro p
  walk_at "go"
  refine ws_forP (p := p) (Rf := []) z.zipIdx (fun q => .tup [.int (q.2 : Nat), encP q.1]) (str1 z) [] encS [2, 3, 4, 5, 6] ?_ (fun x b hx hl => ?_) ?_
  · refine wi_enum ?_
    walk_at "go"
    exact ⟨enum_enc encP z, rfl⟩
  · rw [str1_len, List.length_zipIdx] at hl
    have hk := zipIdx_at hx
    have hkl := zipIdx_lt hx
    obtain ⟨⟨x1, x2, x3⟩, k⟩ := x
    walk_at "nm"
    walk_at "g13"
    walk_at "nm"
    have hl2 : (b.map encS).length < 10000000 := by
      rw [List.length_map]
      simp only [str1, List.length_cons, List.length_nil] at hl
      have := pre
      omega
    refine ws_seq (ws_setE (.d (encO ((z[k + 1]?).map fun r => r.1))) ?_ ?_)
    · walk_at "go"
      rw [List.length_map]
      refine ⟨fun q => ?_, fun q => ?_⟩
      · have q2 : k + 1 < z.length := by have := of_decide_eq_true q; omega
        have e2 : z[k + 1]? = some z[k + 1] := List.getElem?_eq_getElem q2
        walk_at "go"
        refine fIx.l (d := encP z[k + 1]) ?_ ?_
        · exact atI_nat (j := k + 1) (by rw [List.getElem?_map, e2]; rfl)
        generalize z[k + 1] = y at e2
        obtain ⟨y1, y2, y3⟩ := y
        walk_at "go"
        rw [e2]
        exact ⟨rfl, rfl⟩
      · have q2 : z.length ≤ k + 1 := by have := of_decide_eq_false q; omega
        walk_at "go"
        rw [List.getElem?_eq_none q2]
        exact ⟨rfl, rfl⟩
    walk_at "go"
    refine we_app1 rfl hl2 ?_
    walk_at "go"
    exact ⟨rfl, rfl, rsP rfl⟩
  · refine ws_retL rfl ⟨?_, rfl⟩
    rw [List.nil_append]
    exact congrArg (fun y => AV.d (.lst (y.map encS))) (str1_all [] z)
/-! overlaid -/
abbrev Det_overlaid : FT := Det (fun z : List Piece × List Piece => [encPs z.1, encPs z.2]) (fun z => z.1.length < 10000000 ∧ z.2.length < 10000000 ∧ z.1.length * z.2.length < 10000000) (fun z => .lst ((overlaidM z.1 z.2).map encS6))
theorem stretches_len (z : List Piece) : (stretchesM z).length = z.length := by
  rw [← str1_all [] z, str1_len, List.length_zipIdx]
theorem over1_len (s t : Str4) : (over1 s t).length ≤ 1 := by unfold over1; split <;> simp
theorem flatMap_len {α β : Type} (g : α → List β) (n : Nat) (xs : List α) (h : ∀ x ∈ xs, (g x).length ≤ n) : (xs.flatMap g).length ≤ xs.length * n := by
  induction xs with
  | nil => simp
  | cons x xs ih =>
    rw [List.flatMap_cons, List.length_append, List.length_cons, Nat.add_mul, Nat.one_mul]
    have := h x List.mem_cons_self
    have := ih fun y hy => h y (List.mem_cons_of_mem _ hy)
    omega
theorem overlaid_len (x y : List Piece) : (overlaidM x y).length ≤ x.length * y.length := by
  have := flatMap_len (fun s => (stretchesM y).flatMap fun t => over1 s t) y.length (stretchesM x) fun s _ => by
    have h := flatMap_len (over1 s) 1 (stretchesM y) fun t _ => over1_len s t
    rw [stretches_len, Nat.mul_one] at h
    exact h
  rw [stretches_len] at this
  exact this
theorem ok_overlaid (T : Txt K w mg) : FnOk P w K mg base CX0 2 T.overlaid.f T.overlaid.fd P_overlaid (spG K Det_overlaid) := by
  refine okDet T.overlaid.F sc_overlaid (fun x => rfl) fun cdv A outer s H E z hr pre => ?_
  obtain ⟨one, other⟩ := z
  obtain ⟨pre1, pre2, pre3⟩ := pre
  have pre1 : one.length < 10000000 := pre1
  have pre2 : other.length < 10000000 := pre2
  have pre3 : one.length * other.length < 10000000 := pre3
  have hu := hu_of hr
  refine ⟨_, (pss_cons (ps_set (i := 2) sc_overlaid.nd rfl (.inl rfl) (pe_lst pa_nil))
        (pss_cons (ps_for PassesOwn.never rfl (pi_seq (pe_call (ok_stretches T) (hr.mono (by omega)) (by rfl) T.stretches.m T.stretches.F.kp T.stretches.b .nil pass0 (pa_cons (pv 0) pa_nil))) (pg_tup (n := 4) rfl (pgs_cons (pg_name (i := 3) sc_overlaid.nd rfl (.inl rfl)) (pgs_cons (pg_name (i := 4) sc_overlaid.nd rfl (.inl rfl)) (pgs_cons (pg_name (i := 5) sc_overlaid.nd rfl (.inl rfl)) (pgs_cons (pg_name (i := 6) sc_overlaid.nd rfl (.inl rfl)) pgs_nil))))) (pss_one (ps_for PassesOwn.never rfl (pi_seq (pe_call (ok_stretches T) (hr.mono (by omega)) (by rfl) T.stretches.m T.stretches.F.kp T.stretches.b .nil pass0 (pa_cons (pv 1) pa_nil))) (pg_tup (n := 4) rfl (pgs_cons (pg_name (i := 7) sc_overlaid.nd rfl (.inl rfl)) (pgs_cons (pg_name (i := 8) sc_overlaid.nd rfl (.inl rfl)) (pgs_cons (pg_name (i := 9) sc_overlaid.nd rfl (.inl rfl)) (pgs_cons (pg_name (i := 10) sc_overlaid.nd rfl (.inl rfl)) pgs_nil))))) (pss_cons (ps_par (i := 11) (j := 12) (by rfl) sc_overlaid.nd rfl rfl (by decide) rfl rfl (pa_cons (pe_callB (cl_max2 rfl) (by rfl) T.b_max (by decide +kernel) (pa_cons (pv 3) (pa_cons (pv 7) pa_nil))) (pa_cons (pe_call (ok_least_end T) (hr.mono (by omega)) (by rfl) T.least_end.m T.least_end.F.kp T.least_end.b .nil pass0 (pa_cons (pv 4) (pa_cons (pv 8) pa_nil))) pa_nil)) (by rfl))
        (pss_one (ps_if (PW.pt (pw_or (pt_cmpR op_isNo (pv 12) pe_non (nomark _)) (pw_or1 (pt_cmpR op_lt (pv 11) (pv 12) (nomark _))))) (pss_one (ps_expr (pe_bm PySem.F.plainAttrs_list PySem.F.slot_list_append PySem.F.type_list_append mt_append (pv 2) (pa_cons (pe_tup (pa_cons (pv 11) (pa_cons (pv 12) (pa_cons (pv 5) (pa_cons (pv 6) (pa_cons (pv 9) (pa_cons (pv 10) pa_nil))))))) pa_nil)))) pss_nil))))))
        (pss_one (ps_ret (pv 2))))), ?_⟩
  try dsimp only [cx_K, cx_w]
  refine ws_rho (ρ' := [some _, some _, none, none, none, none, none, none, none, none, none, none, none]) rfl ?_
  walk_at "go"
  intro p
  walk_at "go"
  refine ws_forP (p := p) (Rf := []) (stretchesM one) encS (fun s => (stretchesM other).flatMap fun t => over1 s t) [] encS6 [3, 4, 5, 6, 7, 8, 9, 10, 11, 12] ?_ (fun x b hx hl => ?_) ?_
  · refine wi_seq ?_
    walk_at "go"
    exact ⟨pre1, _, fSeq.l, rfl, rfl⟩
  · obtain ⟨x1, x2, x3, x4⟩ := x
    have hl : b.length + ((stretchesM other).flatMap (over1 (x1, x2, x3, x4))).length < 10000000 := by
      have := overlaid_len one other
      have hl : b.length + ((stretchesM other).flatMap (over1 (x1, x2, x3, x4))).length ≤ 0 + (overlaidM one other).length := hl
      omega
    walk_at "nm"
    walk_at "g4"
    walk_at "nm"
    refine ws_forP (p := p) (Rf := []) (stretchesM other) encS (over1 (x1, x2, x3, x4)) b encS6 [7, 8, 9, 10, 11, 12] ?_ (fun y b2 hy hl2 => ?_) ?_
    · refine wi_seq ?_
      walk_at "go"
      exact ⟨pre2, _, fSeq.l, rfl, rfl⟩
    · obtain ⟨y1, y2, y3, y4⟩ := y
      walk_at "nm"
      walk_at "g4"
      walk_at "nm"
      walk_at "go"
      refine ⟨(x2, y2), rfl, trivial, ?_⟩
      walk_at "go"
      walk_at "nm"
      have hb : ∀ h, over1 (x1, x2, x3, x4) (y1, y2, y3, y4) = [h] → (b2.map encS6).length < 10000000 := fun h e => by
        rw [e] at hl2
        rw [List.length_map]
        simp only [List.length_cons, List.length_nil] at hl2
        omega
      cases eh : leastEnd x2 y2 with
      | none =>
        walk_at "go"
        have e : over1 (x1, x2, x3, x4) (y1, y2, y3, y4) = [(max x1 y1, none, x3, x4, y3, y4)] := by simp [over1, eh, okHL]
        refine we_app1 rfl (hb _ e) ?_
        walk_at "go"
        exact ⟨rfl, rfl, rsP (by rw [e]; rfl)⟩
      | some h2 =>
        walk_at "go"
        refine ⟨fun q => ?_, fun q => ?_⟩
        · walk_at "go"
          have e : over1 (x1, x2, x3, x4) (y1, y2, y3, y4) = [(max x1 y1, some h2, x3, x4, y3, y4)] := by simp [over1, eh, okHL, of_decide_eq_true q]
          refine we_app1 rfl (hb _ e) ?_
          walk_at "go"
          exact ⟨rfl, rfl, rsP (by rw [e]; rfl)⟩
        · walk_at "go"
          refine ⟨rfl, rsN ?_⟩
          simp [over1, eh, okHL, of_decide_eq_false q]
    · exact ⟨rfl, rfl⟩
  · exact ws_retL rfl ⟨rfl, rfl⟩
end
section
variable {P : Program} {w : World} {K : PySem.W.Frag} {mg : Str → Option Value} {base : Heap}
/-! words -/
def Op.str : Op → Str
  | .or => "or" | .and => "and" | .eq => "==" | .ne => "!=" | .lt => "<" | .gt => ">" | .le => "<=" | .ge => ">=" | .add => "+" | .sub => "-" | .mul => "*" | .div => "/" | .mod => "mod"
def Op.isCmp : Op → Bool
  | .eq | .ne | .lt | .gt | .le | .ge => true
  | _ => false
abbrev Det_signs_of : FT := Det (fun z : Op × Int => [.str z.1.str, .int z.2]) (fun z => z.1.isCmp = true) (fun z => .int (b2i (signsOf z.1 z.2)))
theorem ok_signs_of (T : Txt K w mg) : FnOk P w K mg base CX0 1 T.signs_of.f T.signs_of.fd P_signs_of (spG K Det_signs_of) := by
  refine okDet T.signs_of.F sc_signs_of (fun x => rfl) fun cdv A outer s H E z hr pre => ?_
  obtain ⟨o, g⟩ := z
  have hu := hu_of hr
  refine ⟨_, (pss_one (ps_ret (pe_callTy cl_int (by rfl) T.b_int (by decide +kernel) (pa_cons (pe_dget hu (pe_disp (pps_cons pe_str (pe_cmpR op_eq (pv 1) pe_int (nomark _)) (pps_cons pe_str (pe_cmpR op_ne (pv 1) pe_int (nomark _)) (pps_cons pe_str (pe_cmpR op_lt (pv 1) pe_int (nomark _)) (pps_cons pe_str (pe_cmpR op_gt (pv 1) pe_int (nomark _)) (pps_cons pe_str (pe_cmpR op_lt (pv 1) pe_int (nomark _)) (pps_cons pe_str (pe_cmpR op_gt (pv 1) (pe_un un_neg pe_int) (nomark _)) pps_nil)))))) (by rfl) (by rfl) (fun z => by cases z) (by decide)) (pv 0) (fun _ _ => rfl)) pa_nil)))), ?_⟩
  try dsimp only [cx_K, cx_w]
  refine ws_rho (ρ' := [some _, some _]) rfl ?_
  refine ws_ret (WE.sub (Ψ := fun a R' => a = .d (.int (b2i (signsOf o g)))) ?_ fun a R' e => ⟨[], List.nil_sublist _, e, rfl⟩)
  walk_at "s1"
  walk_at "s1"
  refine we_dget (we_disp fun p => ?_)
  walk_at "go"
  refine ⟨List.mem_singleton.mpr rfl, [(.inr "==", .bl (decide (g = 0) ^^ false)), (.inr "!=", .bl (decide (g = 0) ^^ true)), (.inr "<", .bl (decide (g < 0))), (.inr ">", .bl (decide (0 < g))), (.inr "<=", .bl (decide (g < 1))), (.inr ">=", .bl (decide (-1 < g)))], rfl, Nat.le_of_ble_eq_true rfl, ?_⟩
  rw [setR_here, setR_nil]
  walk_at "s1"
  refine ⟨p, _, .inr o.str, .bl (signsOf o g), rfl, rfl, List.mem_singleton.mpr rfl, ?_, ?_⟩
  · have pre : o.isCmp = true := pre
    cases o <;> first | (cases pre; done) | (simp only [signsOf, Bool.xor_false, Bool.xor_true]; rfl)
  walk_at "go"
  cases signsOf o g <;> rfl
/-! widened pieces -/
abbrev encPss (cs : List (List Piece)) : D := .lst (cs.map encPs)
def PB (k : Nat) (ps : List Piece) : Prop := ∀ p ∈ ps, Bd k p.1 ∧ Bd k p.2.1 ∧ Bd k p.2.2
abbrev Det_widened_pieces : FT := Det (fun z : List (List Piece) × Nat => [encPss z.1, .int (z.2 : Nat)]) (fun z => z.2 < 1000000 ∧ 0 < z.1.length ∧ z.1.length ≤ z.2 ∧ ∀ ps ∈ z.1, PB 900000 ps ∧ ps.length < 10000000) (fun z => encPss (widenedM z.1 z.2))
def wrowM (cs : List (List Piece)) (span rest : Nat) : List Piece := widenedP ((span / cs.length : Nat) : Int) ((rest / cs.length : Nat) : Int) (cs.getD (rest % cs.length) [])
theorem flatMap_one {α β : Type} (f : α → β) (xs : List α) : (xs.flatMap fun x => [f x]) = xs.map f := by induction xs with
  | nil => rfl
  | cons x xs ih => rw [List.flatMap_cons, ih, List.map_cons]; rfl
theorem stretches_bd {k : Nat} {ps : List Piece} (h : PB k ps) : ∀ s ∈ stretchesM ps, Bd k s.2.2.1 ∧ Bd k s.2.2.2 := by
  rw [← str1_all [] ps]
  intro s hs
  obtain ⟨q, hq, hs⟩ := List.mem_flatMap.mp hs
  have hp := h q.1 (List.mem_of_getElem? (zipIdx_at hq))
  simp only [str1, List.mem_singleton] at hs
  subst hs
  exact hp.2
theorem wide1_len (t s : Int) (x : Str4) : (wide1 t s x).length ≤ 1 := by unfold wide1; split <;> simp
theorem ok_widened_pieces (T : Txt K w mg) : FnOk P w K mg base CX0 2 T.widened_pieces.f T.widened_pieces.fd P_widened_pieces (spG K Det_widened_pieces) := by
  refine okDet T.widened_pieces.F sc_widened_pieces (fun x => rfl) fun cdv A outer s H E z hr pre => ?_
  obtain ⟨cs, span⟩ := z
  obtain ⟨h1, h2, h3, h4⟩ := pre
  have h1 : span < 1000000 := h1
  have h2 : 0 < cs.length := h2
  have h3 : cs.length ≤ span := h3
  have h4 : ∀ ps ∈ cs, PB 900000 ps ∧ ps.length < 10000000 := h4
  have hu := hu_of hr
  have hold : ((cs.map encPs).length : Int) = ((cs.length : Nat) : Int) := by rw [List.length_map]
  have hdv : Bd 20 (cs.length : Int) := by unfold Bd; omega
  have hdp : (0 : Int) < (cs.length : Nat) := by omega
  have htp : 0 < span / cs.length := Nat.div_pos h3 h2
  have htb : Bd 20 ((span / cs.length : Nat) : Int) := by
    have := Nat.div_le_self span cs.length
    unfold Bd; omega
  refine ⟨_, (pss_cons (ps_set (i := 2) sc_widened_pieces.nd rfl (.inl rfl) (pe_callB cl_len (by rfl) T.b_len (by decide +kernel) (pa_cons (pv 0) pa_nil)))
        (pss_cons (ps_set (i := 3) sc_widened_pieces.nd rfl (.inl rfl) (pe_op op_fdivW (pv 1) (pv 2)))
        (pss_cons (ps_set (i := 4) sc_widened_pieces.nd rfl (.inl rfl) (pe_lst pa_nil))
        (pss_cons (ps_for PassesOwn.never rfl (pi_range1 (by rfl) T.b_range (pa_cons (pv 1) pa_nil)) (pg_name (i := 5) sc_widened_pieces.nd rfl (.inl rfl)) (pss_cons (ps_par (i := 6) (j := 7) (by rfl) sc_widened_pieces.nd rfl rfl (by decide) rfl rfl (pa_cons (pe_op op_fdivW (pv 5) (pv 2)) (pa_cons (pe_lst pa_nil) pa_nil)) (by rfl))
        (pss_cons (ps_for PassesOwn.never rfl (pi_seq (pe_call (ok_stretches T) (hr.mono (by omega)) (by rfl) T.stretches.m T.stretches.F.kp T.stretches.b .nil pass0 (pa_cons (pe_ix ix_seq (pv 0) (pe_op op_mod (pv 5) (pv 2)) (fun _ _ => rfl)) pa_nil))) (pg_tup (n := 4) rfl (pgs_cons (pg_name (i := 8) sc_widened_pieces.nd rfl (.inl rfl)) (pgs_cons (pg_name (i := 9) sc_widened_pieces.nd rfl (.inl rfl)) (pgs_cons (pg_name (i := 10) sc_widened_pieces.nd rfl (.inl rfl)) (pgs_cons (pg_name (i := 11) sc_widened_pieces.nd rfl (.inl rfl)) pgs_nil))))) (pss_cons (ps_set (i := 12) sc_widened_pieces.nd rfl (.inl rfl) (pe_callB (cl_max2 rfl) (by rfl) T.b_max (by decide +kernel) (pa_cons pe_int (pa_cons (pe_op op_sub pe_int (pe_op op_fdivW (pe_op op_sub (pv 6) (pv 8)) (pv 3))) pa_nil))))
        (pss_cons (ps_set (i := 13) sc_widened_pieces.nd rfl (.inl rfl) (pe_ifExp (pt_cmpR op_isNo (pv 9) pe_non (nomark _)) pe_non (pe_callB (cl_max2 rfl) (by rfl) T.b_max (by decide +kernel) (pa_cons pe_int (pa_cons (pe_op op_sub pe_int (pe_op op_fdivW (pe_op op_sub (pv 6) (pv 9)) (pv 3))) pa_nil)))))
        (pss_one (ps_if (PW.pt (pw_or (pt_cmpR op_isNo (pv 13) pe_non (nomark _)) (pw_or1 (pt_cmpR op_lt (pv 12) (pv 13) (nomark _))))) (pss_one (ps_expr (pe_bm PySem.F.plainAttrs_list PySem.F.slot_list_append PySem.F.type_list_append mt_append (pv 7) (pa_cons (pe_tup (pa_cons (pv 12) (pa_cons (pe_op op_plus (pv 10) (pe_op op_mulW (pv 11) (pv 6))) (pa_cons (pe_op op_mulW (pv 11) (pv 3)) pa_nil)))) pa_nil)))) pss_nil)))))
        (pss_one (ps_expr (pe_bm PySem.F.plainAttrs_list PySem.F.slot_list_append PySem.F.type_list_append mt_append (pv 4) (pa_cons (pe_call (ok_joined T) (hr.mono (by omega)) (by rfl) T.joined.m T.joined.F.kp T.joined.b .nil pass0 (pa_cons (pv 7) pa_nil)) pa_nil)))))))
        (pss_one (ps_ret (pv 4))))))), ?_⟩
  try dsimp only [cx_K, cx_w]
  refine ws_rho (ρ' := [some _, some _, none, none, none, none, none, none, none, none, none, none, none, none]) rfl ?_
  walk_at "go"
  rw [hold]
  refine fI2c.i (divOk hdv hdp (by omega) (by omega)) ?_
  walk_at "go"
  intro p
  walk_at "go"
  have et : (span : Int) / (cs.length : Int) = ((span / cs.length : Nat) : Int) := rfl
  rw [et]
  refine ws_forP (p := p) (Rf := []) (List.range span) (fun i => .int (i : Nat)) (fun rest => [wrowM cs span rest]) [] encPs [5, 6, 7, 8, 9, 10, 11, 12, 13] ?_ (fun r b hx hl => ?_) ?_
  · refine wi_rng1 ?_
    walk_at "go"
    refine ⟨by omega, by omega, ?_, rfl⟩
    rw [Int.toNat_natCast]
    rfl
  · have hr2 : r < span := List.mem_range.mp hx
    have hl2 : (b.map encPs).length < 10000000 := by
      rw [flatMap_one, List.length_map, List.length_range] at hl
      simp only [List.length_nil, List.length_cons] at hl
      rw [List.length_map]
      omega
    have em : ((r : Nat) : Int) / ((cs.length : Nat) : Int) = ((r / cs.length : Nat) : Int) := rfl
    have em2 : ((r : Nat) : Int) % ((cs.length : Nat) : Int) = ((r % cs.length : Nat) : Int) := rfl
    have hm := Nat.mod_lt r h2
    have hg : cs[r % cs.length]? = some (cs.getD (r % cs.length) []) := by
      rw [List.getD_eq_getElem?_getD, List.getElem?_eq_getElem hm]
      rfl
    have hin : cs.getD (r % cs.length) [] ∈ cs := List.mem_of_getElem? hg
    obtain ⟨hb1, hb2⟩ := h4 _ hin
    have hsb : Bd 20 ((r / cs.length : Nat) : Int) := by
      have := Nat.div_le_self r cs.length
      unfold Bd
      rw [Int.natAbs_natCast]
      omega
    have hw : wrowM cs span r = widenedP ((span / cs.length : Nat) : Int) ((r / cs.length : Nat) : Int) (cs.getD (r % cs.length) []) := rfl
    generalize cs.getD (r % cs.length) [] = ps at hg hin hb1 hb2 hw
    generalize r / cs.length = shift at em hsb hw
    generalize span / cs.length = times at htp htb hw
    rw [hw] at hl
    walk_at "nm"
    walk_at "g1"
    walk_at "nm"
    walk_at "go"
    refine fI2c.i (divOk hdv hdp (by omega) (by omega)) ?_
    rw [em]
    refine wa_cons (we_own (wa_nil ⟨[], rfl, by decide, fun q => ?_⟩))
    walk_at "go"
    refine ws_forP (p := q) (Rf := [(p, .lst (b.map encPs))]) (stretchesM ps) encS (wide1 (times : Int) (shift : Int)) [] encP [8, 9, 10, 11, 12, 13] ?_ (fun y b2 hy hl3 => ?_) ?_
    · refine wi_seq ?_
      walk_at "go"
      refine fI2c.i (show (0 : Int) < (cs.length : Nat) from hdp) ?_
      rw [em2]
      refine fIx.l (d := encPs ps) (atI_nat (by rw [List.getElem?_map, hg]; rfl)) ?_
      walk_at "go"
      exact ⟨hb2, _, fSeq.l, rfl, rfl⟩
    · have hl4 : ∀ h, wide1 (times : Int) (shift : Int) y = [h] → (b2.map encP).length < 10000000 := fun h e => by
        have := flatMap_len (wide1 (times : Int) (shift : Int)) 1 (stretchesM ps) fun t _ => wide1_len _ _ t
        rw [stretches_len] at this
        rw [e] at hl3
        simp only [List.length_cons, List.length_nil] at hl3
        rw [List.length_map]
        omega
      obtain ⟨y1, y2, y3, y4⟩ := y
      have hby : Bd 900000 y4 := (stretches_bd hb1 _ hy).2
      walk_at "nm"
      walk_at "g4"
      walk_at "nm"
      walk_at "go"
      have ht0 : (0 : Int) < (times : Nat) := by omega
      refine fI2c.i (divOk htb ht0 (by omega) (by omega)) ?_
      walk_at "ge"
      refine ws_seq (ws_setE (.d (encO (y2.map fun e => max 0 (0 - ((shift : Int) - e) / (times : Int))))) ?_ ?_)
      · cases y2 with
        | none =>
          walk_at "go"
          exact ⟨rfl, rfl⟩
        | some y2 =>
          walk_at "go"
          refine fI2c.i (divOk htb ht0 (by omega) (by omega)) ?_
          walk_at "go"
          exact ⟨rfl, rfl⟩
      cases eh : y2.map fun e => max 0 (0 - ((shift : Int) - e) / (times : Int)) with
      | none =>
        have e : wide1 (times : Int) (shift : Int) (y1, y2, y3, y4) = [(max 0 (0 - ((shift : Int) - y1) / (times : Int)), y3 + y4 * (shift : Int), y4 * (times : Int))] := by simp only [wide1, eh, okHL, if_true]
        walk_at "go"
        refine we_app1 rfl (hl4 _ e) ?_
        walk_at "go"
        refine fI2c.i (mulOk hby hsb (by omega) (by omega) (by omega)) ?_
        walk_at "go"
        refine fI2c.i (mulOk hby htb (by omega) (by omega) (by omega)) ?_
        walk_at "go"
        exact ⟨rfl, rfl, rsP (by rw [e]; rfl)⟩
      | some h2 =>
        walk_at "go"
        refine ⟨fun qq => ?_, fun qq => ?_⟩
        · have e : wide1 (times : Int) (shift : Int) (y1, y2, y3, y4) = [(max 0 (0 - ((shift : Int) - y1) / (times : Int)), y3 + y4 * (shift : Int), y4 * (times : Int))] := by simp only [wide1, eh, okHL, qq, if_true]
          walk_at "go"
          refine we_app1 rfl (hl4 _ e) ?_
          walk_at "go"
          refine fI2c.i (mulOk hby hsb (by omega) (by omega) (by omega)) ?_
          walk_at "go"
          refine fI2c.i (mulOk hby htb (by omega) (by omega) (by omega)) ?_
          walk_at "go"
          exact ⟨rfl, rfl, rsP (by rw [e]; rfl)⟩
        · walk_at "go"
          refine ⟨rfl, rsN ?_⟩
          simp only [wide1, eh, okHL, qq]
          rfl
    · walk_at "nm"
      refine ws_frz (i := 7) rfl ?_
      walk_at "nm"
      walk_at "go"
      refine we_app1 rfl hl2 ?_
      walk_at "go"
      refine ⟨?_, ?_⟩
      · have := flatMap_len (wide1 (times : Int) (shift : Int)) 1 (stretchesM ps) fun t _ => wide1_len _ _ t
        rw [stretches_len] at this
        rw [List.nil_append]
        show ((stretchesM ps).flatMap (wide1 (times : Int) (shift : Int))).length < 10000000
        omega
      walk_at "go"
      exact ⟨rfl, rfl, rsP (by rw [hw]; unfold widenedP; rfl)⟩
  · refine ws_retL rfl ⟨?_, rfl⟩
    rw [List.nil_append, flatMap_one]
    rfl
end
section
variable {P : Program} {w : World} {K : PySem.W.Frag} {mg : Str → Option Value} {base : Heap}
/-! divided -/
abbrev Det_divided : FT := Det (fun z : Op × List Piece × Int => [.str z.1.str, encPs z.2.1, .int z.2.2]) (fun z => (z.1 = .div ∨ z.1 = .mod) ∧ z.2.1.length < 10000000 ∧ 0 < z.2.2 ∧ Bd 20 z.2.2) (fun z => encPs (dividedM z.1 z.2.1 z.2.2))
theorem ok_divided (T : Txt K w mg) : FnOk P w K mg base CX0 2 T.divided.f T.divided.fd P_divided (spG K Det_divided) := by
  refine okDet T.divided.F sc_divided (fun x => rfl) fun cdv A outer s H E z hr pre => ?_
  obtain ⟨o, ps, d⟩ := z
  obtain ⟨h1, h2, h3, h4⟩ := pre
  have h1 : o = .div ∨ o = .mod := h1
  have h2 : ps.length < 10000000 := h2
  have h3 : 0 < d := h3
  have h4 : Bd 20 d := h4
  have hu := hu_of hr
  refine ⟨_, (pss_cons (ps_if (pt_cmpR op_eq (pv 0) pe_str (nomark _)) (pss_one (ps_ret (pe_call (ok_joined T) (hr.mono (by omega)) (by rfl) T.joined.m T.joined.F.kp T.joined.b .nil pass0 (pa_cons (pe_lc (own := [("start", 3), ("a", 4), ("b", 5)]) (by rfl) sc_divided.nd (pi_seq (pv 1)) (blkOk_by (own := [("start", 3), ("a", 4), ("b", 5)]) (N := N_divided) (sc := defScope s_divided) (by decide +kernel)) (fun _ _ _ _ _ => (pg_tupK (K := K) rfl (n := 3) rfl (pgs_cons (pg_name (i := 3) sc_divided.nd rfl (.inl rfl)) (pgs_cons (pg_name (i := 4) sc_divided.nd rfl (.inl rfl)) (pgs_cons (pg_name (i := 5) sc_divided.nd rfl (.inl rfl)) pgs_nil))))) (fun _ _ _ _ _ => pts_nil) (fun _ _ _ _ _ => (pe_tup (pa_cons (pv 3) (pa_cons (pe_op op_fdivW (pv 4) (pv 2)) (pa_cons (pe_op op_fdivW (pv 5) (pv 2)) pa_nil)))))) pa_nil)))) pss_nil)
        (pss_one (ps_ret (pe_call (ok_joined T) (hr.mono (by omega)) (by rfl) T.joined.m T.joined.F.kp T.joined.b .nil pass0 (pa_cons (pe_lc (own := [("start", 3), ("a", 4), ("b", 5)]) (by rfl) sc_divided.nd (pi_seq (pv 1)) (blkOk_by (own := [("start", 3), ("a", 4), ("b", 5)]) (N := N_divided) (sc := defScope s_divided) (by decide +kernel)) (fun _ _ _ _ _ => (pg_tupK (K := K) rfl (n := 3) rfl (pgs_cons (pg_name (i := 3) sc_divided.nd rfl (.inl rfl)) (pgs_cons (pg_name (i := 4) sc_divided.nd rfl (.inl rfl)) (pgs_cons (pg_name (i := 5) sc_divided.nd rfl (.inl rfl)) pgs_nil))))) (fun _ _ _ _ _ => pts_nil) (fun _ _ _ _ _ => (pe_tup (pa_cons (pv 3) (pa_cons (pe_op op_mod (pv 4) (pv 2)) (pa_cons pe_int pa_nil)))))) pa_nil))))), ?_⟩
  try dsimp only [cx_K, cx_w]
  refine ws_rho (ρ' := [some _, some _, some _, none, none, none]) rfl ?_
  rcases h1 with e | e
  · subst e
    walk_at "go"
    refine we_lcM ps encP (fun p => encP (p.1, p.2.1 / d, p.2.2 / d)) (by omega) (wi_seq ?_)
    walk_at "go"
    refine ⟨_, fSeq.l, rfl, fun x hx => ?_, ?_⟩
    · obtain ⟨x1, x2, x3⟩ := x
      walk_at "nm"
      walk_at "c3"
      walk_at "nm"
      refine wt_yes ⟨rfl, ?_⟩
      walk_at "go"
      refine fI2c.i (divOk h4 h3 (by omega) (by omega)) ?_
      walk_at "go"
      refine fI2c.i (divOk h4 h3 (by omega) (by omega)) ?_
      walk_at "go"
      exact ⟨rfl, rfl⟩
    · walk_at "go"
      refine ⟨ps.map fun p => (p.1, p.2.1 / d, p.2.2 / d), by rw [encPs, List.map_map]; rfl, by rw [List.length_map]; exact h2, ?_⟩
      exact ⟨rfl, rfl⟩
  · subst e
    walk_at "go"
    refine we_lcM ps encP (fun p => encP (p.1, p.2.1 % d, 0)) (by omega) (wi_seq ?_)
    walk_at "go"
    refine ⟨_, fSeq.l, rfl, fun x hx => ?_, ?_⟩
    · obtain ⟨x1, x2, x3⟩ := x
      walk_at "nm"
      walk_at "c3"
      walk_at "nm"
      refine wt_yes ⟨rfl, ?_⟩
      walk_at "go"
      refine fI2c.i (show (0 : Int) < d from h3) ?_
      walk_at "go"
      exact ⟨rfl, rfl⟩
    · walk_at "go"
      refine ⟨ps.map fun p => (p.1, p.2.1 % d, 0), by rw [encPs, List.map_map]; rfl, by rw [List.length_map]; exact h2, ?_⟩
      exact ⟨rfl, rfl⟩
/-! refused -/
theorem signed_len (s : Int) (e : Option Int) (a b : Int) : (signedM s e a b).length ≤ 3 := by
  unfold signedM
  split
  · simp
  · have := flatMap_len (clip s e) 1 [(s, some (0 - a * sgn b / (b * sgn b)), 0 - sgn b), (0 - a * sgn b / (b * sgn b), some ((0 - a * sgn b) / (b * sgn b) + 1), 0), ((0 - a * sgn b) / (b * sgn b) + 1, none, sgn b)] fun g _ => clip_len s e g
    exact this
theorem signed_lt (s : Int) (e : Option Int) (a b : Int) : (signedM s e a b).length < 10 := by
  have := signed_len s e a b
  omega
abbrev Det_refused : FT := Det (fun z : List Piece => [encPs z]) (fun z => PB 9000 z ∧ 3 * z.length < 10000000) (fun z => encPs (refusedM z))
def ref1 (s : Str4) : List Piece := (signedM s.1 s.2.1 s.2.2.1 s.2.2.2).flatMap fun g => [(g.1, b2i (decide (g.2.2 = 0)), 0)]
theorem ref1_len (s : Str4) : (ref1 s).length ≤ 3 := by
  unfold ref1
  rw [flatMap_one, List.length_map]
  exact signed_len _ _ _ _
theorem refused_eq (z : List Piece) : refusedM z = joinedM ((stretchesM z).flatMap ref1) := by
  unfold refusedM ref1
  simp only [flatMap_one]
theorem ok_refused (T : Txt K w mg) : FnOk P w K mg base CX0 3 T.refused.f T.refused.fd P_refused (spG K Det_refused) := by
  refine okDet T.refused.F sc_refused (fun x => rfl) fun cdv A outer s H E z hr pre => ?_
  obtain ⟨h1, h2⟩ := pre
  have hu := hu_of hr
  refine ⟨_, (pss_cons (ps_set (i := 1) sc_refused.nd rfl (.inl rfl) (pe_lst pa_nil))
        (pss_cons (ps_for PassesOwn.never rfl (pi_seq (pe_call (ok_stretches T) (hr.mono (by omega)) (by rfl) T.stretches.m T.stretches.F.kp T.stretches.b .nil pass0 (pa_cons (pv 0) pa_nil))) (pg_tup (n := 4) rfl (pgs_cons (pg_name (i := 2) sc_refused.nd rfl (.inl rfl)) (pgs_cons (pg_name (i := 3) sc_refused.nd rfl (.inl rfl)) (pgs_cons (pg_name (i := 4) sc_refused.nd rfl (.inl rfl)) (pgs_cons (pg_name (i := 5) sc_refused.nd rfl (.inl rfl)) pgs_nil))))) (pss_one (ps_for PassesOwn.never rfl (pi_seq (pe_call (ok_signed T) (hr.mono (by omega)) (by rfl) T.signed.m T.signed.F.kp T.signed.b .nil pass0 (pa_cons (pv 2) (pa_cons (pv 3) (pa_cons (pv 4) (pa_cons (pv 5) pa_nil)))))) (pg_tup (n := 3) rfl (pgs_cons (pg_name (i := 6) sc_refused.nd rfl (.inl rfl)) (pgs_cons (pg_name (i := 7) sc_refused.nd rfl (.inl rfl)) (pgs_cons (pg_name (i := 8) sc_refused.nd rfl (.inl rfl)) pgs_nil)))) (pss_one (ps_expr (pe_bm PySem.F.plainAttrs_list PySem.F.slot_list_append PySem.F.type_list_append mt_append (pv 1) (pa_cons (pe_tup (pa_cons (pv 6) (pa_cons (pe_callTy cl_int (by rfl) T.b_int (by decide +kernel) (pa_cons (pe_cmpR op_eq (pv 8) pe_int (nomark _)) pa_nil)) (pa_cons pe_int pa_nil)))) pa_nil)))))))
        (pss_one (ps_ret (pe_call (ok_joined T) (hr.mono (by omega)) (by rfl) T.joined.m T.joined.F.kp T.joined.b .nil pass0 (pa_cons (pv 1) pa_nil)))))), ?_⟩
  try dsimp only [cx_K, cx_w]
  refine ws_rho (ρ' := [some _, none, none, none, none, none, none, none, none]) rfl ?_
  walk_at "go"
  intro p
  walk_at "go"
  have hall := flatMap_len ref1 3 (stretchesM z) fun s _ => ref1_len s
  rw [stretches_len] at hall
  refine ws_forP (p := p) (Rf := []) (stretchesM z) encS ref1 [] encP [2, 3, 4, 5, 6, 7, 8] ?_ (fun x b hx hl => ?_) ?_
  · refine wi_seq ?_
    walk_at "go"
    exact ⟨by omega, _, fSeq.l, rfl, rfl⟩
  · obtain ⟨hx1, hx2⟩ := stretches_bd h1 x hx
    obtain ⟨x1, x2, x3, x4⟩ := x
    walk_at "nm"
    walk_at "g4"
    walk_at "nm"
    refine ws_forP (p := p) (Rf := []) (signedM x1 x2 x3 x4) encSg (fun g => [(g.1, b2i (decide (g.2.2 = 0)), 0)]) b encP [6, 7, 8] ?_ (fun y b2 hy hl2 => ?_) ?_
    · refine wi_seq ?_
      walk_at "go"
      refine ⟨(x1, x2, x3, x4), rfl, ⟨hx1, hx2⟩, ?_⟩
      exact ⟨_, fSeq.l, rfl, rfl⟩
    · have hl4 : (b2.map encP).length < 10000000 := by
        rw [List.length_map]
        have e : ref1 (x1, x2, x3, x4) = (signedM x1 x2 x3 x4).flatMap fun g => [(g.1, b2i (decide (g.2.2 = 0)), 0)] := rfl
        rw [← e] at hl2
        simp only [List.length_cons, List.length_nil] at hl hl2
        omega
      obtain ⟨y1, y2, y3⟩ := y
      walk_at "nm"
      walk_at "g3"
      walk_at "nm"
      walk_at "go"
      refine we_app1 rfl hl4 ?_
      walk_at "go"
      refine ⟨rfl, rfl, rsP ?_⟩
      rw [Bool.xor_false]
      rfl
    · walk_at "nm"
      exact ⟨rfl, rfl⟩
  · walk_at "nm"
    refine ws_frz (i := 1) rfl ?_
    walk_at "nm"
    walk_at "go"
    refine ⟨by rw [List.nil_append]; show ((stretchesM z).flatMap ref1).length < 10000000; omega, ?_⟩
    walk_at "go"
    rw [refused_eq]
    exact ⟨rfl, rfl⟩
end
section
variable {P : Program} {w : World} {K : PySem.W.Frag} {mg : Str → Option Value} {base : Heap}
/-! combined -/
abbrev Det_combined : FT := Det (fun z : Op × List Piece × List Piece => [.str z.1.str, encPs z.2.1, encPs z.2.2]) (fun z => (z.1 ≠ .div ∧ z.1 ≠ .mod) ∧ PB 4000 z.2.1 ∧ PB 4000 z.2.2 ∧ z.2.1.length < 10000000 ∧ z.2.2.length < 10000000 ∧ 3 * (z.2.1.length * z.2.2.length) < 10000000) (fun z => encPs (combinedM z.1 z.2.1 z.2.2))
theorem comb1_len (o : Op) (x : Str6) : (comb1 o x).length ≤ 3 := by
  obtain ⟨a, b, c, d, e, f⟩ := x
  cases o <;> simp only [comb1, List.length_map, List.length_cons, List.length_nil] <;> first | omega | exact signed_len _ _ _ _
theorem overlaid_bd {k : Nat} {x y : List Piece} (hx : PB k x) (hy : PB k y) : ∀ s ∈ overlaidM x y, Bd k s.2.2.1 ∧ Bd k s.2.2.2.1 ∧ Bd k s.2.2.2.2.1 ∧ Bd k s.2.2.2.2.2 := by
  intro s hs
  unfold overlaidM at hs
  obtain ⟨p, hp, hs⟩ := List.mem_flatMap.mp hs
  obtain ⟨q, hq, hs⟩ := List.mem_flatMap.mp hs
  have h1 := stretches_bd hx p hp
  have h2 := stretches_bd hy q hq
  unfold over1 at hs
  split at hs
  · simp only [List.mem_singleton] at hs
    subst hs
    exact ⟨h1.1, h1.2, h2.1, h2.2⟩
  · cases hs
theorem ok_combined (T : Txt K w mg) : FnOk P w K mg base CX0 4 T.combined.f T.combined.fd P_combined (spG K Det_combined) := by
  refine okDet T.combined.F sc_combined (fun x => rfl) fun cdv A outer s H E z hr pre => ?_
  obtain ⟨o, one, other⟩ := z
  obtain ⟨⟨hn1, hn2⟩, h1, h2, h3, h4, h5⟩ := pre
  have hn1 : o ≠ .div := hn1
  have hn2 : o ≠ .mod := hn2
  have h1 : PB 4000 one := h1
  have h2 : PB 4000 other := h2
  have h3 : one.length < 10000000 := h3
  have h4 : other.length < 10000000 := h4
  have h5 : 3 * (one.length * other.length) < 10000000 := h5
  have hu := hu_of hr
  refine ⟨_, (pss_cons (ps_set (i := 3) sc_combined.nd rfl (.inl rfl) (pe_lst pa_nil))
        (pss_cons (ps_for PassesOwn.never rfl (pi_seq (pe_call (ok_overlaid T) (hr.mono (by omega)) (by rfl) T.overlaid.m T.overlaid.F.kp T.overlaid.b .nil pass0 (pa_cons (pv 1) (pa_cons (pv 2) pa_nil)))) (pg_tup (n := 6) rfl (pgs_cons (pg_name (i := 4) sc_combined.nd rfl (.inl rfl)) (pgs_cons (pg_name (i := 5) sc_combined.nd rfl (.inl rfl)) (pgs_cons (pg_name (i := 6) sc_combined.nd rfl (.inl rfl)) (pgs_cons (pg_name (i := 7) sc_combined.nd rfl (.inl rfl)) (pgs_cons (pg_name (i := 8) sc_combined.nd rfl (.inl rfl)) (pgs_cons (pg_name (i := 9) sc_combined.nd rfl (.inl rfl)) pgs_nil))))))) (pss_one (ps_if (pt_cmpR op_in_seq (pv 0) (pe_tup (pa_cons pe_str (pa_cons pe_str pa_nil))) (by with_unfolding_all rfl)) (pss_cons (ps_set (i := 10) sc_combined.nd rfl (.inl rfl) (pe_ifExp (pt_cmpR op_eq (pv 0) pe_str (nomark _)) pe_int (pe_un un_neg pe_int)))
        (pss_one (ps_expr (pe_bm PySem.F.plainAttrs_list PySem.F.slot_list_append PySem.F.type_list_append mt_append (pv 3) (pa_cons (pe_tup (pa_cons (pv 4) (pa_cons (pe_op op_plus (pv 6) (pe_op op_mulW (pv 10) (pv 8))) (pa_cons (pe_op op_plus (pv 7) (pe_op op_mulW (pv 10) (pv 9))) pa_nil)))) pa_nil))))) (pss_one (ps_if (pt_cmpR op_eq (pv 0) pe_str (nomark _)) (pss_one (ps_expr (pe_bm PySem.F.plainAttrs_list PySem.F.slot_list_append PySem.F.type_list_append mt_append (pv 3) (pa_cons (pe_tup (pa_cons (pv 4) (pa_cons (pe_op op_mulW (pv 6) (pv 8)) (pa_cons (pe_op op_plus (pe_op op_mulW (pv 6) (pv 9)) (pe_op op_mulW (pv 7) (pv 8))) pa_nil)))) pa_nil)))) (pss_one (ps_if (pt_cmpR op_in_seq (pv 0) (pe_tup (pa_cons pe_str (pa_cons pe_str pa_nil))) (by with_unfolding_all rfl)) (pss_one (ps_for PassesOwn.never rfl (pi_seq (pe_call (ok_signed T) (hr.mono (by omega)) (by rfl) T.signed.m T.signed.F.kp T.signed.b .nil pass0 (pa_cons (pv 4) (pa_cons (pv 5) (pa_cons (pv 6) (pa_cons (pv 7) pa_nil)))))) (pg_tup (n := 3) rfl (pgs_cons (pg_name (i := 11) sc_combined.nd rfl (.inl rfl)) (pgs_cons (pg_name (i := 12) sc_combined.nd rfl (.inl rfl)) (pgs_cons (pg_name (i := 10) sc_combined.nd rfl (.inl rfl)) pgs_nil)))) (pss_one (ps_expr (pe_bm PySem.F.plainAttrs_list PySem.F.slot_list_append PySem.F.type_list_append mt_append (pv 3) (pa_cons (pe_ifExp (pt_cmpR op_eq (pe_cmpR op_eq (pv 10) pe_int (nomark _)) (pe_cmpR op_eq (pv 0) pe_str (nomark _)) (nomark _)) (pe_tup (pa_cons (pv 11) (pa_cons (pv 6) (pa_cons (pv 7) pa_nil)))) (pe_tup (pa_cons (pv 11) (pa_cons (pv 8) (pa_cons (pv 9) pa_nil))))) pa_nil)))))) (pss_one (ps_for PassesOwn.never rfl (pi_seq (pe_call (ok_signed T) (hr.mono (by omega)) (by rfl) T.signed.m T.signed.F.kp T.signed.b .nil pass0 (pa_cons (pv 4) (pa_cons (pv 5) (pa_cons (pe_op op_sub (pv 6) (pv 8)) (pa_cons (pe_op op_sub (pv 7) (pv 9)) pa_nil)))))) (pg_tup (n := 3) rfl (pgs_cons (pg_name (i := 11) sc_combined.nd rfl (.inl rfl)) (pgs_cons (pg_name (i := 12) sc_combined.nd rfl (.inl rfl)) (pgs_cons (pg_name (i := 10) sc_combined.nd rfl (.inl rfl)) pgs_nil)))) (pss_one (ps_expr (pe_bm PySem.F.plainAttrs_list PySem.F.slot_list_append PySem.F.type_list_append mt_append (pv 3) (pa_cons (pe_tup (pa_cons (pv 11) (pa_cons (pe_call (ok_signs_of T) (hr.mono (by omega)) (by rfl) T.signs_of.m T.signs_of.F.kp T.signs_of.b .nil pass0 (pa_cons (pv 0) (pa_cons (pv 10) pa_nil))) (pa_cons pe_int pa_nil)))) pa_nil)))))))))))))
        (pss_one (ps_ret (pe_call (ok_joined T) (hr.mono (by omega)) (by rfl) T.joined.m T.joined.F.kp T.joined.b .nil pass0 (pa_cons (pv 3) pa_nil)))))), ?_⟩
  try dsimp only [cx_K, cx_w]
  refine ws_rho (ρ' := [some _, some _, some _, none, none, none, none, none, none, none, none, none, none]) rfl ?_
  walk_at "go"
  intro p
  walk_at "go"
  have hall := flatMap_len (comb1 o) 3 (overlaidM one other) fun s _ => comb1_len o s
  have hov := overlaid_len one other
  refine ws_forP (p := p) (Rf := []) (overlaidM one other) encS6 (comb1 o) [] encP [4, 5, 6, 7, 8, 9, 10, 11, 12] ?_ (fun x b hx hl => ?_) ?_
  · refine wi_seq ?_
    walk_at "go"
    refine ⟨(one, other), rfl, ⟨h3, h4, show one.length * other.length < 10000000 by omega⟩, ?_⟩
    exact ⟨_, fSeq.l, rfl, rfl⟩
  · obtain ⟨ba, bb, bc, bd⟩ := overlaid_bd h1 h2 x hx
    have hl2 : b.length + (comb1 o x).length < 10000000 := by
      simp only [List.length_nil] at hl
      omega
    clear hl hall hov
    obtain ⟨x1, x2, xa, xb, xc, xd⟩ := x
    have ba : Bd 4000 xa := ba
    have bb : Bd 4000 xb := bb
    have bc : Bd 4000 xc := bc
    have bd : Bd 4000 xd := bd
    have hs1 : ∀ y, Bd 4000 y → CMulW 1 y := fun y hy => mulOk (k := 1) (l := 4000) (show (1 : Int).natAbs < 2 ^ 1 by decide) hy (by omega) (by omega) (by omega)
    have hs2 : ∀ y, Bd 4000 y → CMulW (-1) y := fun y hy => mulOk (k := 1) (l := 4000) (show (-1 : Int).natAbs < 2 ^ 1 by decide) hy (by omega) (by omega) (by omega)
    have hmm : ∀ x y, Bd 4000 x → Bd 4000 y → CMulW x y := fun x y hx hy => mulOk hx hy (by omega) (by omega) (by omega)
    walk_at "nm"
    walk_at "g6"
    walk_at "nm"
    by_cases hc : o.isCmp = true
    · have c1 : inV (V.str o.str) [V.str "+", V.str "-"] = false := by cases o <;> first | (cases hc; done) | rfl
      have c2 : decide (o.str = ("*" : Str)) = false := by cases o <;> first | (cases hc; done) | rfl
      have c3 : inV (V.str o.str) [V.str "and", V.str "or"] = false := by cases o <;> first | (cases hc; done) | rfl
      have c4 : comb1 o (x1, x2, xa, xb, xc, xd) = (signedM x1 x2 (xa - xc) (xb - xd)).flatMap fun g => [(g.1, b2i (signsOf o g.2.2), 0)] := by
        rw [flatMap_one]
        cases o <;> first | (cases hc; done) | rfl
      rw [c4] at hl2
      walk_at "go"
      refine br_f c1 ?_
      walk_at "go"
      rw [Bool.xor_false]
      refine br_f c2 ?_
      walk_at "go"
      refine br_f c3 ?_
      refine ws_forP (p := p) (Rf := []) (signedM x1 x2 (xa - xc) (xb - xd)) encSg (fun g => [(g.1, b2i (signsOf o g.2.2), 0)]) b encP [10, 11, 12] ?_ (fun y b2 hy hl3 => ?_) ?_
      · refine wi_seq ?_
        walk_at "go"
        refine ⟨(x1, x2, xa - xc, xb - xd), rfl, ⟨(ba.sub bc).mono (by omega), (bb.sub bd).mono (by omega)⟩, ?_⟩
        exact ⟨_, fSeq.l, rfl, rfl⟩
      · have hl4 : (b2.map encP).length < 10000000 := by rw [List.length_map]; simp only [List.length_cons, List.length_nil] at hl3; omega
        obtain ⟨y1, y2, y3⟩ := y
        walk_at "nm"
        walk_at "g3"
        walk_at "nm"
        walk_at "go"
        refine we_app1 rfl hl4 ?_
        walk_at "go"
        refine ⟨(o, y3), rfl, hc, ?_⟩
        walk_at "go"
        exact ⟨rfl, rfl, rsP rfl⟩
      · walk_at "nm"
        refine ⟨rfl, ?_⟩
        rw [c4]
    cases o with
    | add =>
      walk_at "go"
      have hl3 : (b.map encP).length < 10000000 := by rw [List.length_map]; simp only [comb1, List.length_cons, List.length_nil] at hl2; omega
      refine we_app1 rfl hl3 ?_
      walk_at "go"
      refine fI2c.i (hs1 _ bc) ?_
      walk_at "go"
      refine fI2c.i (hs1 _ bd) ?_
      walk_at "go"
      exact ⟨rfl, rfl, rsP rfl⟩
    | sub =>
      walk_at "go"
      have hl3 : (b.map encP).length < 10000000 := by rw [List.length_map]; simp only [comb1, List.length_cons, List.length_nil] at hl2; omega
      refine we_app1 rfl hl3 ?_
      walk_at "go"
      refine fI2c.i (hs2 _ bc) ?_
      walk_at "go"
      refine fI2c.i (hs2 _ bd) ?_
      walk_at "go"
      exact ⟨rfl, rfl, rsP rfl⟩
    | mul =>
      walk_at "go"
      have hl3 : (b.map encP).length < 10000000 := by rw [List.length_map]; simp only [comb1, List.length_cons, List.length_nil] at hl2; omega
      refine we_app1 rfl hl3 ?_
      walk_at "go"
      refine fI2c.i (hmm _ _ ba bc) ?_
      walk_at "go"
      refine fI2c.i (hmm _ _ ba bd) ?_
      walk_at "go"
      refine fI2c.i (hmm _ _ bb bc) ?_
      walk_at "go"
      exact ⟨rfl, rfl, rsP rfl⟩
    | and =>
      have c4 : comb1 .and (x1, x2, xa, xb, xc, xd) = (signedM x1 x2 xa xb).flatMap fun g => [if g.2.2 = 0 then (g.1, xa, xb) else (g.1, xc, xd)] := by
        rw [flatMap_one]
        rfl
      rw [c4] at hl2
      walk_at "go"
      refine ws_forP (p := p) (Rf := []) (signedM x1 x2 xa xb) encSg (fun g => [if g.2.2 = 0 then (g.1, xa, xb) else (g.1, xc, xd)]) b encP [10, 11, 12] ?_ (fun y b2 hy hl3 => ?_) ?_
      · refine wi_seq ?_
        walk_at "go"
        refine ⟨(x1, x2, xa, xb), rfl, ⟨ba.mono (by omega), bb.mono (by omega)⟩, ?_⟩
        exact ⟨_, fSeq.l, rfl, rfl⟩
      · have hl4 : (b2.map encP).length < 10000000 := by rw [List.length_map]; simp only [List.length_cons, List.length_nil] at hl3; omega
        obtain ⟨y1, y2, y3⟩ := y
        walk_at "nm"
        walk_at "g3"
        walk_at "nm"
        walk_at "go"
        refine we_app1 rfl hl4 (we_cut (.d (encP (if y3 = 0 then (y1, xa, xb) else (y1, xc, xd)))) ?_ ⟨_, rfl, rfl, ?_⟩)
        · by_cases hz : y3 = 0
          · rw [if_pos hz]
            subst hz
            walk_at "go"
            exact ⟨rfl, rfl⟩
          · rw [if_neg hz]
            walk_at "go"
            rw [decide_eq_false hz]
            walk_at "go"
            exact ⟨rfl, rfl⟩
        · walk_at "go"
          exact ⟨rfl, rsP rfl⟩
      · walk_at "nm"
        refine ⟨rfl, ?_⟩
        rw [c4]
    | or =>
      have c4 : comb1 .or (x1, x2, xa, xb, xc, xd) = (signedM x1 x2 xa xb).flatMap fun g => [if g.2.2 = 0 then (g.1, xc, xd) else (g.1, xa, xb)] := by
        rw [flatMap_one]
        rfl
      rw [c4] at hl2
      walk_at "go"
      refine ws_forP (p := p) (Rf := []) (signedM x1 x2 xa xb) encSg (fun g => [if g.2.2 = 0 then (g.1, xc, xd) else (g.1, xa, xb)]) b encP [10, 11, 12] ?_ (fun y b2 hy hl3 => ?_) ?_
      · refine wi_seq ?_
        walk_at "go"
        refine ⟨(x1, x2, xa, xb), rfl, ⟨ba.mono (by omega), bb.mono (by omega)⟩, ?_⟩
        exact ⟨_, fSeq.l, rfl, rfl⟩
      · have hl4 : (b2.map encP).length < 10000000 := by rw [List.length_map]; simp only [List.length_cons, List.length_nil] at hl3; omega
        obtain ⟨y1, y2, y3⟩ := y
        walk_at "nm"
        walk_at "g3"
        walk_at "nm"
        walk_at "go"
        refine we_app1 rfl hl4 (we_cut (.d (encP (if y3 = 0 then (y1, xc, xd) else (y1, xa, xb)))) ?_ ⟨_, rfl, rfl, ?_⟩)
        · by_cases hz : y3 = 0
          · rw [if_pos hz]
            subst hz
            walk_at "go"
            exact ⟨rfl, rfl⟩
          · rw [if_neg hz]
            walk_at "go"
            rw [decide_eq_false hz]
            walk_at "go"
            exact ⟨rfl, rfl⟩
        · walk_at "go"
          exact ⟨rfl, rsP rfl⟩
      · walk_at "nm"
        refine ⟨rfl, ?_⟩
        rw [c4]
    | div => exact absurd rfl hn1
    | mod => exact absurd rfl hn2
    | _ => exact absurd rfl hc
  · walk_at "nm"
    refine ws_frz (i := 3) rfl ?_
    walk_at "nm"
    walk_at "go"
    refine ⟨by rw [List.nil_append]; show ((overlaidM one other).flatMap (comb1 o)).length < 10000000; omega, ?_⟩
    walk_at "go"
    unfold combinedM
    exact ⟨rfl, rfl⟩
end
section
variable {P : Program} {w : World} {K : PySem.W.Frag} {mg : Str → Option Value} {base : Heap}
/-! chosen -/
theorem sort_enc (ps : List Piece) : ((ps.map pL).mergeSort leT).map Ab.encD = (sortP ps).map encP := by
  have e : leT = leL := by rw [leT_eq]; rfl
  unfold sortP
  rw [e, List.map_map]
  refine List.map_congr_left fun x hx => ?_
  have hx : x ∈ ps.map pL := (List.mergeSort_perm _ _).mem_iff.mp hx
  obtain ⟨p, _, rfl⟩ := List.mem_map.mp hx
  rfl
abbrev Det_chosen : FT := Det (fun z : List Piece × List Piece × List Piece => [encPs z.1, encPs z.2.1, encPs z.2.2]) (fun z => PB 4000 z.1 ∧ z.1.length < 10000000 ∧ z.2.1.length < 10000000 ∧ z.2.2.length < 10000000 ∧ 3 * (z.1.length * z.2.1.length) + 3 * (z.1.length * z.2.2.length) < 10000000) (fun z => encPs (chosenM z.1 z.2.1 z.2.2))
theorem chose1_len (t : Bool) (x : Str6) : (chose1 t x).length ≤ 3 := by
  obtain ⟨a, b, c, d, e, f⟩ := x
  have h := flatMap_len (fun g : Sg => if decide (g.2.2 = 0) = t then [(g.1, e, f)] else []) 1 (signedM a b c d) fun g _ => by split <;> simp
  have := signed_len a b c d
  exact Nat.le_trans h (by omega)
theorem overlaid_bd1 {k : Nat} {x y : List Piece} (hx : PB k x) : ∀ s ∈ overlaidM x y, Bd k s.2.2.1 ∧ Bd k s.2.2.2.1 := by
  intro s hs
  unfold overlaidM at hs
  obtain ⟨p, hp, hs⟩ := List.mem_flatMap.mp hs
  obtain ⟨q, hq, hs⟩ := List.mem_flatMap.mp hs
  have h1 := stretches_bd hx p hp
  unfold over1 at hs
  split at hs
  · simp only [List.mem_singleton] at hs
    subst hs
    exact ⟨h1.1, h1.2⟩
  · cases hs
theorem ok_chosen (T : Txt K w mg) : FnOk P w K mg base CX0 4 T.chosen.f T.chosen.fd P_chosen (spG K Det_chosen) := by
  refine okDet T.chosen.F sc_chosen (fun x => rfl) fun cdv A outer s H E z hr pre => ?_
  obtain ⟨test, one, other⟩ := z
  obtain ⟨h1, h2, h3, h4, h5⟩ := pre
  have h1 : PB 4000 test := h1
  have h2 : test.length < 10000000 := h2
  have h3 : one.length < 10000000 := h3
  have h4 : other.length < 10000000 := h4
  have h5 : 3 * (test.length * one.length) + 3 * (test.length * other.length) < 10000000 := h5
  have hu := hu_of hr
  refine ⟨_, (pss_cons (ps_set (i := 3) sc_chosen.nd rfl (.inl rfl) (pe_lst pa_nil))
        (pss_cons (ps_for PassesOwn.never rfl (pi_seq (pe_call (ok_overlaid T) (hr.mono (by omega)) (by rfl) T.overlaid.m T.overlaid.F.kp T.overlaid.b .nil pass0 (pa_cons (pv 0) (pa_cons (pv 1) pa_nil)))) (pg_tup (n := 6) rfl (pgs_cons (pg_name (i := 4) sc_chosen.nd rfl (.inl rfl)) (pgs_cons (pg_name (i := 5) sc_chosen.nd rfl (.inl rfl)) (pgs_cons (pg_name (i := 6) sc_chosen.nd rfl (.inl rfl)) (pgs_cons (pg_name (i := 7) sc_chosen.nd rfl (.inl rfl)) (pgs_cons (pg_name (i := 8) sc_chosen.nd rfl (.inl rfl)) (pgs_cons (pg_name (i := 9) sc_chosen.nd rfl (.inl rfl)) pgs_nil))))))) (pss_one (ps_for PassesOwn.never rfl (pi_seq (pe_call (ok_signed T) (hr.mono (by omega)) (by rfl) T.signed.m T.signed.F.kp T.signed.b .nil pass0 (pa_cons (pv 4) (pa_cons (pv 5) (pa_cons (pv 6) (pa_cons (pv 7) pa_nil)))))) (pg_tup (n := 3) rfl (pgs_cons (pg_name (i := 10) sc_chosen.nd rfl (.inl rfl)) (pgs_cons (pg_name (i := 11) sc_chosen.nd rfl (.inl rfl)) (pgs_cons (pg_name (i := 12) sc_chosen.nd rfl (.inl rfl)) pgs_nil)))) (pss_one (ps_if (pt_cmpR op_ne (pv 12) pe_int (nomark _)) (pss_one (ps_expr (pe_bm PySem.F.plainAttrs_list PySem.F.slot_list_append PySem.F.type_list_append mt_append (pv 3) (pa_cons (pe_tup (pa_cons (pv 10) (pa_cons (pv 8) (pa_cons (pv 9) pa_nil)))) pa_nil)))) pss_nil)))))
        (pss_cons (ps_for PassesOwn.never rfl (pi_seq (pe_call (ok_overlaid T) (hr.mono (by omega)) (by rfl) T.overlaid.m T.overlaid.F.kp T.overlaid.b .nil pass0 (pa_cons (pv 0) (pa_cons (pv 2) pa_nil)))) (pg_tup (n := 6) rfl (pgs_cons (pg_name (i := 4) sc_chosen.nd rfl (.inl rfl)) (pgs_cons (pg_name (i := 5) sc_chosen.nd rfl (.inl rfl)) (pgs_cons (pg_name (i := 6) sc_chosen.nd rfl (.inl rfl)) (pgs_cons (pg_name (i := 7) sc_chosen.nd rfl (.inl rfl)) (pgs_cons (pg_name (i := 8) sc_chosen.nd rfl (.inl rfl)) (pgs_cons (pg_name (i := 9) sc_chosen.nd rfl (.inl rfl)) pgs_nil))))))) (pss_one (ps_for PassesOwn.never rfl (pi_seq (pe_call (ok_signed T) (hr.mono (by omega)) (by rfl) T.signed.m T.signed.F.kp T.signed.b .nil pass0 (pa_cons (pv 4) (pa_cons (pv 5) (pa_cons (pv 6) (pa_cons (pv 7) pa_nil)))))) (pg_tup (n := 3) rfl (pgs_cons (pg_name (i := 10) sc_chosen.nd rfl (.inl rfl)) (pgs_cons (pg_name (i := 11) sc_chosen.nd rfl (.inl rfl)) (pgs_cons (pg_name (i := 12) sc_chosen.nd rfl (.inl rfl)) pgs_nil)))) (pss_one (ps_if (pt_cmpR op_eq (pv 12) pe_int (nomark _)) (pss_one (ps_expr (pe_bm PySem.F.plainAttrs_list PySem.F.slot_list_append PySem.F.type_list_append mt_append (pv 3) (pa_cons (pe_tup (pa_cons (pv 10) (pa_cons (pv 8) (pa_cons (pv 9) pa_nil)))) pa_nil)))) pss_nil)))))
        (pss_one (ps_ret (pe_call (ok_joined T) (hr.mono (by omega)) (by rfl) T.joined.m T.joined.F.kp T.joined.b .nil pass0 (pa_cons (pe_callB (cl_sortT hr.units) (by rfl) T.b_sorted (by decide +kernel) (pa_cons (pv 3) pa_nil)) pa_nil))))))), ?_⟩
  try dsimp only [cx_K, cx_w]
  refine ws_rho (ρ' := [some _, some _, some _, none, none, none, none, none, none, none, none, none, none]) rfl ?_
  walk_at "go"
  intro p
  walk_at "go"
  have hall1 := flatMap_len (chose1 false) 3 (overlaidM test one) fun s _ => chose1_len false s
  have hov1 := overlaid_len test one
  have hall2 := flatMap_len (chose1 true) 3 (overlaidM test other) fun s _ => chose1_len true s
  have hov2 := overlaid_len test other
  refine ws_forP (p := p) (Rf := []) (overlaidM test one) encS6 (chose1 false) [] encP [4, 5, 6, 7, 8, 9, 10, 11, 12] ?_ (fun x b hx hl => ?_) ?_
  · refine wi_seq ?_
    walk_at "go"
    refine ⟨(test, one), rfl, ⟨h2, h3, show test.length * one.length < 10000000 by omega⟩, ?_⟩
    exact ⟨_, fSeq.l, rfl, rfl⟩
  · obtain ⟨ba, bb⟩ := overlaid_bd1 h1 x hx
    have hl2 : b.length + (chose1 false x).length < 10000000 := by
      simp only [List.length_nil] at hl
      omega
    clear hl hall1 hov1 hall2 hov2
    obtain ⟨x1, x2, xa, xb, xc, xd⟩ := x
    walk_at "nm"
    walk_at "g6"
    walk_at "nm"
    refine ws_forP (p := p) (Rf := []) (signedM x1 x2 xa xb) encSg (fun g => if decide (g.2.2 = 0) = false then [(g.1, xc, xd)] else []) b encP [10, 11, 12] ?_ (fun y b2 hy hl3 => ?_) ?_
    · refine wi_seq ?_
      walk_at "go"
      refine ⟨(x1, x2, xa, xb), rfl, ⟨ba.mono (by omega), bb.mono (by omega)⟩, ?_⟩
      exact ⟨_, fSeq.l, rfl, rfl⟩
    · have e : chose1 false (x1, x2, xa, xb, xc, xd) = (signedM x1 x2 xa xb).flatMap fun g => if decide (g.2.2 = 0) = false then [(g.1, xc, xd)] else [] := rfl
      rw [e] at hl2
      obtain ⟨y1, y2, y3⟩ := y
      walk_at "nm"
      walk_at "g3"
      walk_at "nm"
      by_cases hz : y3 = 0
      · subst hz
        walk_at "go"
        exact ⟨rfl, rsN rfl⟩
      · have hd : decide (y3 = 0) = false := decide_eq_false hz
        have e3 : (if decide (y3 = 0) = false then [(y1, xc, xd)] else []) = [(y1, xc, xd)] := by rw [hd]; rfl
        have hl4 : (b2.map encP).length < 10000000 := by
          rw [e3] at hl3
          rw [List.length_map]; simp only [List.length_cons, List.length_nil] at hl3; omega
        walk_at "go"
        rw [hd]
        walk_at "go"
        refine we_app1 rfl hl4 ?_
        walk_at "go"
        exact ⟨rfl, rfl, rsP rfl⟩
    · walk_at "nm"
      exact ⟨rfl, rfl⟩
  walk_at "nm"
  refine ws_seq ?_
  refine ws_forP (p := p) (Rf := []) (overlaidM test other) encS6 (chose1 true) ((overlaidM test one).flatMap (chose1 false)) encP [4, 5, 6, 7, 8, 9, 10, 11, 12] ?_ (fun x b hx hl => ?_) ?_
  · refine wi_seq ?_
    walk_at "go"
    refine ⟨(test, other), rfl, ⟨h2, h4, show test.length * other.length < 10000000 by omega⟩, ?_⟩
    exact ⟨_, fSeq.l, rfl, rfl⟩
  · obtain ⟨ba, bb⟩ := overlaid_bd1 h1 x hx
    have hl2 : b.length + (chose1 true x).length < 10000000 := by omega
    clear hl hall1 hov1 hall2 hov2
    obtain ⟨x1, x2, xa, xb, xc, xd⟩ := x
    walk_at "nm"
    walk_at "g6"
    walk_at "nm"
    refine ws_forP (p := p) (Rf := []) (signedM x1 x2 xa xb) encSg (fun g => if decide (g.2.2 = 0) = true then [(g.1, xc, xd)] else []) b encP [10, 11, 12] ?_ (fun y b2 hy hl3 => ?_) ?_
    · refine wi_seq ?_
      walk_at "go"
      refine ⟨(x1, x2, xa, xb), rfl, ⟨ba.mono (by omega), bb.mono (by omega)⟩, ?_⟩
      exact ⟨_, fSeq.l, rfl, rfl⟩
    · have e : chose1 true (x1, x2, xa, xb, xc, xd) = (signedM x1 x2 xa xb).flatMap fun g => if decide (g.2.2 = 0) = true then [(g.1, xc, xd)] else [] := rfl
      rw [e] at hl2
      obtain ⟨y1, y2, y3⟩ := y
      walk_at "nm"
      walk_at "g3"
      walk_at "nm"
      by_cases hz : y3 = 0
      · subst hz
        have hl4 : (b2.map encP).length < 10000000 := by
          have e3 : (if decide ((0 : Int) = 0) = true then [(y1, xc, xd)] else []) = [(y1, xc, xd)] := rfl
          rw [e3] at hl3
          rw [List.length_map]; simp only [List.length_cons, List.length_nil] at hl3; omega
        walk_at "go"
        refine we_app1 rfl hl4 ?_
        walk_at "go"
        exact ⟨rfl, rfl, rsP rfl⟩
      · have hd : decide (y3 = 0) = false := decide_eq_false hz
        walk_at "go"
        rw [hd]
        walk_at "go"
        exact ⟨rfl, rsN rfl⟩
    · walk_at "nm"
      exact ⟨rfl, rfl⟩
  walk_at "nm"
  refine ws_frz (i := 3) rfl ?_
  walk_at "nm"
  walk_at "go"
  have hlen : ((overlaidM test one).flatMap (chose1 false) ++ (overlaidM test other).flatMap (chose1 true)).length < 10000000 := by
    rw [List.length_append]
    omega
  rw [encP_pL]
  refine fSort.i (n := 2) (fun t ht => ?_) (by rw [List.length_map]; omega) ?_
  · obtain ⟨p, _, rfl⟩ := List.mem_map.mp ht
    rfl
  rw [sort_enc]
  walk_at "go"
  refine ⟨?_, ?_⟩
  · show (sortP _).length < 10000000
    unfold sortP
    rw [List.length_map, List.length_mergeSort, List.length_map]
    exact hlen
  walk_at "go"
  unfold chosenM
  exact ⟨rfl, rfl⟩
end
section
/-! trees -/
def encTr : Tr → D
  | .n => .tup [.str "n"]
  | .num v => .tup [.str "number", .int v]
  | .not a => .tup [.str "not", encTr a]
  | .ite a b c => .tup [.str "if", encTr a, encTr b, encTr c]
  | .bin o a b => .tup [.str o.str, encTr a, encTr b]
def parts : Tr → List Tr
  | .n => []
  | .num _ => []
  | .not a => [a]
  | .ite a b c => [a, b, c]
  | .bin _ a b => [a, b]
def hdS : Tr → Str
  | .n => "n"
  | .num _ => "number"
  | .not _ => "not"
  | .ite _ _ _ => "if"
  | .bin o _ _ => o.str
def tlD : Tr → List D
  | .n => []
  | .num v => [.int v]
  | .not a => [encTr a]
  | .ite a b c => [encTr a, encTr b, encTr c]
  | .bin _ a b => [encTr a, encTr b]
theorem encTr_eq (t : Tr) : encTr t = .tup (.str (hdS t) :: tlD t) := by cases t <;> rfl
theorem atI_zero {α : Type} (x : α) (l : List α) : atI (x :: l) 0 = some x := atI_nat (j := 0) rfl
theorem ix_hd {t : Tr} {k : AV → Prop} (h : k (.d (.str (hdS t)))) : fIx (.d (encTr t)) (.d (.int 0)) k := by
  rw [encTr_eq]
  exact fIx.t (atI_zero _ _) h
theorem isNum_hd (t : Tr) : decide (hdS t = ("number" : Str)) = t.isNum := by
  cases t with
  | bin o a b => cases o <;> rfl
  | _ => rfl
def ht : Tr → Nat
  | .n => 0
  | .num _ => 0
  | .not a => ht a + 1
  | .ite a b c => max (max (ht a) (ht b)) (ht c) + 1
  | .bin _ a b => max (ht a) (ht b) + 1
theorem op_str_ne (o : Op) : decide (o.str = ("n" : Str)) = false ∧ decide (o.str = ("number" : Str)) = false ∧ decide (o.str = ("not" : Str)) = false ∧ decide (o.str = ("if" : Str)) = false := by cases o <;> exact ⟨rfl, rfl, rfl, rfl⟩
theorem op_in_nn (o : Op) : inV (V.str o.str) [V.str "n", V.str "number"] = false := by cases o <;> rfl
end
end Ms
set_option Elab.async false
set_option linter.all false
set_option maxRecDepth 100000
set_option maxHeartbeats 4000000
namespace Ms
open PySem PySem.Spec L2 Ab
open PyProof.Rows hiding St
local macro_rules | `(tactic| walk_at "e1") => `(tactic| first
  | ((with_reducible refine' we_var ?hv ?_); case hv => rfl)
  | (with_reducible refine we_cI ?_)
  | (with_reducible refine we_cS ?_)
  | (with_reducible refine we_cB ?_)
  | (with_reducible refine we_cN ?_)
  | ((with_reducible refine' we_ixJ ?hv ?hw ?_); (case hv => rfl); (case hw => rfl))
  | (with_reducible refine we_opc ?_)
  | (with_reducible refine we_cbc ?_)
  | (with_reducible refine wa_cons ?_)
  | (with_reducible refine wa_nil ?_)
  | (with_reducible refine wt_test ?_)
  | (with_reducible refine we_if ?_)
  | (with_reducible refine wt_B ?_)
  | (with_reducible refine wt_not ?_)
  | (with_reducible refine wt_and ?_)
  | (with_reducible refine wt_or ?_)
  | (with_reducible refine we_tupS ?_)
  | (with_reducible refine we_lstS ?_)
  | (with_reducible refine we_andV ?_)
  | (with_reducible refine we_orV ?_)
  | (with_reducible refine we_notV ?_)
  | (with_reducible refine we_chainc ?_)
  | (with_reducible refine we_callD ?_)
  | (with_reducible refine we_un au_neg ?_)
  | refine fI2.i ?_
  | refine fPlus.i ?_
  | refine fEq.i ?_
  | refine fEq.s ?_
  | refine fC2.i ?_
  | refine fMax3.i ?_
  | refine fInt.i ?_
  | refine fInt.b ?_
  | refine fLen.l ?_
  | refine fLen.t ?_
  | refine fNo.i ?_
  | refine ix_hd ?_
  | refine fIx.t rfl ?_
  | refine fIx.l rfl ?_
  | refine fEq.b ?_
  | refine fIn.t rfl rfl ?_
  | refine fIn.l rfl rfl ?_
  | refine fSl.t ?_
  | refine fSl.l ?_
  | (with_reducible refine we_sl ?_)
  | (with_reducible refine wp_cons ?_)
  | (with_reducible refine wp_nil ?_)
  | refine we_fld1 rfl (by with_reducible assumption) (by with_reducible assumption) rfl ?_
  | (with_reducible refine wo_none ?_)
  | (with_reducible refine wo_some ?_)
  | refine fNeg.i ?_
  | refine fDs.mk rfl (Nat.le_of_ble_eq_true rfl) ?_
  | ((with_reducible refine br_t ?hv ?_); case hv => rfl)
  | ((with_reducible refine br_f ?hv ?_); case hv => rfl)
  | ((with_reducible refine' Exists.intro _ (And.intro ?hv ?_)); case hv => rfl)
  | ((with_reducible refine' Exists.intro _ (Exists.intro _ (And.intro ?hv ?_))); case hv => rfl)
  | ((with_reducible refine' Exists.intro _ (Exists.intro _ (Exists.intro _ (And.intro ?hv ?_)))); case hv => rfl))
local macro_rules | `(tactic| walk_at "t1") => `(tactic| first
  | (with_reducible refine ws_seq ?_)
  | (with_reducible refine ws_newL ?_)
  | (with_reducible refine ws_newD ?_)
  | (with_reducible refine ws_set ?_)
  | (with_reducible refine ws_if ?_)
  | (with_reducible refine ws_ret ?_)
  | (with_reducible refine ws_next ?_)
  | (with_reducible refine ws_par ?_)
  | (with_reducible refine ws_par3 ?_)
  | (with_reducible refine ws_drop ?_)
  | (with_reducible refine ws_retN ?_))
local macro_rules | `(tactic| walk_at "f1") => `(tactic| refine ws_fld1 rfl (by with_reducible assumption) (by with_reducible assumption) (Nat.le_of_ble_eq_true rfl) ?_)
local macro_rules | `(tactic| walk_at "s1") => `(tactic| first | walk_at "e1" | walk_at "t1")
local macro_rules | `(tactic| walk_at "ge") => `(tactic| repeat walk_at "e1")
local macro_rules | `(tactic| walk_at "go") => `(tactic| repeat walk_at "s1")
local macro_rules | `(tactic| walk_at "g1") => `(tactic| refine Exists.intro _ (Exists.intro _ (And.intro g_name ?_)))
local macro_rules | `(tactic| walk_at "g2") => `(tactic| refine Exists.intro _ (Exists.intro _ (And.intro (g_tup rfl (gs_cons g_name (gs_cons g_name gs_nil))) ?_)))
local macro_rules | `(tactic| walk_at "g3") => `(tactic| refine Exists.intro _ (Exists.intro _ (And.intro (g_tup rfl (gs_cons g_name (gs_cons g_name (gs_cons g_name gs_nil)))) ?_)))
local macro_rules | `(tactic| walk_at "g4") => `(tactic| refine Exists.intro _ (Exists.intro _ (And.intro (g_tup rfl (gs_cons g_name (gs_cons g_name (gs_cons g_name (gs_cons g_name gs_nil))))) ?_)))
local macro_rules | `(tactic| walk_at "g6") => `(tactic| refine Exists.intro _ (Exists.intro _ (And.intro (g_tup rfl (gs_cons g_name (gs_cons g_name (gs_cons g_name (gs_cons g_name (gs_cons g_name (gs_cons g_name gs_nil))))))) ?_)))
local macro_rules | `(tactic| walk_at "g13") => `(tactic| refine Exists.intro _ (Exists.intro _ (And.intro (g_tup rfl (gs_cons g_name (gs_cons (g_tup rfl (gs_cons g_name (gs_cons g_name (gs_cons g_name gs_nil)))) gs_nil))) ?_)))
local macro_rules | `(tactic| walk_at "nm") => `(tactic| try dsimp only [awipe, List.set_cons_succ, List.set_cons_zero, List.map])
local macro_rules | `(tactic| walk_at "c1") => `(tactic| refine Exists.intro _ (Exists.intro _ (And.intro g_name (And.intro (by decide) ?_))))
local macro_rules | `(tactic| walk_at "c3") => `(tactic| refine Exists.intro _ (Exists.intro _ (And.intro (g_tup rfl (gs_cons g_name (gs_cons g_name (gs_cons g_name gs_nil)))) (And.intro (by decide) ?_))))
local macro_rules | `(tactic| walk_at "c2") => `(tactic| refine Exists.intro _ (Exists.intro _ (And.intro (g_tup rfl (gs_cons g_name (gs_cons g_name gs_nil))) (And.intro (by decide) ?_))))
section
variable {P : Program} {w : World} {K : PySem.W.Frag} {mg : Str → Option Value} {base : Heap}
/-! common divisor, common multiple -/
abbrev Det_common_divisor : FT := Det (fun z : Nat × Nat => [.int (z.1 : Nat), .int (z.2 : Nat)]) (fun _ => True) (fun z => .int (Nat.gcd z.1 z.2 : Nat))
theorem gcd_turn (a b : Nat) : Nat.gcd a b = Nat.gcd b (a % b) := by
  rw [Nat.gcd_comm a b, Nat.gcd_rec b a, Nat.gcd_comm]
theorem ok_common_divisor (T : Txt K w mg) : FnOk P w K mg base CX0 1 T.common_divisor.f T.common_divisor.fd P_common_divisor (spG K Det_common_divisor) := by
  refine okDet T.common_divisor.F sc_common_divisor (fun x => rfl) fun cdv A outer s H E z hr _ => ?_
  obtain ⟨x, y⟩ := z
  have hu := hu_of hr
  refine ⟨_, (pss_cons (ps_while PassesOwn.never (pt_cmpR op_gt (pv 1) pe_int (nomark _)) (pss_one (ps_par (i := 0) (j := 1) (by rfl) sc_common_divisor.nd rfl rfl (by decide) rfl rfl (pa_cons (pv 1) (pa_cons (pe_op op_mod (pv 0) (pv 1)) pa_nil)) (by rfl))))
        (pss_one (ps_ret (pv 0)))), ?_⟩
  try dsimp only [cx_K, cx_w]
  refine ws_rho (ρ' := [some _, some _]) rfl ?_
  refine ws_seq ?_
  refine ws_while (fun m ρ' R' => ∃ a b : Nat, m = b ∧ ρ' = [some (.d (.int (a : Nat))), some (.d (.int (b : Nat)))] ∧ R' = [] ∧ Nat.gcd a b = Nat.gcd x y) y ⟨x, y, rfl, rfl, rfl, rfl⟩ fun m ρ' R' ⟨a, b, e1, e2, e3, e4⟩ => ?_
  subst e1
  subst e2
  subst e3
  walk_at "go"
  refine ⟨fun hb => ?_, fun hb => ?_⟩
  · have hb : 0 < m := by have := of_decide_eq_true hb; omega
    walk_at "go"
    refine fI2c.i (show (0 : Int) < (m : Nat) by omega) ?_
    walk_at "go"
    exact ⟨a % m, _, Nat.mod_lt a hb, Le.refl _, m, a % m, rfl, rfl, rfl, by rw [← e4, gcd_turn a m]⟩
  · have hb : m = 0 := by have := of_decide_eq_false hb; omega
    walk_at "go"
    refine ⟨?_, rfl⟩
    subst hb
    rw [← e4, Nat.gcd_zero_right]
abbrev Det_common_multiple : FT := Det (fun z : List Nat => [.lst (z.map fun n => .int (n : Nat))]) (fun z => z.length ≤ 8 ∧ ∀ n ∈ z, 0 < n ∧ n ≤ 1000) (fun z => .int (z.foldl Nat.lcm 1 : Nat))
theorem lcm_fold_bd : ∀ (z : List Nat) (b : Nat), 0 < b → (∀ n ∈ z, 0 < n ∧ n ≤ 1000) → 0 < z.foldl Nat.lcm b ∧ z.foldl Nat.lcm b ≤ b * 1000 ^ z.length
  | [], b, hb, _ => ⟨hb, by simp⟩
  | n :: z, b, hb, h => by
    obtain ⟨h1, h2⟩ := h n List.mem_cons_self
    have hl : Nat.lcm b n ≤ b * n := Nat.le_of_dvd (Nat.mul_pos hb h1) (Nat.lcm_dvd_mul b n)
    obtain ⟨h3, h4⟩ := lcm_fold_bd z (Nat.lcm b n) (Nat.lcm_pos hb h1) fun m hm => h m (List.mem_cons_of_mem _ hm)
    refine ⟨h3, Nat.le_trans h4 ?_⟩
    rw [List.length_cons, Nat.pow_succ, Nat.mul_comm (1000 ^ z.length) 1000, ← Nat.mul_assoc]
    exact Nat.mul_le_mul_right _ (Nat.le_trans hl (Nat.mul_le_mul_left _ h2))
theorem ok_common_multiple (T : Txt K w mg) : FnOk P w K mg base CX0 2 T.common_multiple.f T.common_multiple.fd P_common_multiple (spG K Det_common_multiple) := by
  refine okDet T.common_multiple.F sc_common_multiple (fun x => rfl) fun cdv A outer s H E z hr pre => ?_
  obtain ⟨hz1, hz2⟩ := pre
  have hu := hu_of hr
  refine ⟨_, (pss_cons (ps_set (i := 1) sc_common_multiple.nd rfl (.inl rfl) pe_int)
        (pss_cons (ps_for PassesOwn.never rfl (pi_seq (pv 0)) (pg_name (i := 2) sc_common_multiple.nd rfl (.inl rfl)) (pss_one (ps_set (i := 1) sc_common_multiple.nd rfl (.inl rfl) (pe_op op_fdivW (pe_op op_mulW (pv 1) (pv 2)) (pe_call (ok_common_divisor T) (hr.mono (by omega)) (by rfl) T.common_divisor.m T.common_divisor.F.kp T.common_divisor.b .nil pass0 (pa_cons (pv 1) (pa_cons (pv 2) pa_nil)))))))
        (pss_one (ps_ret (pv 1))))), ?_⟩
  try dsimp only [cx_K, cx_w]
  refine ws_rho (ρ' := [some _, none, none]) rfl ?_
  walk_at "go"
  refine ws_forB z (fun n => .int (n : Nat)) Nat.lcm 1 [2] (fun b => [some (.d (.lst (z.map fun n => .int (n : Nat)))), some (.d (.int (b : Nat))), none]) (fun _ => []) ?_ rfl (fun pre2 x post b e1 e2 => ?_) ?_
  · refine wi_seq ?_
    walk_at "go"
    exact ⟨_, fSeq.l, rfl, rfl⟩
  · have hx := hz2 x (by rw [e1]; simp)
    have hb := lcm_fold_bd pre2 1 (by omega) fun n hn => hz2 n (by rw [e1]; simp [hn])
    rw [← e2] at hb
    have hp : pre2.length ≤ 7 := by
      rw [e1] at hz1
      simp only [List.length_append, List.length_cons] at hz1
      omega
    have hb2 : b ≤ 1000 ^ 7 := by
      have h7 : 1000 ^ pre2.length ≤ 1000 ^ 7 := Nat.pow_le_pow_right (by omega) hp
      have h8 := hb.2
      rw [Nat.one_mul] at h8
      exact Nat.le_trans h8 h7
    have hbd : Bd 100 (b : Int) := by unfold Bd; rw [Int.natAbs_natCast]; exact Nat.lt_of_le_of_lt hb2 (by decide)
    have hxd : Bd 100 (x : Int) := by unfold Bd; rw [Int.natAbs_natCast]; exact Nat.lt_of_le_of_lt hx.2 (by decide)
    have hgp : 0 < Nat.gcd b x := Nat.gcd_pos_of_pos_left _ hb.1
    have hgd : Bd 100 ((Nat.gcd b x : Nat) : Int) := by
      unfold Bd; rw [Int.natAbs_natCast]
      exact Nat.lt_of_le_of_lt (Nat.le_trans (Nat.gcd_le_left _ hb.1) hb2) (by decide)
    walk_at "g1"
    walk_at "nm"
    walk_at "go"
    refine fI2c.i (mulOk hbd hxd (by omega) (by omega) (by omega)) ?_
    walk_at "go"
    refine ⟨(b, x), rfl, trivial, ?_⟩
    walk_at "go"
    refine fI2c.i (divOk hgd (show (0 : Int) < ((Nat.gcd b x : Nat) : Int) by omega) (by omega) (by omega)) ?_
    walk_at "go"
    refine ⟨?_, rfl⟩
    walk_at "nm"
    rfl
  · walk_at "nm"
    walk_at "go"
    exact ⟨rfl, rfl⟩
/-! trees -/
abbrev Det_parts_of_tree : FT := Det (fun z : Tr => [encTr z]) (fun _ => True) (fun z => .lst ((parts z).map encTr))
theorem ok_parts_of_tree (T : Txt K w mg) : FnOk P w K mg base CX0 1 T.parts_of_tree.f T.parts_of_tree.fd P_parts_of_tree (spG K Det_parts_of_tree) := by
  refine okDet T.parts_of_tree.F sc_parts_of_tree (fun x => rfl) fun cdv A outer s H E z hr pre => ?_
  have hu := hu_of hr
  refine ⟨_, (pss_one (ps_ret (pe_ifExp (pt_cmpR op_in_seq (pe_ix ix_seq (pv 0) pe_int (fun _ _ => rfl)) (pe_tup (pa_cons pe_str (pa_cons pe_str pa_nil))) (by with_unfolding_all rfl)) (pe_lst pa_nil) (pe_callTy cl_list (by rfl) T.b_list (by decide +kernel) (pa_cons (pe_slice sl_any (pv 0) (po_some pe_int) po_none) pa_nil))))), ?_⟩
  try dsimp only [cx_K, cx_w]
  refine ws_rho (ρ' := [some _]) rfl ?_
  cases z with
  | n =>
    walk_at "go"
    exact ⟨rfl, rfl⟩
  | num v =>
    walk_at "go"
    exact ⟨rfl, rfl⟩
  | not a =>
    walk_at "go"
    refine fList.t ?_
    exact ⟨rfl, rfl⟩
  | ite a b c =>
    walk_at "go"
    refine fList.t ?_
    exact ⟨rfl, rfl⟩
  | bin o a b =>
    walk_at "go"
    refine br_f (op_in_nn o) ?_
    walk_at "go"
    refine fList.t ?_
    exact ⟨rfl, rfl⟩
abbrev Det_is_linearH (h : Nat) : FT := Det (fun z : Tr => [encTr z]) (fun z => linM z = true ∧ ht z < h) (fun _ => .bl true)
theorem lin_parts {t : Tr} (h : linM t = true) : ∀ x ∈ parts t, linM x = true := by
  cases t with
  | bin o a b =>
    cases o <;> simp_all [linM, parts]
    all_goals (cases b <;> simp_all [linM, Tr.isNum, Tr.num?] <;> omega)
  | _ => simp_all [linM, parts]
theorem ht_parts {t : Tr} : ∀ x ∈ parts t, ht x < ht t := by
  cases t <;> simp [ht, parts] <;> omega
theorem all_trues (n : Nat) : ((List.replicate n true).all id) = true := by simp
theorem rc_is_linear (T : Txt K w mg) : ∀ h, FnOk P w K mg base CX0 (h + 2) T.is_linear.f T.is_linear.fd P_is_linear (spG K (Det_is_linearH h)) := by
  intro h
  induction h with
  | zero => exact okDet T.is_linear.F sc_is_linear (fun x => rfl) fun cdv A outer s H E z hr pre => absurd pre.2 (Nat.not_lt_zero _)
  | succ h ih_is_linear =>
    refine okDet T.is_linear.F sc_is_linear (fun x => rfl) fun cdv A outer s H E z hr pre => ?_
    obtain ⟨hz1, hz2⟩ := pre
    have hu := hu_of hr
    refine ⟨_, (pss_cons (ps_if (PW.pt (pw_and (pt_cmpR op_eq (pe_ix ix_seq (pv 0) pe_int (fun _ _ => rfl)) pe_str (nomark _)) (pw_and (pt_cmpR op_ne (pe_ix ix_seq (pe_ix ix_seq (pv 0) pe_int (fun _ _ => rfl)) pe_int (fun _ _ => rfl)) pe_str (nomark _)) (pw_and1 (pt_cmpR op_ne (pe_ix ix_seq (pe_ix ix_seq (pv 0) pe_int (fun _ _ => rfl)) pe_int (fun _ _ => rfl)) pe_str (nomark _)))))) (pss_one (ps_ret pe_bl)) pss_nil)
          (pss_cons (ps_if (PW.pt (pw_and (pt_cmpR op_in_seq (pe_ix ix_seq (pv 0) pe_int (fun _ _ => rfl)) (pe_tup (pa_cons pe_str (pa_cons pe_str pa_nil))) (by with_unfolding_all rfl)) (pw_and1 (PW.pt (pw_or (pt_cmpR op_ne (pe_ix ix_seq (pe_ix ix_seq (pv 0) pe_int (fun _ _ => rfl)) pe_int (fun _ _ => rfl)) pe_str (nomark _)) (pw_or1 (pt_cmpR op_eq (pe_ix ix_seq (pe_ix ix_seq (pv 0) pe_int (fun _ _ => rfl)) pe_int (fun _ _ => rfl)) pe_int (nomark _)))))))) (pss_one (ps_ret pe_bl)) pss_nil)
          (pss_one (ps_ret (pe_callB (cl_all rfl) (by rfl) T.b_all (by decide +kernel) (pa_cons (pe_lc (own := [("part", 1)]) (by rfl) sc_is_linear.nd (pi_seq (pe_call (ok_parts_of_tree T) (hr.mono (by omega)) (by rfl) T.parts_of_tree.m T.parts_of_tree.F.kp T.parts_of_tree.b .nil pass0 (pa_cons (pv 0) pa_nil))) (blkOk_by (own := [("part", 1)]) (N := N_is_linear) (sc := defScope s_is_linear) (by decide +kernel)) (fun _ _ _ _ _ => (pg_name (i := 1) sc_is_linear.nd rfl (.inl rfl))) (fun _ _ _ _ _ => pts_nil) (fun _ _ _ _ _ => (pe_call ih_is_linear (hr.mono (by omega)) (by rfl) T.is_linear.m T.is_linear.F.kp T.is_linear.b .nil pass0 (pa_cons (pv 1) pa_nil)))) pa_nil)))))), ?_⟩
    try dsimp only [cx_K, cx_w]
    refine ws_rho (ρ' := [some _, none]) rfl ?_
    have fin : WE K (tLc (iSeq K (tCall (spG K Det_parts_of_tree) [] E0 (tCons (tVar 0) tNil))) (gName 1) tYes (tCall (spG K (Det_is_linearH h)) [] E0 (tCons (tVar 1) tNil)) [1]) [some (.d (encTr z)), none] [] fun a R1 => a = .d (.lst (((parts z).map fun _ => true).map .bl)) ∧ R1 = [] := by
      refine we_lcM (parts z) encTr (fun _ => .bl true) (by cases z <;> simp [parts]) (wi_seq ?_)
      walk_at "go"
      refine ⟨trivial, _, fSeq.l, rfl, fun x hx => ?_, ?_⟩
      · walk_at "nm"
        walk_at "c1"
        walk_at "nm"
        refine wt_yes ⟨rfl, ?_⟩
        walk_at "go"
        exact ⟨⟨lin_parts hz1 x hx, by have := ht_parts x hx; omega⟩, rfl, rfl⟩
      · rw [List.map_map]
        exact ⟨rfl, rfl⟩
    cases z with
    | n =>
      walk_at "go"
      refine we_cut _ fin ?_
      walk_at "go"
      exact fAll.i ⟨by simp, rfl⟩
    | num v =>
      walk_at "go"
      refine we_cut _ fin ?_
      walk_at "go"
      exact fAll.i ⟨by simp, rfl⟩
    | not a =>
      walk_at "go"
      refine we_cut _ fin ?_
      walk_at "go"
      exact fAll.i ⟨by simp, rfl⟩
    | ite a b c =>
      walk_at "go"
      refine we_cut _ fin ?_
      walk_at "go"
      exact fAll.i ⟨by simp, rfl⟩
    | bin o a b =>
      by_cases hm : o = .mul
      · subst hm
        walk_at "go"
        rw [isNum_hd]
        cases ha : a.isNum with
        | true =>
          walk_at "go"
          refine we_cut _ fin ?_
          walk_at "go"
          exact fAll.i ⟨by simp, rfl⟩
        | false =>
          have hb : b.isNum = true := by simp only [linM, ha, Bool.false_or, Bool.and_eq_true] at hz1; exact hz1.1.1
          walk_at "go"
          rw [isNum_hd, hb]
          walk_at "go"
          refine we_cut _ fin ?_
          walk_at "go"
          exact fAll.i ⟨by simp, rfl⟩
      by_cases hd : o = .div ∨ o = .mod
      · have hb : b.isNum = true ∧ 0 < b.num? := by
          rcases hd with rfl | rfl <;> (simp only [linM, Bool.and_eq_true, decide_eq_true_eq] at hz1; exact ⟨hz1.1.2, hz1.2⟩)
        obtain ⟨hb1, hb2⟩ := hb
        cases b with
        | num v =>
          have hv : decide (v = 0) = false := decide_eq_false (by simp only [Tr.num?] at hb2; omega)
          rcases hd with rfl | rfl
          · walk_at "go"
            rw [hv]
            walk_at "go"
            refine we_cut _ fin ?_
            walk_at "go"
            exact fAll.i ⟨by simp, rfl⟩
          · walk_at "go"
            rw [hv]
            walk_at "go"
            refine we_cut _ fin ?_
            walk_at "go"
            exact fAll.i ⟨by simp, rfl⟩
        | _ => cases hb1
      have c1 : decide (o.str = ("*" : Str)) = false := by cases o <;> first | rfl | exact absurd rfl hm
      have c2 : inV (V.str o.str) [V.str "/", V.str "mod"] = false := by cases o <;> first | rfl | exact absurd (.inl rfl) hd | exact absurd (.inr rfl) hd
      walk_at "go"
      rw [Bool.xor_false]
      refine br_f c1 ?_
      walk_at "go"
      refine br_f c2 ?_
      walk_at "go"
      refine we_cut _ fin ?_
      walk_at "go"
      exact fAll.i ⟨by simp, rfl⟩
end
section
variable {P : Program} {w : World} {K : PySem.W.Frag} {mg : Str → Option Value} {base : Heap}
abbrev Det_is_linear : FT := Det_is_linearH 9
theorem ok_is_linear (T : Txt K w mg) : FnOk P w K mg base CX0 11 T.is_linear.f T.is_linear.fd P_is_linear (spG K Det_is_linear) := rc_is_linear T 9
/-! spans -/
theorem num_pos {b : Tr} (h : b.isNum = true) (h2 : 0 < b.num?) : b = .num b.num? ∧ 0 < b.num?.toNat := by
  cases b with
  | num v => exact ⟨rfl, by simp only [Tr.num?] at *; omega⟩
  | _ => cases h
theorem span_pos : ∀ t : Tr, linM t = true → 0 < spanM t
  | .n, _ => Nat.one_pos
  | .num _, _ => Nat.one_pos
  | .not a, h => Nat.lcm_pos Nat.one_pos (span_pos a h)
  | .ite a b c, h => by
    simp only [linM, Bool.and_eq_true] at h
    exact Nat.lcm_pos (Nat.lcm_pos (Nat.lcm_pos Nat.one_pos (span_pos a h.1.1)) (span_pos b h.1.2)) (span_pos c h.2)
  | .bin o a b, h => by
    have hp := lin_parts h
    by_cases hd : o = .div ∨ o = .mod
    · have hb : linM a = true ∧ b.isNum = true ∧ 0 < b.num? := by
        rcases hd with rfl | rfl <;> (simp only [linM, Bool.and_eq_true, decide_eq_true_eq] at h; exact ⟨h.1.1, h.1.2, h.2⟩)
      have := Nat.mul_pos (span_pos a hb.1) (num_pos hb.2.1 hb.2.2).2
      rcases hd with rfl | rfl <;> exact this
    · have := Nat.lcm_pos (Nat.lcm_pos Nat.one_pos (span_pos a (hp a (by simp [parts])))) (span_pos b (hp b (by simp [parts])))
      cases o <;> first | exact this | exact absurd (.inl rfl) hd | exact absurd (.inr rfl) hd
def isDM : Tr → Bool
  | .bin .div _ _ => true
  | .bin .mod _ _ => true
  | _ => false
theorem isDM_in (t : Tr) : inV (V.str (hdS t)) [V.str "/", V.str "mod"] = isDM t := by
  cases t with
  | bin o a b => cases o <;> rfl
  | _ => rfl
theorem isDM_form {t : Tr} (h : isDM t = true) (hl : linM t = true) : ∃ a v o, t = .bin o a (.num v) ∧ 0 < v ∧ spanM t = spanM a * v.toNat ∧ (o = .div ∨ o = .mod) := by
  cases t with
  | bin o a b =>
    have ho : o = .div ∨ o = .mod := by cases o <;> first | exact .inl rfl | exact .inr rfl | cases h
    have hb : b.isNum = true ∧ 0 < b.num? := by
      rcases ho with rfl | rfl <;> (simp only [linM, Bool.and_eq_true, decide_eq_true_eq] at hl; exact ⟨hl.1.2, hl.2⟩)
    obtain ⟨hb1, hb2⟩ := hb
    cases b with
    | num v => exact ⟨a, v, o, rfl, hb2, by rcases ho with rfl | rfl <;> rfl, ho⟩
    | _ => cases hb1
  | _ => cases h
theorem span_fold {t : Tr} (h : isDM t = false) : ((parts t).map spanM).foldl Nat.lcm 1 = spanM t := by
  cases t with
  | bin o a b => cases o <;> first | rfl | cases h
  | _ => rfl
theorem fold_dvd : ∀ (z : List Nat) (b : Nat), b ∣ z.foldl Nat.lcm b ∧ ∀ n ∈ z, n ∣ z.foldl Nat.lcm b
  | [], b => ⟨Nat.dvd_refl _, fun _ h => by cases h⟩
  | n :: z, b => by
    obtain ⟨h1, h2⟩ := fold_dvd z (Nat.lcm b n)
    refine ⟨Nat.dvd_trans (Nat.dvd_lcm_left b n) h1, fun m hm => ?_⟩
    rcases List.mem_cons.mp hm with rfl | hm
    · exact Nat.dvd_trans (Nat.dvd_lcm_right b m) h1
    · exact h2 m hm
theorem span_dvd {t : Tr} : linM t = true → ∀ x ∈ parts t, spanM x ∣ spanM t := by
  intro hl x hx
  cases h : isDM t with
  | false =>
    rw [← span_fold h]
    exact (fold_dvd _ _).2 _ (List.mem_map_of_mem hx)
  | true =>
    obtain ⟨a, v, o, rfl, hv, hs, ho⟩ := isDM_form h hl
    rw [hs]
    have hx : x = a ∨ x = .num v := by simpa [parts] using hx
    rcases hx with rfl | rfl
    · exact Nat.dvd_mul_right _ _
    · exact Nat.one_dvd _
abbrev Det_tree_spanH (h : Nat) : FT := Det (fun z : Tr => [encTr z]) (fun z => linM z = true ∧ spanM z ≤ 1000 ∧ ht z < h) (fun z => .int (spanM z : Nat))
theorem rc_tree_span (T : Txt K w mg) : ∀ h, FnOk P w K mg base CX0 (h + 4) T.tree_span.f T.tree_span.fd P_tree_span (spG K (Det_tree_spanH h)) := by
  intro h
  induction h with
  | zero => exact okDet T.tree_span.F sc_tree_span (fun x => rfl) fun cdv A outer s H E z hr pre => absurd pre.2.2 (Nat.not_lt_zero _)
  | succ h ih_tree_span =>
    refine okDet T.tree_span.F sc_tree_span (fun x => rfl) fun cdv A outer s H E z hr pre => ?_
    obtain ⟨hz1, hz3, hz2⟩ := pre
    have hu := hu_of hr
    have hsp := span_pos z hz1
    have hpb : ∀ x ∈ parts z, linM x = true ∧ 0 < spanM x ∧ spanM x ≤ 1000 ∧ ht x < h := fun x hx => by
      have h1 := lin_parts hz1 x hx
      refine ⟨h1, span_pos x h1, Nat.le_trans (Nat.le_of_dvd hsp (span_dvd hz1 x hx)) hz3, by have := ht_parts x hx; omega⟩
    refine ⟨_, (pss_cons (ps_if (pt_cmpR op_in_seq (pe_ix ix_seq (pv 0) pe_int (fun _ _ => rfl)) (pe_tup (pa_cons pe_str (pa_cons pe_str pa_nil))) (by with_unfolding_all rfl)) (pss_one (ps_ret (pe_op op_mulW (pe_call ih_tree_span (hr.mono (by omega)) (by rfl) T.tree_span.m T.tree_span.F.kp T.tree_span.b .nil pass0 (pa_cons (pe_ix ix_seq (pv 0) pe_int (fun _ _ => rfl)) pa_nil)) (pe_ix ix_seq (pe_ix ix_seq (pv 0) pe_int (fun _ _ => rfl)) pe_int (fun _ _ => rfl))))) pss_nil)
          (pss_one (ps_ret (pe_call (ok_common_multiple T) (hr.mono (by omega)) (by rfl) T.common_multiple.m T.common_multiple.F.kp T.common_multiple.b .nil pass0 (pa_cons (pe_lc (own := [("part", 1)]) (by rfl) sc_tree_span.nd (pi_seq (pe_call (ok_parts_of_tree T) (hr.mono (by omega)) (by rfl) T.parts_of_tree.m T.parts_of_tree.F.kp T.parts_of_tree.b .nil pass0 (pa_cons (pv 0) pa_nil))) (blkOk_by (own := [("part", 1)]) (N := N_tree_span) (sc := defScope s_tree_span) (by decide +kernel)) (fun _ _ _ _ _ => (pg_name (i := 1) sc_tree_span.nd rfl (.inl rfl))) (fun _ _ _ _ _ => pts_nil) (fun _ _ _ _ _ => (pe_call ih_tree_span (hr.mono (by omega)) (by rfl) T.tree_span.m T.tree_span.F.kp T.tree_span.b .nil pass0 (pa_cons (pv 1) pa_nil)))) pa_nil))))), ?_⟩
    try dsimp only [cx_K, cx_w]
    refine ws_rho (ρ' := [some _, none]) rfl ?_
    have fin : WE K (tLc (iSeq K (tCall (spG K Det_parts_of_tree) [] E0 (tCons (tVar 0) tNil))) (gName 1) tYes (tCall (spG K (Det_tree_spanH h)) [] E0 (tCons (tVar 1) tNil)) [1]) [some (.d (encTr z)), none] [] fun a R1 => a = .d (.lst (((parts z).map spanM).map fun n => .int (n : Nat))) ∧ R1 = [] := by
      refine we_lcM (parts z) encTr (fun x => .int (spanM x : Nat)) (by cases z <;> simp [parts]) (wi_seq ?_)
      walk_at "go"
      refine ⟨trivial, _, fSeq.l, rfl, fun x hx => ?_, ?_⟩
      · walk_at "nm"
        walk_at "c1"
        walk_at "nm"
        refine wt_yes ⟨rfl, ?_⟩
        walk_at "go"
        obtain ⟨p1, p2, p3, p4⟩ := hpb x hx
        exact ⟨⟨p1, p3, p4⟩, rfl, rfl⟩
      · rw [List.map_map]
        exact ⟨rfl, rfl⟩
    have hpre : ((parts z).map spanM).length ≤ 8 ∧ ∀ n ∈ (parts z).map spanM, 0 < n ∧ n ≤ 1000 := by
      refine ⟨by cases z <;> simp [parts], fun n hn => ?_⟩
      obtain ⟨x, hx, rfl⟩ := List.mem_map.mp hn
      obtain ⟨p1, p2, p3, p4⟩ := hpb x hx
      exact ⟨p2, p3⟩
    walk_at "go"
    rw [isDM_in]
    cases hd : isDM z with
    | true =>
      obtain ⟨a, v, o, rfl, hv, hs, ho⟩ := isDM_form hd hz1
      obtain ⟨p1, p2, p3, p4⟩ := hpb a (by simp [parts])
      have hv2 : v.toNat ≤ 1000 := Nat.le_trans (Nat.le_of_dvd hsp (by rw [hs]; exact Nat.dvd_mul_left _ _)) hz3
      have hv3 : v ≤ 1000 := by omega
      have hbv : Bd 10 v := by unfold Bd; omega
      have hba : Bd 10 (spanM a : Int) := by unfold Bd; rw [Int.natAbs_natCast]; omega
      walk_at "go"
      refine ⟨⟨p1, p3, p4⟩, ?_⟩
      walk_at "go"
      refine fI2c.i (mulOk hba hbv (by omega) (by omega) (by omega)) ?_
      refine ⟨?_, rfl⟩
      rw [hs, Int.natCast_mul, Int.toNat_of_nonneg (by omega)]
    | false =>
      walk_at "go"
      refine we_cut _ fin ?_
      walk_at "go"
      refine ⟨hpre, ?_⟩
      rw [span_fold hd]
      exact ⟨rfl, rfl⟩
abbrev Det_tree_span : FT := Det_tree_spanH 9
theorem ok_tree_span (T : Txt K w mg) : FnOk P w K mg base CX0 13 T.tree_span.f T.tree_span.fd P_tree_span (spG K Det_tree_span) := rc_tree_span T 9
end
section
/-! ### bounds of pieces, plain -/
theorem Bd.div {k : Nat} {i d : Int} (h : Bd k i) (hd : 0 < d) : Bd k (i / d) := by
  unfold Bd at *
  have h1 : (i / d).natAbs ≤ i.natAbs := by
    rcases Int.le_total 0 i with hi | hi
    · have := Int.ediv_nonneg hi (Int.le_of_lt hd)
      have := Int.ediv_le_self d hi
      omega
    · have h1 : i ≤ i / d := (Int.le_ediv_iff_mul_le hd).mpr (by
        have h := Int.mul_nonneg (a := -i) (b := d - 1) (by omega) (by omega)
        rw [Int.mul_sub, Int.neg_mul, Int.mul_one] at h
        omega)
      have h2 : i / d < 1 := (Int.ediv_lt_iff_lt_mul hd).mpr (by omega)
      omega
  omega
theorem Bd.mod {k : Nat} {i d : Int} (h : Bd k d) (hd : 0 < d) : Bd k (i % d) := by
  unfold Bd at *
  have := Int.emod_nonneg i (by omega : d ≠ 0)
  have := Int.emod_lt_of_pos i hd
  omega
theorem Bd.max {k : Nat} {i j : Int} (h : Bd k i) (g : Bd k j) : Bd k (max i j) := by
  rcases Int.le_total i j with q | q
  · rw [Int.max_eq_right q]; exact g
  · rw [Int.max_eq_left q]; exact h
theorem Bd.zero {k : Nat} : Bd k 0 := by unfold Bd; simp [Nat.two_pow_pos]
theorem Bd.one {k : Nat} (h : 0 < k) : Bd k 1 := by
  unfold Bd
  have : 2 ^ 1 ≤ 2 ^ k := Nat.pow_le_pow_right (by omega) h
  omega
theorem Bd.b2i {k : Nat} (h : 0 < k) (b : Bool) : Bd k (b2i b) := by cases b; exact Bd.zero; exact Bd.one h
theorem Bd.nat {k n : Nat} (h : n < 2 ^ k) : Bd k (n : Int) := by unfold Bd; rw [Int.natAbs_natCast]; exact h
theorem sgn_abs (b : Int) : (sgn b).natAbs ≤ 1 := by unfold sgn; split <;> decide
theorem clip_bd {k : Nat} {s : Int} {e : Option Int} {g : Sg} (hs : Bd k s) (hg : Bd k g.1) : ∀ x ∈ clip s e g, Bd k x.1 := by
  intro x hx
  unfold clip at hx
  split at hx
  · simp only [List.mem_singleton] at hx
    subst hx
    exact hs.max hg
  · cases hx
theorem signed_bd {k : Nat} {s : Int} {e : Option Int} {a b : Int} (hs : Bd (k + 2) s) (ha : Bd k a) (hb : Bd k b) : ∀ g ∈ signedM s e a b, Bd (k + 2) g.1 := by
  intro g hg
  unfold signedM at hg
  split at hg
  · simp only [List.mem_singleton] at hg
    subst hg
    exact hs
  · rename_i hb0
    have hbp : 0 < b * sgn b := by
      unfold sgn
      split <;> omega
    have h1 : Bd k (a * sgn b) := ha.muls (sgn_abs b)
    have h2 : Bd (k + 2) (0 - a * sgn b / (b * sgn b)) := ((Bd.zero (k := k)).sub (h1.div hbp)).mono (by omega)
    have h3 : Bd (k + 2) ((0 - a * sgn b) / (b * sgn b) + 1) := by
      have h4 : Bd (k + 1) ((0 - a * sgn b) / (b * sgn b)) := ((Bd.zero (k := k)).sub h1).div hbp
      exact h4.add (Bd.one (by omega))
    obtain ⟨y, hy, hg⟩ := List.mem_flatMap.mp hg
    simp only [List.mem_cons, List.not_mem_nil, or_false] at hy
    rcases hy with rfl | rfl | rfl
    · exact clip_bd hs hs g hg
    · exact clip_bd hs h2 g hg
    · exact clip_bd hs h3 g hg
theorem stretches_bd0 {k : Nat} {ps : List Piece} (h : PB k ps) : ∀ s ∈ stretchesM ps, Bd k s.1 := by
  rw [← str1_all [] ps]
  intro s hs
  obtain ⟨q, hq, hs⟩ := List.mem_flatMap.mp hs
  have hp := h q.1 (List.mem_of_getElem? (zipIdx_at hq))
  simp only [str1, List.mem_singleton] at hs
  subst hs
  exact hp.1
theorem overlaid_bd0 {k : Nat} {x y : List Piece} (hx : PB k x) (hy : PB k y) : ∀ s ∈ overlaidM x y, Bd k s.1 := by
  intro s hs
  unfold overlaidM at hs
  obtain ⟨p, hp, hs⟩ := List.mem_flatMap.mp hs
  obtain ⟨q, hq, hs⟩ := List.mem_flatMap.mp hs
  have h1 := stretches_bd0 hx p hp
  have h2 := stretches_bd0 hy q hq
  unfold over1 at hs
  split at hs
  · simp only [List.mem_singleton] at hs
    subst hs
    exact h1.max h2
  · cases hs
theorem joinStep_sub (b : List Piece) (p : Piece) : ∀ x ∈ joinStep b p, x ∈ b ∨ x = p := by
  intro x hx
  unfold joinStep at hx
  split at hx
  · rcases List.mem_append.mp hx with h | h
    · exact .inl h
    · exact .inr (List.mem_singleton.mp h)
  · split at hx
    · exact .inl hx
    · rcases List.mem_append.mp hx with h | h
      · exact .inl h
      · exact .inr (List.mem_singleton.mp h)
theorem joinFold_sub (ps b : List Piece) : ∀ x ∈ ps.foldl joinStep b, x ∈ b ∨ x ∈ ps := by
  induction ps generalizing b with
  | nil => exact fun x hx => .inl hx
  | cons p ps ih =>
    intro x hx
    rcases ih (joinStep b p) x hx with h | h
    · rcases joinStep_sub b p x h with h | h
      · exact .inl h
      · exact .inr (h ▸ List.mem_cons_self)
    · exact .inr (List.mem_cons_of_mem _ h)
theorem joined_sub {ps : List Piece} : ∀ x ∈ joinedM ps, x ∈ ps := fun x hx => (joinFold_sub ps [] x hx).elim (fun h => by cases h) id
theorem joined_len (ps : List Piece) : (joinedM ps).length ≤ ps.length := by
  have := joinFold_len ps []
  rw [List.length_nil, Nat.zero_add] at this
  exact this
theorem PB.joined {k : Nat} {ps : List Piece} (h : PB k ps) : PB k (joinedM ps) := fun p hp => h p (joined_sub p hp)
theorem PB.mono {j k : Nat} {ps : List Piece} (h : PB j ps) (l : j ≤ k) : PB k ps := fun p hp => ⟨(h p hp).1.mono l, (h p hp).2.1.mono l, (h p hp).2.2.mono l⟩
theorem PB.flat {k : Nat} {α : Type} {xs : List α} {g : α → List Piece} (h : ∀ x ∈ xs, PB k (g x)) : PB k (xs.flatMap g) := fun p hp => by
  obtain ⟨x, hx, hp⟩ := List.mem_flatMap.mp hp
  exact h x hx p hp
theorem mul3 {c x y n : Nat} (h : n ≤ c * 3) (hc : c ≤ x * y) : n ≤ 3 * (x * y) := by omega
theorem comb1_bd {j k m : Nat} (o : Op) (s : Str6) (h0 : Bd m s.1) (ha : Bd j s.2.2.1) (hb : Bd j s.2.2.2.1) (hc : Bd k s.2.2.2.2.1) (hd : Bd k s.2.2.2.2.2) (hm : m ≤ j + k) (hj : 0 < j) (hk : 0 < k) : PB (j + k + 3) (comb1 o s) := by
  obtain ⟨x, e, a, b, c, d⟩ := s
  have h0 : Bd m x := h0
  have ha : Bd j a := ha
  have hb : Bd j b := hb
  have hc : Bd k c := hc
  have hd : Bd k d := hd
  have hx : Bd (j + k + 3) x := h0.mono (by omega)
  have sg1 : ∀ g ∈ signedM x e a b, Bd (j + k + 3) g.1 := fun g hg => signed_bd (k := j + k + 1) hx (ha.mono (by omega)) (hb.mono (by omega)) g hg
  have sg2 : ∀ g ∈ signedM x e (a - c) (b - d), Bd (j + k + 3) g.1 := fun g hg => signed_bd (k := j + k + 1) hx ((ha.mono (by omega : j ≤ j + k)).sub (hc.mono (by omega))) ((hb.mono (by omega : j ≤ j + k)).sub (hd.mono (by omega))) g hg
  have m1 : ∀ s : Int, s.natAbs ≤ 1 → ∀ y, Bd k y → Bd (j + k) (s * y) := fun s hs y hy => by
    rw [Int.mul_comm]
    exact (hy.muls hs).mono (by omega)
  have cmp : ∀ (f : Sg → Bool), PB (j + k + 3) ((signedM x e (a - c) (b - d)).map fun g => (g.1, b2i (f g), 0)) := fun f p hp => by
    obtain ⟨g, hg, rfl⟩ := List.mem_map.mp hp
    exact ⟨sg2 g hg, Bd.b2i (by omega) _, Bd.zero⟩
  have lg : ∀ (p1 p2 : Int × Int), (Bd (j + k + 3) p1.1 ∧ Bd (j + k + 3) p1.2) → (Bd (j + k + 3) p2.1 ∧ Bd (j + k + 3) p2.2) → PB (j + k + 3) ((signedM x e a b).map fun g => if g.2.2 = 0 then (g.1, p1) else (g.1, p2)) := fun p1 p2 q1 q2 p hp => by
    obtain ⟨g, hg, rfl⟩ := List.mem_map.mp hp
    split
    · exact ⟨sg1 g hg, q1⟩
    · exact ⟨sg1 g hg, q2⟩
  have qa : Bd (j + k + 3) a ∧ Bd (j + k + 3) b := ⟨ha.mono (by omega), hb.mono (by omega)⟩
  have qc : Bd (j + k + 3) c ∧ Bd (j + k + 3) d := ⟨hc.mono (by omega), hd.mono (by omega)⟩
  cases o with
  | add =>
    intro p hp
    simp only [comb1, List.mem_singleton] at hp
    subst hp
    exact ⟨hx, ((ha.mono (by omega : j ≤ j + k)).add (m1 1 (by decide) c hc)).mono (by omega), ((hb.mono (by omega : j ≤ j + k)).add (m1 1 (by decide) d hd)).mono (by omega)⟩
  | sub =>
    intro p hp
    simp only [comb1, List.mem_singleton] at hp
    subst hp
    exact ⟨hx, ((ha.mono (by omega : j ≤ j + k)).add (m1 (-1) (by decide) c hc)).mono (by omega), ((hb.mono (by omega : j ≤ j + k)).add (m1 (-1) (by decide) d hd)).mono (by omega)⟩
  | mul =>
    intro p hp
    simp only [comb1, List.mem_singleton] at hp
    subst hp
    exact ⟨hx, (ha.mul hc).mono (by omega), ((ha.mul hd).add (hb.mul hc)).mono (by omega)⟩
  | and => exact lg (a, b) (c, d) qa qc
  | or => exact lg (c, d) (a, b) qc qa
  | _ => exact cmp _
theorem combined_bd {j k : Nat} (o : Op) {x y : List Piece} (hx : PB j x) (hy : PB k y) (hj : 0 < j) (hk : 0 < k) : PB (j + k + 3) (combinedM o x y) ∧ (combinedM o x y).length ≤ 3 * (x.length * y.length) := by
  constructor
  · refine PB.joined (PB.flat fun s hs => ?_)
    have h1 := overlaid_bd0 (hx.mono (by omega : j ≤ j + k)) (hy.mono (by omega : k ≤ j + k)) s hs
    obtain ⟨p, hp, hs2⟩ := List.mem_flatMap.mp hs
    obtain ⟨q, hq, hs3⟩ := List.mem_flatMap.mp hs2
    have g1 := stretches_bd hx p hp
    have g2 := stretches_bd hy q hq
    unfold over1 at hs3
    split at hs3
    · simp only [List.mem_singleton] at hs3
      subst hs3
      exact comb1_bd o _ h1 g1.1 g1.2 g2.1 g2.2 (Nat.le_refl _) hj hk
    · cases hs3
  · refine Nat.le_trans (joined_len _) (mul3 (flatMap_len (comb1 o) 3 (overlaidM x y) fun s _ => comb1_len o s) (overlaid_len x y))
theorem sortP_perm (ps : List Piece) : (sortP ps).Perm ps := by
  have h := (List.mergeSort_perm (ps.map pL) leL).map Lp
  rw [List.map_map] at h
  have e : ps.map (Lp ∘ pL) = ps := by
    have : (Lp ∘ pL) = id := funext fun p => rfl
    rw [this, List.map_id]
  rw [e] at h
  exact h
theorem chose1_bd {j k m n : Nat} (t : Bool) (s : Str6) (h0 : Bd m s.1) (ha : Bd j s.2.2.1) (hb : Bd j s.2.2.2.1) (hc : Bd k s.2.2.2.2.1) (hd : Bd k s.2.2.2.2.2) (hm : m ≤ n) (hj : j + 2 ≤ n) (hk : k ≤ n) : PB n (chose1 t s) := by
  obtain ⟨x, e, a, b, c, d⟩ := s
  intro p hp
  obtain ⟨g, hg, hp⟩ := List.mem_flatMap.mp (show p ∈ (signedM x e a b).flatMap fun g => if decide (g.2.2 = 0) = t then [(g.1, c, d)] else [] from hp)
  split at hp
  · simp only [List.mem_singleton] at hp
    subst hp
    have h1 : Bd (n - 2 + 2) x := Bd.mono (show Bd m x from h0) (by omega)
    have h2 := signed_bd (k := n - 2) h1 (Bd.mono (show Bd j a from ha) (by omega)) (Bd.mono (show Bd j b from hb) (by omega)) g hg
    rw [show n - 2 + 2 = n by omega] at h2
    exact ⟨h2, Bd.mono (show Bd k c from hc) hk, Bd.mono (show Bd k d from hd) hk⟩
  · cases hp
theorem chosen_bd {i j k n : Nat} {t x y : List Piece} (ht : PB i t) (hx : PB j x) (hy : PB k y) (hn : i + j + k + 2 ≤ n) : PB n (chosenM t x y) ∧ (chosenM t x y).length ≤ 3 * (t.length * x.length) + 3 * (t.length * y.length) := by
  have one : ∀ (b : Bool) {l : Nat} {z : List Piece}, PB l z → l + i + 2 ≤ n → PB n ((overlaidM t z).flatMap (chose1 b)) := fun b l z hz hl => PB.flat fun s hs => by
    have h1 := overlaid_bd0 (ht.mono (by omega : i ≤ l + i)) (hz.mono (by omega : l ≤ l + i)) s hs
    obtain ⟨p, hp, hs2⟩ := List.mem_flatMap.mp hs
    obtain ⟨q, hq, hs3⟩ := List.mem_flatMap.mp hs2
    have g1 := stretches_bd ht p hp
    have g2 := stretches_bd hz q hq
    unfold over1 at hs3
    split at hs3
    · simp only [List.mem_singleton] at hs3
      subst hs3
      exact chose1_bd b _ h1 g1.1 g1.2 g2.1 g2.2 (by omega) (by omega) (by omega)
    · cases hs3
  have hall : PB n ((overlaidM t x).flatMap (chose1 false) ++ (overlaidM t y).flatMap (chose1 true)) := fun p hp => by
    rcases List.mem_append.mp hp with h | h
    · exact one false hx (by omega) p h
    · exact one true hy (by omega) p h
  constructor
  · exact PB.joined fun p hp => hall p ((sortP_perm _).mem_iff.mp hp)
  · refine Nat.le_trans (joined_len _) ?_
    rw [(sortP_perm _).length_eq, List.length_append]
    have h1 := mul3 (flatMap_len (chose1 false) 3 (overlaidM t x) fun s _ => chose1_len false s) (overlaid_len t x)
    have h2 := mul3 (flatMap_len (chose1 true) 3 (overlaidM t y) fun s _ => chose1_len true s) (overlaid_len t y)
    omega
theorem refused_bd {k : Nat} {x : List Piece} (hx : PB k x) : PB (k + 2) (refusedM x) ∧ (refusedM x).length ≤ 3 * x.length := by
  rw [refused_eq]
  constructor
  · refine PB.joined (PB.flat fun s hs p hp => ?_)
    have h1 := stretches_bd hx s hs
    have h0 := stretches_bd0 hx s hs
    unfold ref1 at hp
    rw [flatMap_one] at hp
    obtain ⟨g, hg, rfl⟩ := List.mem_map.mp hp
    exact ⟨signed_bd (h0.mono (by omega)) h1.1 h1.2 g hg, Bd.b2i (by omega) _, Bd.zero⟩
  · have h := flatMap_len ref1 3 (stretchesM x) fun s _ => ref1_len s
    rw [stretches_len] at h
    have := joined_len ((stretchesM x).flatMap ref1)
    omega
theorem wide1_bd {k : Nat} {t s : Nat} {x : Str4} (ht : t < 2 ^ 10) (htp : 0 < t) (hs : s < 2 ^ 10) (hk : 10 ≤ k) (h0 : Bd k x.1) (ha : Bd k x.2.2.1) (hb : Bd k x.2.2.2) : PB (k + 12) (wide1 (t : Int) (s : Int) x) := by
  intro p hp
  unfold wide1 at hp
  split at hp
  · simp only [List.mem_singleton] at hp
    subst hp
    have h1 : Bd (k + 1) ((s : Int) - x.1) := ((Bd.nat hs).mono hk).sub h0
    refine ⟨?_, ?_, ?_⟩
    · exact (Bd.zero.max ((Bd.zero (k := k + 1)).sub (h1.div (by omega)))).mono (by omega)
    · exact ((ha.mono (by omega : k ≤ k + 10)).add (hb.mul (Bd.nat hs))).mono (by omega)
    · exact (hb.mul (Bd.nat ht)).mono (by omega)
  · cases hp
theorem widenedP_bd {k : Nat} {t s : Nat} {ps : List Piece} (ht : t < 2 ^ 10) (htp : 0 < t) (hs : s < 2 ^ 10) (hk : 10 ≤ k) (h : PB k ps) : PB (k + 12) (widenedP (t : Int) (s : Int) ps) ∧ (widenedP (t : Int) (s : Int) ps).length ≤ ps.length := by
  constructor
  · exact PB.joined (PB.flat fun x hx => wide1_bd ht htp hs hk (stretches_bd0 h x hx) (stretches_bd h x hx).1 (stretches_bd h x hx).2)
  · have h1 := flatMap_len (wide1 (t : Int) (s : Int)) 1 (stretchesM ps) fun x _ => wide1_len _ _ x
    rw [stretches_len] at h1
    have := joined_len ((stretchesM ps).flatMap (wide1 (t : Int) (s : Int)))
    unfold widenedP
    omega
theorem widenedM_len (cs : List (List Piece)) (span : Nat) : (widenedM cs span).length = span := by
  unfold widenedM
  rw [List.length_map, List.length_range]
theorem widenedM_bd {k n span : Nat} {cs : List (List Piece)} (h0 : 0 < cs.length) (h1 : cs.length ≤ span) (h2 : span ≤ 1000) (hk : 10 ≤ k) (h : ∀ ps ∈ cs, PB k ps ∧ ps.length ≤ n) : ∀ ps ∈ widenedM cs span, PB (k + 12) ps ∧ ps.length ≤ n := by
  intro ps hps
  unfold widenedM at hps
  obtain ⟨r, hr, rfl⟩ := List.mem_map.mp hps
  have hr := List.mem_range.mp hr
  have hm := Nat.mod_lt r h0
  have hin : cs.getD (r % cs.length) [] ∈ cs := by
    rw [List.getD_eq_getElem?_getD, List.getElem?_eq_getElem hm]
    exact List.getElem_mem hm
  obtain ⟨g1, g2⟩ := h _ hin
  have ht := Nat.div_le_self span cs.length
  have hs := Nat.div_le_self r cs.length
  have htp : 0 < span / cs.length := Nat.div_pos h1 h0
  have := widenedP_bd (t := span / cs.length) (s := r / cs.length) (by omega) htp (by omega) hk g1
  exact ⟨this.1, Nat.le_trans this.2 g2⟩
theorem divided_bd {k : Nat} {o : Op} {d : Int} {ps : List Piece} (h : PB k ps) (hd : 0 < d) (hb : Bd 10 d) (hk : 10 ≤ k) : PB k (dividedM o ps d) ∧ (dividedM o ps d).length ≤ ps.length := by
  have hdiv : PB k (joinedM (ps.map fun p => (p.1, p.2.1 / d, p.2.2 / d))) := PB.joined fun p hp => by
    obtain ⟨q, hq, rfl⟩ := List.mem_map.mp hp
    obtain ⟨h1, h2, h3⟩ := h q hq
    exact ⟨h1, h2.div hd, h3.div hd⟩
  have hmod : PB k (joinedM (ps.map fun p => (p.1, p.2.1 % d, 0))) := PB.joined fun p hp => by
    obtain ⟨q, hq, rfl⟩ := List.mem_map.mp hp
    obtain ⟨h1, h2, h3⟩ := h q hq
    exact ⟨h1, (Bd.mod hb hd).mono hk, Bd.zero⟩
  have l1 := joined_len (ps.map fun p => (p.1, p.2.1 / d, p.2.2 / d))
  have l2 := joined_len (ps.map fun p => (p.1, p.2.1 % d, 0))
  rw [List.length_map] at l1 l2
  cases o <;> first | exact ⟨hdiv, l1⟩ | exact ⟨hmod, l2⟩
/-! ### the size of a tree -/
def szE : Tr → Nat
  | .n => 11
  | .num v => v.natAbs.log2 + 11
  | .not a => szE a + 2
  | .ite a b c => szE a + szE b + szE c + 2
  | .bin .div a _ => szE a + 24
  | .bin .mod a _ => szE a + 24
  | .bin _ a b => szE a + szE b + 3
def szC : Tr → Nat
  | .n => 1
  | .num _ => 1
  | .not a => 3 * szC a
  | .ite a b c => 3 * (szC a * szC b) + 3 * (szC a * szC c)
  | .bin .div a _ => szC a
  | .bin .mod a _ => szC a
  | .bin _ a b => 3 * (szC a * szC b)
theorem szE_lo : ∀ t, 11 ≤ szE t
  | .n => Nat.le_refl _
  | .num v => by unfold szE; omega
  | .not a => by have := szE_lo a; unfold szE; omega
  | .ite a b c => by have := szE_lo a; unfold szE; omega
  | .bin o a b => by have := szE_lo a; have := szE_lo b; cases o <;> (simp only [szE]; omega)
theorem nb_bd (v : Int) : Bd (v.natAbs.log2 + 11) v := by
  have : v.natAbs < 2 ^ (v.natAbs.log2 + 1) := Nat.lt_log2_self
  exact Bd.mono (k := v.natAbs.log2 + 11) (show Bd (v.natAbs.log2 + 1) v from this) (by omega)
theorem szC_lo : ∀ t, 1 ≤ szC t
  | .n => Nat.le_refl _
  | .num v => Nat.le_refl _
  | .not a => by have := szC_lo a; unfold szC; omega
  | .ite a b c => by
    have := Nat.mul_pos (szC_lo a) (szC_lo b)
    unfold szC; omega
  | .bin o a b => by
    have := szC_lo a
    have := Nat.mul_pos (szC_lo a) (szC_lo b)
    cases o <;> (simp only [szC]; omega)
theorem parts_sz {t : Tr} (h : isDM t = false) : ∀ x ∈ parts t, szE x ≤ szE t ∧ szC x ≤ szC t := by
  cases t with
  | n => simp [parts]
  | num v => simp [parts]
  | not a =>
    intro x hx
    simp only [parts, List.mem_singleton] at hx
    subst hx
    exact ⟨show szE x ≤ szE x + 2 by omega, show szC x ≤ 3 * szC x by omega⟩
  | ite a b c =>
    intro x hx
    have h1 := Nat.le_mul_of_pos_right (szC a) (szC_lo b)
    have h2 := Nat.le_mul_of_pos_left (szC b) (szC_lo a)
    have h3 := Nat.le_mul_of_pos_left (szC c) (szC_lo a)
    simp only [parts, List.mem_cons, List.not_mem_nil, or_false] at hx
    rcases hx with rfl | rfl | rfl <;> (simp only [szE, szC]; omega)
  | bin o a b =>
    intro x hx
    have h1 := Nat.le_mul_of_pos_right (szC a) (szC_lo b)
    have h2 := Nat.le_mul_of_pos_left (szC b) (szC_lo a)
    simp only [parts, List.mem_cons, List.not_mem_nil, or_false] at hx
    rcases hx with rfl | rfl <;> (cases o <;> first | (simp only [szE, szC]; omega) | cases h)
theorem getD_in {α : Type} {xs : List (List α)} {r : Nat} (h : r < xs.length) : xs.getD r [] ∈ xs := by
  rw [List.getD_eq_getElem?_getD, List.getElem?_eq_getElem h]
  exact List.getElem_mem h
theorem mul3_le {a b c d : Nat} (h1 : a ≤ c) (h2 : b ≤ d) : 3 * (a * b) ≤ 3 * (c * d) := Nat.mul_le_mul_left 3 (Nat.mul_le_mul h1 h2)
theorem classes_bd : ∀ (t : Tr) (span : Nat), linM t = true → spanM t ∣ span → 0 < span → span ≤ 1000 → (classesM t span).length = span ∧ ∀ ps ∈ classesM t span, PB (szE t) ps ∧ ps.length ≤ szC t
  | .n, span, _, _, hp, hs => by
    refine ⟨by simp [classesM], fun ps hps => ?_⟩
    obtain ⟨r, hr, rfl⟩ := List.mem_map.mp hps
    have hr := List.mem_range.mp hr
    refine ⟨fun p hp => ?_, Nat.le_refl _⟩
    simp only [List.mem_singleton] at hp
    subst hp
    exact ⟨Bd.zero, Bd.nat (show r < 2 ^ 11 by omega), Bd.nat (show span < 2 ^ 11 by omega)⟩
  | .num v, span, _, _, hp, hs => by
    refine ⟨by simp [classesM], fun ps hps => ?_⟩
    obtain ⟨r, hr, rfl⟩ := List.mem_map.mp hps
    refine ⟨fun p hp => ?_, Nat.le_refl _⟩
    simp only [List.mem_singleton] at hp
    subst hp
    exact ⟨Bd.zero, nb_bd v, Bd.zero⟩
  | .not a, span, hl, hd, hp, hs => by
    have hda : spanM a ∣ span := Nat.dvd_trans (span_dvd hl a (by simp [parts])) hd
    obtain ⟨h1, h2⟩ := classes_bd a span hl hda hp hs
    refine ⟨by simp only [classesM, List.length_map]; exact h1, fun ps hps => ?_⟩
    obtain ⟨q, hq, rfl⟩ := List.mem_map.mp hps
    obtain ⟨g1, g2⟩ := h2 q hq
    obtain ⟨k1, k2⟩ := refused_bd g1
    exact ⟨k1, Nat.le_trans k2 (Nat.mul_le_mul_left 3 g2)⟩
  | .ite a b c, span, hl, hd, hp, hs => by
    have hla : linM a = true := lin_parts hl a (by simp [parts])
    have hlb : linM b = true := lin_parts hl b (by simp [parts])
    have hlc : linM c = true := lin_parts hl c (by simp [parts])
    obtain ⟨a1, a2⟩ := classes_bd a span hla (Nat.dvd_trans (span_dvd hl a (by simp [parts])) hd) hp hs
    obtain ⟨b1, b2⟩ := classes_bd b span hlb (Nat.dvd_trans (span_dvd hl b (by simp [parts])) hd) hp hs
    obtain ⟨c1, c2⟩ := classes_bd c span hlc (Nat.dvd_trans (span_dvd hl c (by simp [parts])) hd) hp hs
    refine ⟨by simp [classesM], fun ps hps => ?_⟩
    obtain ⟨r, hr, rfl⟩ := List.mem_map.mp hps
    have hr := List.mem_range.mp hr
    obtain ⟨x1, x2⟩ := a2 _ (getD_in (by rw [a1]; exact hr))
    obtain ⟨y1, y2⟩ := b2 _ (getD_in (by rw [b1]; exact hr))
    obtain ⟨z1, z2⟩ := c2 _ (getD_in (by rw [c1]; exact hr))
    obtain ⟨k1, k2⟩ := chosen_bd x1 y1 z1 (Nat.le_refl _)
    refine ⟨k1, Nat.le_trans k2 ?_⟩
    exact Nat.add_le_add (mul3_le x2 y2) (mul3_le x2 z2)
  | .bin o a b, span, hl, hd, hp, hs => by
    have hla : linM a = true := lin_parts hl a (by simp [parts])
    have hlb : linM b = true := lin_parts hl b (by simp [parts])
    have hda : spanM a ∣ span := Nat.dvd_trans (span_dvd hl a (by simp [parts])) hd
    have hdb : spanM b ∣ span := Nat.dvd_trans (span_dvd hl b (by simp [parts])) hd
    cases hdm : isDM (.bin o a b) with
    | false =>
      obtain ⟨a1, a2⟩ := classes_bd a span hla hda hp hs
      obtain ⟨b1, b2⟩ := classes_bd b span hlb hdb hp hs
      have key : ((List.range span).map fun r => combinedM o ((classesM a span).getD r []) ((classesM b span).getD r [])).length = span ∧ ∀ ps ∈ ((List.range span).map fun r => combinedM o ((classesM a span).getD r []) ((classesM b span).getD r [])), PB (szE a + szE b + 3) ps ∧ ps.length ≤ 3 * (szC a * szC b) := by
        refine ⟨by simp, fun ps hps => ?_⟩
        obtain ⟨r, hr, rfl⟩ := List.mem_map.mp hps
        have hr := List.mem_range.mp hr
        obtain ⟨x1, x2⟩ := a2 _ (getD_in (by rw [a1]; exact hr))
        obtain ⟨y1, y2⟩ := b2 _ (getD_in (by rw [b1]; exact hr))
        have e1 := szE_lo a
        have e2 := szE_lo b
        obtain ⟨k1, k2⟩ := combined_bd o x1 y1 (by omega) (by omega)
        exact ⟨k1, Nat.le_trans k2 (mul3_le x2 y2)⟩
      cases o <;> first | exact key | cases hdm
    | true =>
      obtain ⟨a', v, o', e, hv, hsp, ho⟩ := isDM_form hdm hl
      cases e
      have hsa := span_pos a hla
      have hst := span_pos _ hl
      have hle : spanM (.bin o a (.num v)) ≤ span := Nat.le_of_dvd hp hd
      have hv3 : v.toNat ≤ spanM (.bin o a (.num v)) := Nat.le_of_dvd hst (by rw [hsp]; exact Nat.dvd_mul_left _ _)
      have hbv : Bd 10 v := by unfold Bd; omega
      have hla2 : spanM a ≤ spanM (.bin o a (.num v)) := Nat.le_of_dvd hst (span_dvd hl a (by simp [parts]))
      obtain ⟨a1, a2⟩ := classes_bd a (spanM a) hla (Nat.dvd_refl _) hsa (by omega)
      have e1 := szE_lo a
      have key : ∀ q : Op, (widenedM ((widenedM (classesM a (spanM a)) (spanM (.bin o a (.num v)))).map fun ps => dividedM q ps v) span).length = span ∧ ∀ ps ∈ widenedM ((widenedM (classesM a (spanM a)) (spanM (.bin o a (.num v)))).map fun ps => dividedM q ps v) span, PB (szE a + 24) ps ∧ ps.length ≤ szC a := fun q => by
        refine ⟨widenedM_len _ _, ?_⟩
        have w1 := widenedM_bd (cs := classesM a (spanM a)) (span := spanM (.bin o a (.num v))) (by omega) (by omega) (by omega) (by omega) a2
        refine widenedM_bd (k := szE a + 12) (by rw [List.length_map, widenedM_len]; exact hst) (by rw [List.length_map, widenedM_len]; exact hle) hs (by omega) fun ps hps => ?_
        obtain ⟨x, hx, rfl⟩ := List.mem_map.mp hps
        obtain ⟨g1, g2⟩ := w1 x hx
        obtain ⟨k1, k2⟩ := divided_bd (o := q) g1 hv hbv (by omega)
        exact ⟨k1, Nat.le_trans k2 g2⟩
      rcases ho with rfl | rfl <;> exact key _
end
section
variable {P : Program} {w : World} {K : PySem.W.Frag} {mg : Str → Option Value} {base : Heap}
theorem wi_rngN {ρ : AE} {R : RS} {Φ : List D → RS → Prop} {i n : Nat} (e : ρ[i]? = some (some (.d (.int (n : Nat))))) (hn : n < 1000000) (q : Φ ((List.range n).map (fun (i : Nat) => D.int (i : Nat))) R) : WI K (iRng1 (tCons (tVar i) tNil)) ρ R Φ := by
  refine wi_rng1 (wa_cons (we_var e (wa_nil ⟨_, rfl, by omega, by omega, ?_⟩)))
  rw [Int.toNat_natCast]
  exact q
theorem getD_at {α : Type} {xs : List (List α)} {r : Nat} (h : r < xs.length) : xs[r]? = some (xs.getD r []) := by
  rw [List.getD_eq_getElem?_getD, List.getElem?_eq_getElem h]
  rfl
theorem atI_map {α β : Type} {xs : List α} {r : Nat} {x : α} (f : α → β) (h : xs[r]? = some x) : atI (xs.map f) (r : Int) = some (f x) := atI_nat (by rw [List.getElem?_map, h]; rfl)
abbrev Det_classes_ofH (h : Nat) : FT := Det (fun z : Tr × Nat => [encTr z.1, .int (z.2 : Nat)]) (fun z => linM z.1 = true ∧ spanM z.1 ∣ z.2 ∧ 0 < z.2 ∧ z.2 ≤ 1000 ∧ szE z.1 ≤ 4000 ∧ szC z.1 < 10000000 ∧ ht z.1 < 9 ∧ ht z.1 < h) (fun z => encPss (classesM z.1 z.2))
theorem rc_classes_of (T : Txt K w mg) : ∀ h, FnOk P w K mg base CX0 (h + 14) T.classes_of.f T.classes_of.fd P_classes_of (spG K (Det_classes_ofH h)) := by
  intro h
  induction h with
  | zero => exact okDet T.classes_of.F sc_classes_of (fun x => rfl) fun cdv A outer s H E z hr pre => absurd pre.2.2.2.2.2.2.2 (Nat.not_lt_zero _)
  | succ h ih_classes_of =>
    refine okDet T.classes_of.F sc_classes_of (fun x => rfl) fun cdv A outer s H E z hr pre => ?_
    obtain ⟨z, span⟩ := z
    obtain ⟨h1, h2, h3, h4, h5, h6, h7, h8⟩ := pre
    have h1 : linM z = true := h1
    have h2 : spanM z ∣ span := h2
    have h3 : 0 < span := h3
    have h4 : span ≤ 1000 := h4
    have h5 : szE z ≤ 4000 := h5
    have h6 : szC z < 10000000 := h6
    have h7 : ht z < 9 := h7
    have h8 : ht z < h + 1 := h8
    have hu := hu_of hr
    have hpart : isDM z = false → ∀ x ∈ parts z, linM x = true ∧ spanM x ∣ span ∧ szE x ≤ 4000 ∧ szC x < 10000000 ∧ ht x < 9 ∧ ht x < h := fun hd x hx => by
      have hs := parts_sz hd x hx
      have hh := ht_parts x hx
      exact ⟨lin_parts h1 x hx, Nat.dvd_trans (span_dvd h1 x hx) h2, by omega, by omega, by omega, by omega⟩
    refine ⟨_, (pss_cons (ps_set (i := 2) sc_classes_of.nd rfl (.inr rfl) (pe_ix ix_seq (pv 0) pe_int (fun _ _ => rfl)))
          (pss_cons (ps_if (pt_cmpR op_eq (pv 2) pe_str (nomark _)) (pss_one (ps_ret (pe_lc (own := [("rest", 5)]) (by rfl) sc_classes_of.nd (pi_range1 (by rfl) T.b_range (pa_cons (pv 1) pa_nil)) (blkOk_by (own := [("rest", 5)]) (N := N_classes_of) (sc := defScope s_classes_of) (by decide +kernel)) (fun _ _ _ _ _ => (pg_name (i := 5) sc_classes_of.nd rfl (.inl rfl))) (fun _ _ _ _ _ => pts_nil) (fun _ _ _ _ _ => (pe_lst (pa_cons (pe_tup (pa_cons pe_int (pa_cons (pe_ix (ix_seqK (K := K) rfl) (pv 0) pe_int (fun _ _ => rfl)) (pa_cons pe_int pa_nil)))) pa_nil)))))) pss_nil)
          (pss_cons (ps_if (pt_cmpR op_eq (pv 2) pe_str (nomark _)) (pss_one (ps_ret (pe_lc (own := [("rest", 5)]) (by rfl) sc_classes_of.nd (pi_range1 (by rfl) T.b_range (pa_cons (pv 1) pa_nil)) (blkOk_by (own := [("rest", 5)]) (N := N_classes_of) (sc := defScope s_classes_of) (by decide +kernel)) (fun _ _ _ _ _ => (pg_name (i := 5) sc_classes_of.nd rfl (.inl rfl))) (fun _ _ _ _ _ => pts_nil) (fun _ _ _ _ _ => (pe_lst (pa_cons (pe_tup (pa_cons pe_int (pa_cons (pv 5) (pa_cons (pv 1) pa_nil)))) pa_nil)))))) pss_nil)
          (pss_cons (ps_if (pt_cmpR op_in_seq (pv 2) (pe_tup (pa_cons pe_str (pa_cons pe_str pa_nil))) (by with_unfolding_all rfl)) (pss_cons (ps_set (i := 3) sc_classes_of.nd rfl (.inl rfl) (pe_call (ok_widened_pieces T) (hr.mono (by omega)) (by rfl) T.widened_pieces.m T.widened_pieces.F.kp T.widened_pieces.b .nil pass0 (pa_cons (pe_call ih_classes_of (hr.mono (by omega)) (by rfl) T.classes_of.m T.classes_of.F.kp T.classes_of.b .nil pass0 (pa_cons (pe_ix ix_seq (pv 0) pe_int (fun _ _ => rfl)) (pa_cons (pe_call (ok_tree_span T) (hr.mono (by omega)) (by rfl) T.tree_span.m T.tree_span.F.kp T.tree_span.b .nil pass0 (pa_cons (pe_ix ix_seq (pv 0) pe_int (fun _ _ => rfl)) pa_nil)) pa_nil))) (pa_cons (pe_call (ok_tree_span T) (hr.mono (by omega)) (by rfl) T.tree_span.m T.tree_span.F.kp T.tree_span.b .nil pass0 (pa_cons (pv 0) pa_nil)) pa_nil))))
          (pss_one (ps_ret (pe_call (ok_widened_pieces T) (hr.mono (by omega)) (by rfl) T.widened_pieces.m T.widened_pieces.F.kp T.widened_pieces.b .nil pass0 (pa_cons (pe_lc (own := [("pieces", 6)]) (by rfl) sc_classes_of.nd (pi_seq (pv 3)) (blkOk_by (own := [("pieces", 6)]) (N := N_classes_of) (sc := defScope s_classes_of) (by decide +kernel)) (fun _ _ _ _ _ => (pg_name (i := 6) sc_classes_of.nd rfl (.inl rfl))) (fun _ _ _ _ _ => pts_nil) (fun _ _ _ _ _ => (pe_call (ok_divided T) (hr.mono (by omega)) (by rfl) T.divided.m T.divided.F.kp T.divided.b .nil pass0 (pa_cons (pv 2) (pa_cons (pv 6) (pa_cons (pe_ix (ix_seqK (K := K) rfl) (pe_ix (ix_seqK (K := K) rfl) (pv 0) pe_int (fun _ _ => rfl)) pe_int (fun _ _ => rfl)) pa_nil)))))) (pa_cons (pv 1) pa_nil)))))) pss_nil)
          (pss_cons (ps_if (pt_cmpR op_eq (pv 2) pe_str (nomark _)) (pss_one (ps_ret (pe_lc (own := [("pieces", 6)]) (by rfl) sc_classes_of.nd (pi_seq (pe_call ih_classes_of (hr.mono (by omega)) (by rfl) T.classes_of.m T.classes_of.F.kp T.classes_of.b .nil pass0 (pa_cons (pe_ix ix_seq (pv 0) pe_int (fun _ _ => rfl)) (pa_cons (pv 1) pa_nil)))) (blkOk_by (own := [("pieces", 6)]) (N := N_classes_of) (sc := defScope s_classes_of) (by decide +kernel)) (fun _ _ _ _ _ => (pg_name (i := 6) sc_classes_of.nd rfl (.inl rfl))) (fun _ _ _ _ _ => pts_nil) (fun _ _ _ _ _ => (pe_call (ok_refused T) (hr.mono (by omega)) (by rfl) T.refused.m T.refused.F.kp T.refused.b .nil pass0 (pa_cons (pv 6) pa_nil)))))) pss_nil)
          (pss_cons (ps_set (i := 4) sc_classes_of.nd rfl (.inr rfl) (pe_lc (own := [("part", 7)]) (by rfl) sc_classes_of.nd (pi_seq (pe_slice sl_any (pv 0) (po_some pe_int) po_none)) (blkOk_by (own := [("part", 7)]) (N := N_classes_of) (sc := defScope s_classes_of) (by decide +kernel)) (fun _ _ _ _ _ => (pg_name (i := 7) sc_classes_of.nd rfl (.inl rfl))) (fun _ _ _ _ _ => pts_nil) (fun _ _ _ _ _ => (pe_call ih_classes_of (hr.mono (by omega)) (by rfl) T.classes_of.m T.classes_of.F.kp T.classes_of.b .nil pass0 (pa_cons (pv 7) (pa_cons (pv 1) pa_nil))))))
          (pss_cons (ps_if (pt_cmpR op_eq (pv 2) pe_str (nomark _)) (pss_one (ps_ret (pe_lc (own := [("rest", 5)]) (by rfl) sc_classes_of.nd (pi_range1 (by rfl) T.b_range (pa_cons (pv 1) pa_nil)) (blkOk_by (own := [("rest", 5)]) (N := N_classes_of) (sc := defScope s_classes_of) (by decide +kernel)) (fun _ _ _ _ _ => (pg_name (i := 5) sc_classes_of.nd rfl (.inl rfl))) (fun _ _ _ _ _ => pts_nil) (fun _ _ _ _ _ => (pe_call (ok_chosen T) (hr.mono (by omega)) (by rfl) T.chosen.m T.chosen.F.kp T.chosen.b .nil pass0 (pa_cons (pe_ix (ix_seqK (K := K) rfl) (pe_ix (ix_seqK (K := K) rfl) (pv 4) pe_int (fun _ _ => rfl)) (pv 5) (fun _ _ => rfl)) (pa_cons (pe_ix (ix_seqK (K := K) rfl) (pe_ix (ix_seqK (K := K) rfl) (pv 4) pe_int (fun _ _ => rfl)) (pv 5) (fun _ _ => rfl)) (pa_cons (pe_ix (ix_seqK (K := K) rfl) (pe_ix (ix_seqK (K := K) rfl) (pv 4) pe_int (fun _ _ => rfl)) (pv 5) (fun _ _ => rfl)) pa_nil)))))))) pss_nil)
          (pss_one (ps_ret (pe_lc (own := [("rest", 5)]) (by rfl) sc_classes_of.nd (pi_range1 (by rfl) T.b_range (pa_cons (pv 1) pa_nil)) (blkOk_by (own := [("rest", 5)]) (N := N_classes_of) (sc := defScope s_classes_of) (by decide +kernel)) (fun _ _ _ _ _ => (pg_name (i := 5) sc_classes_of.nd rfl (.inl rfl))) (fun _ _ _ _ _ => pts_nil) (fun _ _ _ _ _ => (pe_call (ok_combined T) (hr.mono (by omega)) (by rfl) T.combined.m T.combined.F.kp T.combined.b .nil pass0 (pa_cons (pv 2) (pa_cons (pe_ix (ix_seqK (K := K) rfl) (pe_ix (ix_seqK (K := K) rfl) (pv 4) pe_int (fun _ _ => rfl)) (pv 5) (fun _ _ => rfl)) (pa_cons (pe_ix (ix_seqK (K := K) rfl) (pe_ix (ix_seqK (K := K) rfl) (pv 4) pe_int (fun _ _ => rfl)) (pv 5) (fun _ _ => rfl)) pa_nil))))))))))))))), ?_⟩
    try dsimp only [cx_K, cx_w]
    refine ws_rho (ρ' := [some _, some _, none, none, none, none, none, none]) rfl ?_
    cases z with
    | n =>
      walk_at "go"
      walk_at "nm"
      refine we_lcM (List.range span) (fun (i : Nat) => D.int (i : Nat)) (fun r => encPs [(0, (r : Int), (span : Int))]) (by rw [List.length_range]; omega) (wi_rngN rfl (by omega) ⟨rfl, fun x hx => ?_, ?_⟩)
      · walk_at "nm"
        walk_at "c1"
        walk_at "nm"
        refine wt_yes ⟨rfl, ?_⟩
        walk_at "go"
        exact ⟨rfl, rfl⟩
      · refine ⟨?_, rfl⟩
        rw [encPss, classesM, List.map_map]
        rfl
    | num v =>
      walk_at "go"
      walk_at "nm"
      refine we_lcM (List.range span) (fun (i : Nat) => D.int (i : Nat)) (fun r => encPs [(0, v, 0)]) (by rw [List.length_range]; omega) (wi_rngN rfl (by omega) ⟨rfl, fun x hx => ?_, ?_⟩)
      · walk_at "nm"
        walk_at "c1"
        walk_at "nm"
        refine wt_yes ⟨rfl, ?_⟩
        walk_at "go"
        exact ⟨rfl, rfl⟩
      · refine ⟨?_, rfl⟩
        rw [encPss, classesM, List.map_map]
        rfl
    | not a =>
      obtain ⟨p1, p2, p3, p4, p5, p6⟩ := hpart rfl a (by simp [parts])
      obtain ⟨c1, c2⟩ := classes_bd a span p1 p2 h3 h4
      walk_at "go"
      walk_at "nm"
      refine we_lcM (classesM a span) encPs (fun ps => encPs (refusedM ps)) (by omega) (wi_seq ?_)
      walk_at "go"
      refine ⟨(a, span), rfl, ⟨p1, p2, h3, h4, p3, p4, p5, p6⟩, _, fSeq.l, rfl, fun x hx => ?_, ?_⟩
      · obtain ⟨x1, x2⟩ := c2 x hx
        walk_at "nm"
        walk_at "c1"
        walk_at "nm"
        refine wt_yes ⟨rfl, ?_⟩
        walk_at "go"
        have h9 : 3 * szC a < 10000000 := h6
        exact ⟨⟨x1.mono (by omega), by omega⟩, rfl, rfl⟩
      · refine ⟨?_, rfl⟩
        show _ = AV.d (encPss ((classesM a span).map refusedM))
        rw [encPss, List.map_map]
        rfl
    | ite a b c =>
      have hpa := hpart rfl a (by simp [parts])
      have hpb := hpart rfl b (by simp [parts])
      have hpc := hpart rfl c (by simp [parts])
      obtain ⟨a1, a2⟩ := classes_bd a span hpa.1 hpa.2.1 h3 h4
      obtain ⟨b1, b2⟩ := classes_bd b span hpb.1 hpb.2.1 h3 h4
      obtain ⟨c1, c2⟩ := classes_bd c span hpc.1 hpc.2.1 h3 h4
      walk_at "ge"
      walk_at "s1"
      walk_at "go"
      walk_at "nm"
      refine we_cut (.d (.lst [encPss (classesM a span), encPss (classesM b span), encPss (classesM c span)])) ?_ ?_
      · refine we_lcM (parts (a.ite b c)) encTr (fun x => encPss (classesM x span)) (by simp [parts]) (wi_seq ?_)
        walk_at "go"
        refine ⟨_, fSeq.t, rfl, fun x hx => ?_, rfl, rfl⟩
        walk_at "nm"
        walk_at "c1"
        walk_at "nm"
        refine wt_yes ⟨rfl, ?_⟩
        walk_at "go"
        obtain ⟨p1, p2, p3, p4, p5, p6⟩ := hpart rfl x hx
        exact ⟨(x, span), rfl, ⟨p1, p2, h3, h4, p3, p4, p5, p6⟩, rfl, rfl⟩
      walk_at "go"
      walk_at "nm"
      refine we_lcM (List.range span) (fun (i : Nat) => D.int (i : Nat)) (fun r => encPs (chosenM ((classesM a span).getD r []) ((classesM b span).getD r []) ((classesM c span).getD r []))) (by rw [List.length_range]; omega) (wi_rngN rfl (by omega) ⟨rfl, fun r hr => ?_, ?_⟩)
      · have hr := List.mem_range.mp hr
        obtain ⟨x1, x2⟩ := a2 _ (getD_in (by rw [a1]; exact hr))
        obtain ⟨y1, y2⟩ := b2 _ (getD_in (by rw [b1]; exact hr))
        obtain ⟨z1, z2⟩ := c2 _ (getD_in (by rw [c1]; exact hr))
        have ea : (classesM a span)[r]? = some ((classesM a span).getD r []) := getD_at (by rw [a1]; exact hr)
        have eb : (classesM b span)[r]? = some ((classesM b span).getD r []) := getD_at (by rw [b1]; exact hr)
        have ec : (classesM c span)[r]? = some ((classesM c span).getD r []) := getD_at (by rw [c1]; exact hr)
        walk_at "nm"
        walk_at "c1"
        walk_at "nm"
        refine wt_yes ⟨rfl, ?_⟩
        walk_at "go"
        refine fIx.l (atI_map encPs ea) ?_
        walk_at "go"
        refine fIx.l (atI_map encPs eb) ?_
        walk_at "go"
        refine fIx.l (atI_map encPs ec) ?_
        walk_at "go"
        have h9 : 3 * (szC a * szC b) + 3 * (szC a * szC c) < 10000000 := h6
        have m1 := mul3_le x2 y2
        have m2 := mul3_le x2 z2
        have q1 := Nat.le_mul_of_pos_right (szC a) (szC_lo b)
        have q2 := Nat.le_mul_of_pos_left (szC b) (szC_lo a)
        have q3 := Nat.le_mul_of_pos_left (szC c) (szC_lo a)
        refine ⟨(_, _, _), rfl, ⟨x1.mono hpa.2.2.1, ?_, ?_, ?_, ?_⟩, rfl, rfl⟩
        · show ((classesM a span).getD r []).length < _; omega
        · show ((classesM b span).getD r []).length < _; omega
        · show ((classesM c span).getD r []).length < _; omega
        · show 3 * (((classesM a span).getD r []).length * ((classesM b span).getD r []).length) + 3 * (((classesM a span).getD r []).length * ((classesM c span).getD r []).length) < _
          omega
      · refine ⟨?_, rfl⟩
        rw [encPss, classesM, List.map_map]
        rfl
    | bin o a b =>
      cases hdm : isDM (.bin o a b) with
      | true =>
        obtain ⟨a', v, o', e, hv, hsp, ho⟩ := isDM_form hdm h1
        cases e
        have hla : linM a = true := lin_parts h1 a (by simp [parts])
        have hsa := span_pos a hla
        have hst := span_pos _ h1
        have hle : spanM (.bin o a (.num v)) ≤ span := Nat.le_of_dvd h3 h2
        have hv3 : v.toNat ≤ spanM (.bin o a (.num v)) := Nat.le_of_dvd hst (by rw [hsp]; exact Nat.dvd_mul_left _ _)
        have hbv : Bd 10 v := by unfold Bd; omega
        have hla2 : spanM a ≤ spanM (.bin o a (.num v)) := Nat.le_of_dvd hst (span_dvd h1 a (by simp [parts]))
        have hha : ht a < ht (.bin o a (.num v)) := ht_parts a (by simp [parts])
        have hea : szE a + 24 ≤ 4000 ∧ szC a < 10000000 := by
          rcases ho with rfl | rfl <;> exact ⟨h5, h6⟩
        obtain ⟨a1, a2⟩ := classes_bd a (spanM a) hla (Nat.dvd_refl _) hsa (by omega)
        have e1 := szE_lo a
        have w1 := widenedM_bd (cs := classesM a (spanM a)) (span := spanM (.bin o a (.num v))) (by omega) (by omega) (by omega) (by omega) a2
        have pa : linM a = true ∧ spanM a ≤ 1000 ∧ ht a < 9 := ⟨hla, by omega, by omega⟩
        have pz : linM (.bin o a (.num v)) = true ∧ spanM (.bin o a (.num v)) ≤ 1000 ∧ ht (.bin o a (.num v)) < 9 := ⟨h1, by omega, h7⟩
        have pc : linM a = true ∧ spanM a ∣ spanM a ∧ 0 < spanM a ∧ spanM a ≤ 1000 ∧ szE a ≤ 4000 ∧ szC a < 10000000 ∧ ht a < 9 ∧ ht a < h := ⟨hla, Nat.dvd_refl _, hsa, by omega, by omega, hea.2, by omega, by omega⟩
        have pw : spanM (.bin o a (.num v)) < 1000000 ∧ 0 < (classesM a (spanM a)).length ∧ (classesM a (spanM a)).length ≤ spanM (.bin o a (.num v)) ∧ ∀ ps ∈ classesM a (spanM a), PB 900000 ps ∧ ps.length < 10000000 := ⟨by omega, by omega, by omega, fun ps hps => ⟨(a2 ps hps).1.mono (by omega), by have := (a2 ps hps).2; omega⟩⟩
        have pd : ∀ x ∈ widenedM (classesM a (spanM a)) (spanM (.bin o a (.num v))), (o = .div ∨ o = .mod) ∧ x.length < 10000000 ∧ 0 < v ∧ Bd 20 v := fun x hx => ⟨ho, by have := (w1 x hx).2; omega, hv, hbv.mono (by omega)⟩
        have pv2 : span < 1000000 ∧ 0 < ((widenedM (classesM a (spanM a)) (spanM (.bin o a (.num v)))).map fun ps => dividedM o ps v).length ∧ ((widenedM (classesM a (spanM a)) (spanM (.bin o a (.num v)))).map fun ps => dividedM o ps v).length ≤ span ∧ ∀ ps ∈ ((widenedM (classesM a (spanM a)) (spanM (.bin o a (.num v)))).map fun ps => dividedM o ps v), PB 900000 ps ∧ ps.length < 10000000 := by
          rw [List.length_map, widenedM_len]
          refine ⟨by omega, hst, hle, fun ps hps => ?_⟩
          obtain ⟨x, hx, rfl⟩ := List.mem_map.mp hps
          obtain ⟨g1, g2⟩ := w1 x hx
          obtain ⟨k1, k2⟩ := divided_bd (o := o) g1 hv hbv (by omega)
          exact ⟨k1.mono (by omega), by omega⟩
        have hcl : classesM (.bin o a (.num v)) span = widenedM ((widenedM (classesM a (spanM a)) (spanM (.bin o a (.num v)))).map fun ps => dividedM o ps v) span := by
          rcases ho with rfl | rfl <;> rfl
        rw [hcl]
        have hwl : (widenedM (classesM a (spanM a)) (spanM (.bin o a (.num v)))).length ≤ 1000 := by rw [widenedM_len]; omega
        have c1 : decide (o.str = ("number" : Str)) = false := (op_str_ne o).2.1
        have c2 : decide (o.str = ("n" : Str)) = false := (op_str_ne o).1
        have c3 : inV (V.str o.str) [V.str "/", V.str "mod"] = true := by rcases ho with rfl | rfl <;> rfl
        walk_at "go"
        rw [Bool.xor_false]
        refine br_f c1 ?_
        walk_at "go"
        rw [Bool.xor_false]
        refine br_f c2 ?_
        walk_at "go"
        refine br_t c3 ?_
        walk_at "go"
        refine ⟨pa, ?_⟩
        walk_at "go"
        refine ⟨(a, spanM a), rfl, pc, ?_⟩
        walk_at "go"
        refine ⟨pz, ?_⟩
        walk_at "go"
        refine ⟨(classesM a (spanM a), spanM (.bin o a (.num v))), rfl, pw, ?_⟩
        walk_at "go"
        walk_at "nm"
        refine we_lcM (widenedM (classesM a (spanM a)) (spanM (.bin o a (.num v)))) encPs (fun ps => encPs (dividedM o ps v)) (by omega) (wi_seq ?_)
        walk_at "go"
        refine ⟨_, fSeq.l, rfl, fun x hx => ?_, ?_⟩
        · walk_at "nm"
          walk_at "c1"
          walk_at "nm"
          refine wt_yes ⟨rfl, ?_⟩
          walk_at "go"
          exact ⟨(o, x, v), rfl, pd x hx, rfl, rfl⟩
        · walk_at "go"
          refine ⟨(_, span), ?_, pv2, rfl, rfl⟩
          show _ = [AV.d (encPss _), _]
          rw [encPss, List.map_map]
          rfl
      | false =>
        have hpa := hpart hdm a (by simp [parts])
        have hpb := hpart hdm b (by simp [parts])
        obtain ⟨a1, a2⟩ := classes_bd a span hpa.1 hpa.2.1 h3 h4
        obtain ⟨b1, b2⟩ := classes_bd b span hpb.1 hpb.2.1 h3 h4
        have hno : o ≠ .div ∧ o ≠ .mod := by constructor <;> (rintro rfl; cases hdm)
        have hcl : classesM (.bin o a b) span = (List.range span).map fun r => combinedM o ((classesM a span).getD r []) ((classesM b span).getD r []) := by
          cases o <;> first | rfl | cases hdm
        have h9 : 3 * (szC a * szC b) < 10000000 := by
          have : szC (.bin o a b) = 3 * (szC a * szC b) := by cases o <;> first | rfl | cases hdm
          omega
        rw [hcl]
        have c1 : decide (o.str = ("number" : Str)) = false := (op_str_ne o).2.1
        have c2 : decide (o.str = ("n" : Str)) = false := (op_str_ne o).1
        have c3 : inV (V.str o.str) [V.str "/", V.str "mod"] = false := by cases o <;> first | rfl | cases hdm
        have c4 : decide (o.str = ("not" : Str)) = false := (op_str_ne o).2.2.1
        have c5 : decide (o.str = ("if" : Str)) = false := (op_str_ne o).2.2.2
        walk_at "go"
        rw [Bool.xor_false]
        refine br_f c1 ?_
        walk_at "go"
        rw [Bool.xor_false]
        refine br_f c2 ?_
        walk_at "go"
        refine br_f c3 ?_
        walk_at "go"
        rw [Bool.xor_false]
        refine br_f c4 ?_
        walk_at "go"
        walk_at "nm"
        refine we_cut (.d (.lst [encPss (classesM a span), encPss (classesM b span)])) ?_ ?_
        · refine we_lcM (parts (.bin o a b)) encTr (fun x => encPss (classesM x span)) (by simp [parts]) (wi_seq ?_)
          walk_at "go"
          refine ⟨_, fSeq.t, rfl, fun x hx => ?_, rfl, rfl⟩
          walk_at "nm"
          walk_at "c1"
          walk_at "nm"
          refine wt_yes ⟨rfl, ?_⟩
          walk_at "go"
          obtain ⟨p1, p2, p3, p4, p5, p6⟩ := hpart hdm x hx
          exact ⟨(x, span), rfl, ⟨p1, p2, h3, h4, p3, p4, p5, p6⟩, rfl, rfl⟩
        walk_at "go"
        rw [Bool.xor_false]
        refine br_f c5 ?_
        walk_at "go"
        walk_at "nm"
        refine we_lcM (List.range span) (fun (i : Nat) => D.int (i : Nat)) (fun r => encPs (combinedM o ((classesM a span).getD r []) ((classesM b span).getD r []))) (by rw [List.length_range]; omega) (wi_rngN rfl (by omega) ⟨rfl, fun r hr => ?_, ?_⟩)
        · have hr := List.mem_range.mp hr
          obtain ⟨x1, x2⟩ := a2 _ (getD_in (by rw [a1]; exact hr))
          obtain ⟨y1, y2⟩ := b2 _ (getD_in (by rw [b1]; exact hr))
          have ea : (classesM a span)[r]? = some ((classesM a span).getD r []) := getD_at (by rw [a1]; exact hr)
          have eb : (classesM b span)[r]? = some ((classesM b span).getD r []) := getD_at (by rw [b1]; exact hr)
          walk_at "nm"
          walk_at "c1"
          walk_at "nm"
          refine wt_yes ⟨rfl, ?_⟩
          walk_at "go"
          refine fIx.l (atI_map encPs ea) ?_
          walk_at "go"
          refine fIx.l (atI_map encPs eb) ?_
          walk_at "go"
          have m1 := mul3_le x2 y2
          have q1 := Nat.le_mul_of_pos_right (szC a) (szC_lo b)
          have q2 := Nat.le_mul_of_pos_left (szC b) (szC_lo a)
          refine ⟨(o, _, _), rfl, ⟨hno, x1.mono hpa.2.2.1, y1.mono hpb.2.2.1, ?_, ?_, ?_⟩, rfl, rfl⟩
          · show ((classesM a span).getD r []).length < _; omega
          · show ((classesM b span).getD r []).length < _; omega
          · show 3 * (((classesM a span).getD r []).length * ((classesM b span).getD r []).length) < _
            omega
        · refine ⟨?_, rfl⟩
          rw [encPss, List.map_map]
          rfl
abbrev Det_classes_of : FT := Det_classes_ofH 9
theorem ok_classes_of (T : Txt K w mg) : FnOk P w K mg base CX0 23 T.classes_of.f T.classes_of.fd P_classes_of (spG K Det_classes_of) := rc_classes_of T 9
end
section
/-! ### tokens, plain -/
inductive Tk where
  | n | num (v : Nat) | op (o : Op) | lp | rp | qm | col | bang
  deriving DecidableEq
def Tk.word : Tk → Str
  | .n => "n" | .num _ => "number" | .op o => o.str | .lp => "(" | .rp => ")" | .qm => "?" | .col => ":" | .bang => "!"
def dg (v : Nat) : List Nat := (Nat.toDigits 10 v).map Char.toNat
def opCodes : Op → List Nat
  | .or => [124, 124] | .and => [38, 38] | .eq => [61, 61] | .ne => [33, 61] | .lt => [60] | .gt => [62] | .le => [60, 61] | .ge => [62, 61] | .add => [43] | .sub => [45] | .mul => [42] | .div => [47] | .mod => [37]
def Tk.codes : Tk → List Nat
  | .n => [110] | .num v => dg v | .op o => opCodes o | .lp => [40] | .rp => [41] | .qm => [63] | .col => [58] | .bang => [33]
def isD (c : Nat) : Bool := decide (48 ≤ c) && decide (c ≤ 57)
def isW (c : Nat) : Bool := isD c || ((decide (65 ≤ c) && decide (c ≤ 90)) || ((decide (97 ≤ c) && decide (c ≤ 122)) || decide (c = 95)))
def Tk.wordy : Tk → Bool
  | .n | .num _ => true
  | _ => false
/-- may the code c stand right behind the token? -/
def Tk.adj : Tk → Nat → Bool
  | .n, c => !isW c
  | .num _, c => !isW c
  | .op .lt, c => !decide (c = 61)
  | .op .gt, c => !decide (c = 61)
  | .bang, c => !decide (c = 61)
  | _, _ => true
def stops (t : Tk) (rest : List Nat) : Prop := ∀ c, rest.head? = some c → t.adj c = true
def LxS : List Nat → List Tk → Prop
  | sfx, [] => ∃ k, sfx = List.replicate k 32
  | sfx, t :: ts => ∃ k rest, sfx = List.replicate k 32 ++ (t.codes ++ rest) ∧ stops t rest ∧ LxS rest ts
structure Rst where
  after : Nat
  word : Str
  num : Nat
  beg : Nat
def AtT (cs : List Nat) (s : Rst) : List Tk → Prop
  | [] => s.word = "end"
  | t :: ts => s.word = t.word ∧ (∀ v, t = .num v → s.num = v) ∧ s.after ≤ cs.length ∧ LxS (cs.drop s.after) ts
theorem dg_digit {v c : Nat} (h : c ∈ dg v) : 48 ≤ c ∧ c ≤ 57 := by
  obtain ⟨ch, hch, rfl⟩ := List.mem_map.mp h
  exact digit_range (Nat.isDigit_of_mem_toDigits (by decide) (by decide) hch)
theorem dg_ne (v : Nat) : dg v ≠ [] := by
  intro e
  unfold dg at e
  have h := Nat.toDigits_ne_nil (n := v) (b := 10)
  exact h (List.map_eq_nil_iff.mp e)
end
section
variable {P : Program} {w : World} {K : PySem.W.Frag} {mg : Str → Option Value} {base : Heap}
/-! ### the lexer, walked -/
abbrev encC (cs : List Nat) : D := .tup (cs.map fun c => .int (c : Nat))
def sCodes (s : Str) : List Nat := s.cps.toList
abbrev Det_text : FT := Det (fun z : Str => [.str z]) (fun z => z.length ≤ 1000000) (fun z => encC (sCodes z))
theorem ok_text (T : Txt K w mg) : FnOk P w K mg base CX0 1 T.text.f T.text.fd P_text (spG K Det_text) := by
  refine okDet T.text.F sc_text (fun x => rfl) fun cdv A outer s H E z hr pre => ?_
  have hu := hu_of hr
  refine ⟨_, (pss_one (ps_ret (pe_callTy cl_tup (by rfl) T.b_tuple (by decide +kernel) (pa_cons (pe_lc (own := [("sign", 1)]) (by rfl) sc_text.nd (pi_str (pv 0)) (blkOk_by (own := [("sign", 1)]) (N := N_text) (sc := defScope s_text) (by decide +kernel)) (fun _ _ _ _ _ => (pg_name (i := 1) sc_text.nd rfl (.inl rfl))) (fun _ _ _ _ _ => pts_nil) (fun _ _ _ _ _ => (pe_callB cl_ord (by rfl) T.b_ord (by decide +kernel) (pa_cons (pv 1) pa_nil)))) pa_nil)))), ?_⟩
  try dsimp only [cx_K, cx_w]
  refine ws_rho (ρ' := [some _, none]) rfl ?_
  walk_at "go"
  walk_at "nm"
  refine we_lcM (sCodes z) (fun c => D.str ⟨#[c]⟩) (fun c => .int (c : Nat)) (Nat.le_trans (show (sCodes z).length ≤ 1000000 from pre) (by omega)) (wi_str ?_)
  walk_at "go"
  refine ⟨rfl, fun x hx => ?_, ?_⟩
  · walk_at "nm"
    walk_at "c1"
    walk_at "nm"
    refine wt_yes ⟨rfl, ?_⟩
    walk_at "go"
    refine fOrd.i rfl ?_
    exact ⟨rfl, rfl⟩
  · walk_at "go"
    refine fTup.l ?_
    exact ⟨rfl, rfl⟩
abbrev Det_is_digit : FT := Det (fun z : Nat => [.int (z : Nat)]) (fun _ => True) (fun z => .bl (isD z))
theorem nle {a b : Nat} : decide ((a : Int) ≤ (b : Int)) = decide (a ≤ b) := decide_eq_decide.mpr Int.ofNat_le
theorem ok_is_digit (T : Txt K w mg) : FnOk P w K mg base CX0 1 T.is_digit.f T.is_digit.fd P_is_digit (spG K Det_is_digit) := by
  refine okDet T.is_digit.F sc_is_digit (fun x => rfl) fun cdv A outer s H E z hr pre => ?_
  have hu := hu_of hr
  refine ⟨_, (pss_one (ps_ret (pe_chain op_le op_le pe_int (pv 0) pe_int))), ?_⟩
  try dsimp only [cx_K, cx_w]
  refine ws_rho (ρ' := [some _]) rfl ?_
  walk_at "go"
  refine ⟨fun h => ?_, fun h => ?_⟩
  · walk_at "go"
    refine ⟨?_, rfl⟩
    have h : 48 ≤ z := by have := of_decide_eq_true h; omega
    simp only [isD, h, decide_true, Bool.true_and]
    rw [show decide ((z : Int) ≤ 57) = decide (z ≤ 57) from nle]
  · refine ⟨?_, rfl⟩
    have h : ¬ 48 ≤ z := by have := of_decide_eq_false h; omega
    simp [isD, h]
theorem chain2 {K : PySem.W.Frag} {ρ : AE} {i : Nat} {z a b : Nat} {Φ : AV → RS → Prop} (e : ρ[i]? = some (some (.d (.int (z : Nat))))) (q : Φ (.d (.bl (decide (a ≤ z) && decide (z ≤ b)))) []) : WE K (tChain (rI0 fun i j => V.bl (decide (i ≤ j))) (rI0 fun i j => V.bl (decide (i ≤ j))) (tC (.int (a : Nat))) (tVar i) (tC (.int (b : Nat)))) ρ [] Φ := by
  refine we_chainc (we_cI (we_var e (fI2.i ⟨_, rfl, fun h => ?_, fun h => ?_⟩)))
  · refine we_cI (fI2.i ?_)
    have h : a ≤ z := by have := of_decide_eq_true h; omega
    rw [show decide ((z : Int) ≤ (b : Int)) = decide (z ≤ b) from nle]
    simpa [h] using q
  · have h : ¬ a ≤ z := by have := of_decide_eq_false h; omega
    simpa [h] using q
abbrev Det_is_word_code : FT := Det (fun z : Nat => [.int (z : Nat)]) (fun _ => True) (fun z => .bl (isW z))
theorem ok_is_word_code (T : Txt K w mg) : FnOk P w K mg base CX0 2 T.is_word_code.f T.is_word_code.fd P_is_word_code (spG K Det_is_word_code) := by
  refine okDet T.is_word_code.F sc_is_word_code (fun x => rfl) fun cdv A outer s H E z hr pre => ?_
  have hu := hu_of hr
  refine ⟨_, (pss_one (ps_ret (pe_or (pe_call (ok_is_digit T) (hr.mono (by omega)) (by rfl) T.is_digit.m T.is_digit.F.kp T.is_digit.b .nil pass0 (pa_cons (pv 0) pa_nil)) (pe_or (pe_chain op_le op_le pe_int (pv 0) pe_int) (pe_or (pe_chain op_le op_le pe_int (pv 0) pe_int) (pe_one (pe_cmpR op_eq (pv 0) pe_int (nomark _)))))))), ?_⟩
  try dsimp only [cx_K, cx_w]
  refine ws_rho (ρ' := [some _]) rfl ?_
  have e95 : decide ((z : Int) = 95) = decide (z = 95) := decide_eq_decide.mpr (by omega)
  refine ws_ret (we_orV ?_)
  walk_at "go"
  refine ⟨trivial, _, rfl, fun h => ?_, fun h => ?_⟩
  · exact ⟨by simp [isW, h], rfl⟩
  · refine we_orV (chain2 (a := 65) (b := 90) rfl ⟨_, rfl, fun h1 => ?_, fun h1 => ?_⟩)
    · refine ⟨?_, rfl⟩
      unfold isW
      rw [h1]
      simp
    · refine we_orV (chain2 (a := 97) (b := 122) rfl ⟨_, rfl, fun h2 => ?_, fun h2 => ?_⟩)
      · refine ⟨?_, rfl⟩
        unfold isW
        rw [h2]
        simp
      · walk_at "go"
        refine ⟨?_, rfl⟩
        unfold isW
        rw [h, h1, h2, Bool.xor_false, e95]
        rfl
/-! the reader -/
def rdF (cs : List Nat) (s : Rst) : List (Str × AV) := [("codes", .d (encC cs)), ("after", .d (.int (s.after : Nat))), ("word", .d (.str s.word)), ("number", .d (.int (s.num : Nat))), ("begin", .d (.int (s.beg : Nat)))]
/-- one word token -/
abbrev MW (C : Addr) : FT := Rsc C (fun _ : List Nat × Rst × Tk × List Nat => []) (fun z => rdF z.1 z.2.1) (fun z => z.1.drop z.2.1.after = z.2.2.1.codes ++ z.2.2.2 ∧ z.2.1.after < z.1.length ∧ z.2.1.beg = z.2.1.after ∧ z.2.2.1.wordy = true ∧ stops z.2.2.1 z.2.2.2 ∧ z.1.length ≤ 1000) (fun z d fs' => d = .non ∧ ∃ v, (∀ n, z.2.2.1 = .num n → v = n) ∧ fs' = rdF z.1 { z.2.1 with after := z.2.1.after + z.2.2.1.codes.length, word := z.2.2.1.word, num := v })
theorem wordy_codes {t : Tk} (h : t.wordy = true) : (∀ c ∈ t.codes, isW c = true) ∧ t.codes ≠ [] := by
  cases t with
  | n => exact ⟨by simp [Tk.codes]; decide, by simp [Tk.codes]⟩
  | num v =>
    refine ⟨fun c hc => ?_, dg_ne v⟩
    have := dg_digit hc
    unfold isW isD
    simp [this.1, this.2]
  | _ => cases h
theorem wordy_stops {t : Tk} {rest : List Nat} (h : t.wordy = true) (hs : stops t rest) : ∀ c, rest.head? = some c → isW c = false := by
  intro c hc
  have := hs c hc
  cases t with
  | n => simpa [Tk.adj] using this
  | num v => simpa [Tk.adj] using this
  | _ => cases h
theorem cutMid {α : Type} {xs : List α} {f : α → D} {a b : Nat} (h1 : a ≤ b) (h2 : b ≤ xs.length) : Ab.cutD (xs.map f) (some (a : Int)) (some (b : Int)) = ((xs.drop a).take (b - a)).map f := by
  unfold Ab.cutD
  rw [HT.sIx_nat, HT.sIx_nat, List.length_map, Nat.min_eq_left h2, Nat.min_eq_left (Nat.le_trans h1 h2), List.map_take, List.map_drop]
theorem mapInt (xs : List Nat) : (xs.map fun c => D.int (c : Nat)) = (xs.map Int.ofNat).map .int := by rw [List.map_map]; rfl
theorem natMapInj : ∀ {xs ys : List Nat}, xs.map Int.ofNat = ys.map Int.ofNat → xs = ys
  | [], [], _ => rfl
  | [], _ :: _, h => by cases h
  | _ :: _, [], h => by cases h
  | x :: xs, y :: ys, h => by
    rw [List.map_cons, List.map_cons] at h
    injection h with h1 h2
    injection h1 with h1
    rw [h1, natMapInj h2]
theorem natMapDec {xs ys : List Nat} : decide (xs.map Int.ofNat = ys.map Int.ofNat) = decide (xs = ys) := decide_eq_decide.mpr ⟨natMapInj, fun h => by rw [h]⟩
def dgStep (b c : Nat) : Nat := b * 10 + (c - 48)
theorem dg_fold (v : Nat) : (dg v).foldl dgStep 0 = v := PySem.W.KIN.val_back v
theorem dg_bd : ∀ (xs : List Nat) (b : Nat), (∀ c ∈ xs, c ≤ 57) → xs.foldl dgStep b < (b + 1) * 10 ^ xs.length
  | [], b, _ => by simp
  | c :: xs, b, h => by
    have h1 := dg_bd xs (dgStep b c) fun d hd => h d (List.mem_cons_of_mem _ hd)
    have h2 := h c List.mem_cons_self
    have h3 : dgStep b c + 1 ≤ (b + 1) * 10 := by unfold dgStep; omega
    rw [List.foldl_cons, List.length_cons, Nat.pow_succ, Nat.mul_comm (10 ^ xs.length) 10, ← Nat.mul_assoc]
    exact Nat.lt_of_lt_of_le h1 (Nat.mul_le_mul_right _ h3)
theorem getC {cs : List Nat} {a : Nat} {c : Nat} (h : cs[a]? = some c) : atI (cs.map fun c => D.int (c : Nat)) (a : Int) = some (.int (c : Nat)) := atI_map (fun c : Nat => D.int (c : Nat)) h
theorem ok_Reader_move_word (T : Txt K w mg) : FnOk P w K mg base CX0 3 T.Reader_move_word.f T.Reader_move_word.fd P_Reader_move_word (spG K (MW T.cReader)) := by
  refine okRsc T.Reader_move_word.F sc_Reader_move_word (fun x => rfl) fun cdv A outer s H E z p dx hr pre => ?_
  obtain ⟨cs, st, tk, rest⟩ := z
  obtain ⟨h1, h2, h3, h4, h5, h6⟩ := pre
  have h1 : cs.drop st.after = tk.codes ++ rest := h1
  have h2 : st.after < cs.length := h2
  have h3 : st.beg = st.after := h3
  have h4 : tk.wordy = true := h4
  have h6 : cs.length ≤ 1000 := h6
  have hu := hu_of hr
  have c1 := T.clReader
  have n1 := T.nReader_codes
  have n2 := T.nReader_after
  have n3 := T.nReader_word
  have n4 := T.nReader_number
  have n5 := T.nReader_begin
  refine ⟨_, (pss_cons (ps_while PassesOwn.never (PW.pt (pw_and (pt_cmpR op_lt (pe_fld (pv 0) rfl) (pe_callB cl_len (by rfl) T.b_len (by decide +kernel) (pa_cons (pe_fld (pv 0) rfl) pa_nil)) (nomark _)) (pw_and1 (pt_val (pe_call (ok_is_word_code T) (hr.mono (by omega)) (by rfl) T.is_word_code.m T.is_word_code.F.kp T.is_word_code.b .nil pass0 (pa_cons (pe_ix ix_seq (pe_fld (pv 0) rfl) (pe_fld (pv 0) rfl) (fun _ _ => rfl)) pa_nil)))))) (pss_one (ps_fld (pv 0) (pe_op op_plus (pe_fld (pv 0) rfl) pe_int) rfl)))
        (pss_cons (ps_set (i := 1) sc_Reader_move_word.nd rfl (.inl rfl) (pe_slice sl_any (pe_fld (pv 0) rfl) (po_some (pe_fld (pv 0) rfl)) (po_some (pe_fld (pv 0) rfl))))
        (pss_cons (ps_fld (pv 0) pe_int rfl)
        (pss_one (ps_if (pt_cmpR (op_eqD hr.units) (pv 1) (pe_call (ok_text T) (hr.mono (by omega)) (by rfl) T.text.m T.text.F.kp T.text.b .nil pass0 (pa_cons pe_str pa_nil)) (nomark _)) (pss_one (ps_fld (pv 0) pe_str rfl)) (pss_one (ps_if (pt_val (pe_callB (cl_all rfl) (by rfl) T.b_all (by decide +kernel) (pa_cons (pe_lc (own := [("code", 2)]) (by rfl) sc_Reader_move_word.nd (pi_seq (pv 1)) (blkOk_by (own := [("code", 2)]) (N := N_Reader_move_word) (sc := defScope s_Reader_move_word) (by decide +kernel)) (fun _ _ _ _ _ => (pg_name (i := 2) sc_Reader_move_word.nd rfl (.inl rfl))) (fun _ _ _ _ _ => pts_nil) (fun _ _ _ _ _ => (pe_call (ok_is_digit T) (hr.mono (by omega)) (by rfl) T.is_digit.m T.is_digit.F.kp T.is_digit.b .nil pass0 (pa_cons (pv 2) pa_nil)))) pa_nil))) (pss_cons (ps_fld (pv 0) pe_str rfl)
        (pss_one (ps_for PassesOwn.never rfl (pi_seq (pv 1)) (pg_name (i := 2) sc_Reader_move_word.nd rfl (.inl rfl)) (pss_one (ps_fld (pv 0) (pe_op op_sub (pe_op op_plus (pe_op op_mulW (pe_fld (pv 0) rfl) pe_int) (pv 2)) pe_int) rfl))))) (pss_one ps_never)))))))), ?_⟩
  try dsimp only [cx_K, cx_w]
  refine ws_rho (ρ' := [some _, none, none]) rfl ?_
  refine ws_seq ?_
  refine ws_while (fun m ρ' R' => ∃ j, j + m = tk.codes.length ∧ ρ' = [some (.v (.ref p)), none, none] ∧ R' = [(p, .ins T.cReader dx (rdF cs { st with after := st.after + j }))]) tk.codes.length ⟨0, by omega, rfl, rfl⟩ fun m ρ' R' ⟨j, e1, e2, e3⟩ => ?_
  subst e2
  subst e3
  have hlen : cs.length = st.after + (tk.codes.length + rest.length) := by
    have := congrArg List.length h1
    rw [List.length_drop, List.length_append] at this
    omega
  have hat : ∀ j, cs[st.after + j]? = (tk.codes ++ rest)[j]? := fun j => by rw [← h1, List.getElem?_drop]
  have hll : ((cs.map fun c => D.int (c : Nat)).length : Int) = ((st.after + (tk.codes.length + rest.length) : Nat) : Int) := by rw [List.length_map, hlen]
  obtain ⟨hw, hne⟩ := wordy_codes h4
  have henc : ∀ xs, encC xs = D.tup ((xs.map Int.ofNat).map .int) := fun xs => by rw [encC, mapInt]
  refine wt_cut (decide (0 < m)) ?_ ⟨fun hb => ?_, fun hb => ?_⟩
  · rcases m with _ | m
    · have hj : j = tk.codes.length := by omega
      subst hj
      walk_at "go"
      cases hr2 : rest with
      | nil =>
        refine br_f (decide_eq_false (by rw [hll, hr2]; show ¬ (((st.after + tk.codes.length : Nat) : Int) < _); simp)) ?_
        exact ⟨rfl, rfl⟩
      | cons c rest2 =>
        have hc : cs[st.after + tk.codes.length]? = some c := by rw [hat, hr2, List.getElem?_append_right (Nat.le_refl _)]; simp
        have hcw : isW c = false := wordy_stops h4 h5 c (by show rest.head? = _; rw [hr2]; rfl)
        refine br_t (decide_eq_true (by rw [hll, hr2]; show ((st.after + tk.codes.length : Nat) : Int) < _; simp only [List.length_cons]; omega)) ?_
        walk_at "go"
        refine fIx.t (getC hc) ?_
        walk_at "go"
        refine ⟨trivial, ?_⟩
        rw [hcw]
        exact ⟨_, rfl, rfl, rfl⟩
    · have hj : j < tk.codes.length := by omega
      have hc : cs[st.after + j]? = some tk.codes[j] := by rw [hat, List.getElem?_append_left hj, List.getElem?_eq_getElem hj]
      have hcw : isW tk.codes[j] = true := hw _ (List.getElem_mem hj)
      walk_at "go"
      refine br_t (decide_eq_true (by rw [hll]; show ((st.after + j : Nat) : Int) < _; omega)) ?_
      walk_at "go"
      refine fIx.t (getC hc) ?_
      walk_at "go"
      refine ⟨trivial, ?_⟩
      rw [hcw]
      exact ⟨_, rfl, rfl, rfl⟩
  · have hb : 0 < m := of_decide_eq_true hb
    walk_at "f1"
    walk_at "go"
    exact ⟨rfl, m - 1, _, by omega, Le.refl _, j + 1, by omega, rfl, rfl⟩
  · have hb : m = 0 := by have := of_decide_eq_false hb; omega
    have hj : j = tk.codes.length := by omega
    subst hj
    have hcut : Ab.cutD (cs.map fun c => D.int (c : Nat)) (some (st.beg : Int)) (some ((st.after + tk.codes.length : Nat) : Int)) = (tk.codes.map Int.ofNat).map .int := by
      rw [h3, cutMid (by omega) (by omega), h1, Nat.add_sub_cancel_left, List.take_left, mapInt]
    walk_at "go"
    rw [hcut]
    walk_at "go"
    walk_at "f1"
    walk_at "go"
    refine ⟨rfl, ?_⟩
    walk_at "go"
    refine ⟨Nat.le_of_ble_eq_true rfl, ?_⟩
    rw [henc, show sCodes (Str.ofString "n") = [110] from rfl]
    refine fEqD.t ?_
    rw [natMapDec]
    cases tk with
    | n =>
      walk_at "go"
      walk_at "f1"
      walk_at "go"
      exact ⟨rfl, _, ⟨rfl, 0, fun n e => (by cases e), rfl⟩, rfl⟩
    | num v =>
      have hd : decide ((Tk.num v).codes = [110]) = false := decide_eq_false fun e => by
        have := dg_digit (v := v) (c := 110) (by show 110 ∈ (Tk.num v).codes; rw [e]; simp)
        omega
      rw [hd]
      walk_at "go"
      walk_at "nm"
      refine we_cut (.d (.lst (((dg v).map fun _ => true).map .bl))) ?_ ?_
      · refine we_lcM ((Tk.num v).codes.map Int.ofNat) .int (fun _ => .bl true) (by rw [List.length_map]; omega) (wi_seq ?_)
        walk_at "go"
        refine ⟨_, fSeq.t, rfl, fun x hx => ?_, ?_, rfl⟩
        · obtain ⟨c, hc, rfl⟩ := List.mem_map.mp hx
          walk_at "nm"
          walk_at "c1"
          walk_at "nm"
          refine wt_yes ⟨rfl, ?_⟩
          walk_at "go"
          refine ⟨trivial, ?_, rfl⟩
          have := dg_digit (v := v) hc
          simp [isD, this.1, this.2]
        · rw [List.map_map, List.map_map]
          rfl
      walk_at "go"
      refine fAll.i ?_
      rw [show ((dg v).map fun _ => true).all id = true by simp]
      walk_at "go"
      walk_at "f1"
      walk_at "go"
      refine ⟨rfl, ?_⟩
      refine ws_forB (dg v) (fun c => D.int (c : Nat)) dgStep 0 [2] (fun _ => [some (.v (.ref p)), some (.d (.tup ((dg v).map fun c => D.int (c : Nat)))), none]) (fun b => [(p, .ins T.cReader dx (rdF cs { after := st.after + (dg v).length, word := "number", num := b, beg := st.beg }))]) ?_ ?_ (fun pre2 x post b q1 q2 => ?_) ?_
      · refine wi_seq ?_
        walk_at "go"
        refine ⟨_, fSeq.t, ?_, rfl⟩
        rw [mapInt]
        rfl
      · rw [mapInt]
        rfl
      · have hx : x ∈ dg v := by rw [q1]; simp
        have hxd := dg_digit hx
        have hbb := dg_bd pre2 0 fun c hc => (dg_digit (v := v) (by rw [q1]; simp [hc])).2
        have hpl : pre2.length ≤ 1000 := by
          have h7 : (dg v).length = pre2.length + (post.length + 1) := by rw [q1]; simp
          have h8 : (Tk.num v).codes.length = (dg v).length := rfl
          omega
        have hbd : Bd 4000 (b : Int) := by
          unfold Bd
          rw [Int.natAbs_natCast, q2]
          have h10 : 10 ^ pre2.length ≤ 10 ^ 1000 := Nat.pow_le_pow_right (by omega) hpl
          have h11 : (10 : Nat) ^ 1000 ≤ 2 ^ 4000 := by
            rw [show (4000 : Nat) = 4 * 1000 from rfl, Nat.pow_mul]
            exact Nat.pow_le_pow_left (by decide) 1000
          rw [Nat.zero_add, Nat.one_mul] at hbb
          exact Nat.lt_of_lt_of_le hbb (Nat.le_trans h10 h11)
        walk_at "g1"
        walk_at "nm"
        walk_at "f1"
        walk_at "go"
        refine fI2c.i (mulOk hbd (l := 4) (show (10 : Int).natAbs < 2 ^ 4 by decide) (by omega) (by omega) (by omega)) ?_
        walk_at "go"
        refine ⟨rfl, rfl, ?_⟩
        have e10 : (b : Int) * 10 + (x : Int) - 48 = ((dgStep b x : Nat) : Int) := by unfold dgStep; omega
        rw [e10]
        rfl
      · refine ⟨_, ⟨rfl, v, fun n e => (by cases e; rfl), ?_⟩, rfl⟩
        rw [dg_fold]
        rfl
    | _ => cases h4
end
section
variable {P : Program} {w : World} {K : PySem.W.Frag} {mg : Str → Option Value} {base : Heap}
def signsL : List Str := ["<=", ">=", "==", "!=", "&&", "||", "(", ")", "?", ":", "!", "*", "/", "+", "-", "<", ">"]
def Tk.raw : Tk → Str
  | .op .or => "||" | .op .and => "&&" | t => t.word
def sgStep (sfx : List Nat) (found sg : Str) : Str := if decide (found = "") = true then (if decide (sfx.take sg.length = sCodes sg) = true then sg else found) else found
def sgInit (sfx : List Nat) : Str := if decide (sfx.head? = some 37) = true then "mod" else ""
theorem sc0 : sCodes (Str.ofString "<=") = [60, 61] := by decide +kernel
theorem sl0 : (Str.ofString "<=").length = 2 := by decide +kernel
theorem sc1 : sCodes (Str.ofString ">=") = [62, 61] := by decide +kernel
theorem sl1 : (Str.ofString ">=").length = 2 := by decide +kernel
theorem sc2 : sCodes (Str.ofString "==") = [61, 61] := by decide +kernel
theorem sl2 : (Str.ofString "==").length = 2 := by decide +kernel
theorem sc3 : sCodes (Str.ofString "!=") = [33, 61] := by decide +kernel
theorem sl3 : (Str.ofString "!=").length = 2 := by decide +kernel
theorem sc4 : sCodes (Str.ofString "&&") = [38, 38] := by decide +kernel
theorem sl4 : (Str.ofString "&&").length = 2 := by decide +kernel
theorem sc5 : sCodes (Str.ofString "||") = [124, 124] := by decide +kernel
theorem sl5 : (Str.ofString "||").length = 2 := by decide +kernel
theorem sc6 : sCodes (Str.ofString "(") = [40] := by decide +kernel
theorem sl6 : (Str.ofString "(").length = 1 := by decide +kernel
theorem sc7 : sCodes (Str.ofString ")") = [41] := by decide +kernel
theorem sl7 : (Str.ofString ")").length = 1 := by decide +kernel
theorem sc8 : sCodes (Str.ofString "?") = [63] := by decide +kernel
theorem sl8 : (Str.ofString "?").length = 1 := by decide +kernel
theorem sc9 : sCodes (Str.ofString ":") = [58] := by decide +kernel
theorem sl9 : (Str.ofString ":").length = 1 := by decide +kernel
theorem sc10 : sCodes (Str.ofString "!") = [33] := by decide +kernel
theorem sl10 : (Str.ofString "!").length = 1 := by decide +kernel
theorem sc11 : sCodes (Str.ofString "*") = [42] := by decide +kernel
theorem sl11 : (Str.ofString "*").length = 1 := by decide +kernel
theorem sc12 : sCodes (Str.ofString "/") = [47] := by decide +kernel
theorem sl12 : (Str.ofString "/").length = 1 := by decide +kernel
theorem sc13 : sCodes (Str.ofString "+") = [43] := by decide +kernel
theorem sl13 : (Str.ofString "+").length = 1 := by decide +kernel
theorem sc14 : sCodes (Str.ofString "-") = [45] := by decide +kernel
theorem sl14 : (Str.ofString "-").length = 1 := by decide +kernel
theorem sc15 : sCodes (Str.ofString "<") = [60] := by decide +kernel
theorem sl15 : (Str.ofString "<").length = 1 := by decide +kernel
theorem sc16 : sCodes (Str.ofString ">") = [62] := by decide +kernel
theorem sl16 : (Str.ofString ">").length = 1 := by decide +kernel
def sgP (sfx : List Nat) (sg : Str) : Bool := decide (sfx.take sg.length = sCodes sg)
theorem fold_some (sfx : List Nat) (l : List Str) (f : Str) (h : decide (f = ("" : Str)) = false) : l.foldl (sgStep sfx) f = f := by
  induction l with
  | nil => rfl
  | cons a l ih =>
    have e : sgStep sfx f a = f := by unfold sgStep; rw [h]; rfl
    rw [List.foldl_cons, e, ih]
theorem fold_find (sfx : List Nat) : ∀ (l : List Str), (∀ s ∈ l, decide (s = ("" : Str)) = false) → l.foldl (sgStep sfx) "" = (l.find? (sgP sfx)).getD ""
  | [], _ => rfl
  | a :: l, h => by
    have e : sgStep sfx "" a = if sgP sfx a = true then a else "" := by
      unfold sgStep sgP
      rw [show decide (("" : Str) = "") = true from decide_eq_true rfl]
      rfl
    rw [List.foldl_cons, e, List.find?_cons]
    cases hp : sgP sfx a with
    | true =>
      rw [if_pos rfl, fold_some sfx l a (h a List.mem_cons_self)]
      rfl
    | false =>
      rw [if_neg (by simp), fold_find sfx l fun s hs => h s (List.mem_cons_of_mem _ hs)]
theorem signs_ne : ∀ s ∈ signsL, decide (s = ("" : Str)) = false := by decide +kernel
theorem init_no {c : Nat} {l : List Nat} (h : c ≠ 37) : sgInit (c :: l) = "" := by
  unfold sgInit
  rw [if_neg]
  simp only [List.head?_cons, Option.some.injEq, decide_eq_true_eq]
  exact h
theorem pick_go {sfx : List Nat} {s : Str} (h0 : sgInit sfx = "") (h : signsL.find? (sgP sfx) = some s) : signsL.foldl (sgStep sfx) (sgInit sfx) = s := by
  rw [h0, fold_find sfx signsL signs_ne, h]
  rfl
theorem pick_tok (t : Tk) (rest : List Nat) (hw : t.wordy = false) (hs : stops t rest) : signsL.foldl (sgStep (t.codes ++ rest)) (sgInit (t.codes ++ rest)) = t.raw := by
  cases t with
  | n => cases hw
  | num v => cases hw
  | op o =>
    by_cases hm : o = .mod
    · subst hm
      refine fold_some _ _ _ ?_
      show decide ((if decide (some 37 = some 37) = true then ("mod" : Str) else "") = "") = false
      rw [if_pos (by simp)]
      decide +kernel
    · refine pick_go (by cases o <;> first | exact absurd rfl hm | exact init_no (by decide)) ?_
      rcases rest with _ | ⟨c, r⟩
      · cases o <;> first | exact absurd rfl hm | (simp [signsL, List.find?_cons, sgP, Tk.codes, opCodes, sc0, sl0, sc1, sl1, sc2, sl2, sc3, sl3, sc4, sl4, sc5, sl5, sc6, sl6, sc7, sl7, sc8, sl8, sc9, sl9, sc10, sl10, sc11, sl11, sc12, sl12, sc13, sl13, sc14, sl14, sc15, sl15, sc16, sl16]; rfl)
      · have hc := hs c rfl
        cases o <;> first | exact absurd rfl hm | (simp [Tk.adj] at hc; simp [signsL, List.find?_cons, sgP, Tk.codes, opCodes, hc, sc0, sl0, sc1, sl1, sc2, sl2, sc3, sl3, sc4, sl4, sc5, sl5, sc6, sl6, sc7, sl7, sc8, sl8, sc9, sl9, sc10, sl10, sc11, sl11, sc12, sl12, sc13, sl13, sc14, sl14, sc15, sl15, sc16, sl16]; rfl) | (simp [signsL, List.find?_cons, sgP, Tk.codes, opCodes, sc0, sl0, sc1, sl1, sc2, sl2, sc3, sl3, sc4, sl4, sc5, sl5, sc6, sl6, sc7, sl7, sc8, sl8, sc9, sl9, sc10, sl10, sc11, sl11, sc12, sl12, sc13, sl13, sc14, sl14, sc15, sl15, sc16, sl16]; rfl)
  | bang =>
    refine pick_go (init_no (by decide)) ?_
    rcases rest with _ | ⟨c, r⟩
    · simp [signsL, List.find?_cons, sgP, Tk.codes, sc0, sl0, sc1, sl1, sc2, sl2, sc3, sl3, sc4, sl4, sc5, sl5, sc6, sl6, sc7, sl7, sc8, sl8, sc9, sl9, sc10, sl10, sc11, sl11, sc12, sl12, sc13, sl13, sc14, sl14, sc15, sl15, sc16, sl16]
      rfl
    · have hc := hs c rfl
      simp [Tk.adj] at hc
      simp [signsL, List.find?_cons, sgP, Tk.codes, hc, sc0, sl0, sc1, sl1, sc2, sl2, sc3, sl3, sc4, sl4, sc5, sl5, sc6, sl6, sc7, sl7, sc8, sl8, sc9, sl9, sc10, sl10, sc11, sl11, sc12, sl12, sc13, sl13, sc14, sl14, sc15, sl15, sc16, sl16]
      rfl
  | _ =>
    refine pick_go (init_no (by decide)) ?_
    rcases rest with _ | ⟨c, r⟩ <;> (simp [signsL, List.find?_cons, sgP, Tk.codes, sc0, sl0, sc1, sl1, sc2, sl2, sc3, sl3, sc4, sl4, sc5, sl5, sc6, sl6, sc7, sl7, sc8, sl8, sc9, sl9, sc10, sl10, sc11, sl11, sc12, sl12, sc13, sl13, sc14, sl14, sc15, sl15, sc16, sl16]; rfl)
end
section
variable {P : Program} {w : World} {K : PySem.W.Frag} {mg : Str → Option Value} {base : Heap}
abbrev MS (C : Addr) : FT := Rsc C (fun _ : List Nat × Rst × Tk × List Nat => []) (fun z => rdF z.1 z.2.1) (fun z => z.1.drop z.2.1.beg = z.2.2.1.codes ++ z.2.2.2 ∧ z.2.1.beg < z.1.length ∧ z.2.2.1.wordy = false ∧ stops z.2.2.1 z.2.2.2 ∧ z.1.length ≤ 1000) (fun z d fs' => d = .non ∧ fs' = rdF z.1 { z.2.1 with after := z.2.1.beg + z.2.2.1.codes.length, word := z.2.2.1.word })
theorem cutMid2 {α : Type} {xs : List α} {f : α → D} {a b : Nat} (h0 : a ≤ xs.length) (h1 : a ≤ b) : Ab.cutD (xs.map f) (some (a : Int)) (some (b : Int)) = ((xs.drop a).take (b - a)).map f := by
  by_cases h : b ≤ xs.length
  · exact cutMid h1 h
  · unfold Ab.cutD
    rw [HT.sIx_nat, HT.sIx_nat, List.length_map, Nat.min_eq_left h0, Nat.min_eq_right (by omega), List.map_take, List.map_drop]
    rw [List.take_of_length_le (by simp), List.take_of_length_le (by simp; omega)]
theorem signs_len : ∀ s ∈ signsL, s.length ≤ 2 := by decide +kernel
theorem raw_facts (t : Tk) (h : t.wordy = false) : t.raw ∈ signWords ∧ decide (t.raw = ("" : Str)) = false ∧ (if decide (t.raw = ("mod" : Str)) = true then 1 else t.raw.length) = t.codes.length ∧ t.raw.length ≤ 1000000 ∧ ((wordsV t.raw).getD (.str t.raw)) = .str t.word := by
  cases t with
  | n => cases h
  | num v => cases h
  | op o => cases o <;> decide +kernel
  | _ => decide +kernel
def wAV (o : Option V) (d : AV) : AV := match o with | some v => absC v | none => d
theorem raw_word {t : Tk} {o : Option V} (r5 : ((wordsV t.raw).getD (.str t.raw)) = .str t.word) (w3 : o = wordsV t.raw) : wAV o (.d (.str t.raw)) = AV.d (.str t.word) := by
  rw [← w3] at r5
  cases o with
  | none => exact congrArg absC r5
  | some v => exact congrArg absC r5
theorem ok_Reader_move_sign (T : Txt K w mg) : FnOk P w K mg base CX0 2 T.Reader_move_sign.f T.Reader_move_sign.fd P_Reader_move_sign (spG K (MS T.cReader)) := by
  refine okRsc T.Reader_move_sign.F sc_Reader_move_sign (fun x => rfl) fun cdv A outer s H E z p dx hr pre => ?_
  obtain ⟨cs, st, tk, rest⟩ := z
  obtain ⟨h1, h2, h4, h5, h6⟩ := pre
  have h1 : cs.drop st.beg = tk.codes ++ rest := h1
  have h2 : st.beg < cs.length := h2
  have h4 : tk.wordy = false := h4
  have h6 : cs.length ≤ 1000 := h6
  have hu := hu_of hr
  have c1 := T.clReader
  have n1 := T.nReader_codes
  have n2 := T.nReader_after
  have n3 := T.nReader_word
  have n4 := T.nReader_number
  have n5 := T.nReader_begin
  have henc : ∀ xs, encC xs = D.tup ((xs.map Int.ofNat).map .int) := fun xs => by rw [encC, mapInt]
  obtain ⟨r1, r2, r3, r4, r5⟩ := raw_facts tk h4
  have hpick := pick_tok tk rest h4 h5
  obtain ⟨r, o, w1, w2, w3⟩ := T.vWORDS _ r1
  have hd : cs[st.beg]? = (tk.codes ++ rest).head? := by rw [← h1, List.head?_drop]
  refine ⟨_, (pss_cons (ps_set (i := 1) sc_Reader_move_sign.nd rfl (.inl rfl) (pe_ifExp (pt_cmpR op_eq (pe_ix ix_seq (pe_fld (pv 0) rfl) (pe_fld (pv 0) rfl) (fun _ _ => rfl)) (pe_glob (v := .int 37) (by rfl) T.mPERCENT ⟨_, rfl⟩) (nomark _)) pe_str pe_str))
        (pss_cons (ps_for PassesOwn.never rfl (pi_seq (pe_glob (v := .ref T.cSIGNS.a) (by rfl) T.cSIGNS.m rfl)) (pg_name (i := 2) sc_Reader_move_sign.nd rfl (.inl rfl)) (pss_one (ps_if (PW.pt (pw_and (pt_cmpR op_eq (pv 1) pe_str (nomark _)) (pw_and1 (pt_cmpR (op_eqD hr.units) (pe_slice sl_any (pe_fld (pv 0) rfl) (po_some (pe_fld (pv 0) rfl)) (po_some (pe_op op_plus (pe_fld (pv 0) rfl) (pe_callB cl_len (by rfl) T.b_len (by decide +kernel) (pa_cons (pv 2) pa_nil))))) (pe_call (ok_text T) (hr.mono (by omega)) (by rfl) T.text.m T.text.F.kp T.text.b .nil pass0 (pa_cons (pv 2) pa_nil)) (nomark _))))) (pss_one (ps_set (i := 1) sc_Reader_move_sign.nd rfl (.inl rfl) (pv 2))) pss_nil)))
        (pss_cons (ps_if (pt_cmpR op_eq (pv 1) pe_str (nomark _)) (pss_one ps_never) pss_nil)
        (pss_cons (ps_fld (pv 0) (pe_op op_plus (pe_fld (pv 0) rfl) (pe_ifExp (pt_cmpR op_eq (pv 1) pe_str (nomark _)) pe_int (pe_callB cl_len (by rfl) T.b_len (by decide +kernel) (pa_cons (pv 1) pa_nil)))) rfl)
        (pss_one (ps_fld (pv 0) (pe_wget2 T.kWORDS (by rfl) T.mWORDS (pv 1) (pv 1) ⟨rfl, rfl, rfl, rfl⟩) rfl)))))), ?_⟩
  try dsimp only [cx_K, cx_w]
  refine ws_rho (ρ' := [some _, none, none]) rfl ?_
  refine ws_resR (R' := [(p, .ins T.cReader dx (rdF cs st))]) rfl ?_
  refine ws_seq (ws_setE (.d (.str (sgInit (tk.codes ++ rest)))) ?_ ?_)
  · walk_at "go"
    have hc : cs[st.beg]? = some cs[st.beg] := List.getElem?_eq_getElem h2
    refine fIx.t (getC hc) ?_
    walk_at "go"
    have h0 : sgInit (tk.codes ++ rest) = if decide (cs[st.beg] = 37) = true then ("mod" : Str) else ("" : Str) := by
      unfold sgInit
      rw [← hd, hc]
      simp
    have h1c : decide ((cs[st.beg] : Int) = 37) = decide (cs[st.beg] = 37) := decide_eq_decide.mpr (by omega)
    rw [h0, Bool.xor_false, h1c]
    refine ⟨fun h => ?_, fun h => ?_⟩
    · rw [h]
      walk_at "go"
      exact ⟨rfl, rfl⟩
    · rw [h]
      walk_at "go"
      exact ⟨rfl, rfl⟩
  walk_at "ge"
  refine ws_seq ?_
  refine ws_forB signsL (fun s => D.str s) (sgStep (tk.codes ++ rest)) (sgInit (tk.codes ++ rest)) [2] (fun b => [some (.v (.ref p)), some (.d (.str b)), none]) (fun b => [(p, .ins T.cReader dx (rdF cs st))]) ?_ rfl (fun pre2 x post b q1 q2 => ?_) ?_
  · exact wi_seq (we_cD T.cSIGNS.dv ⟨_, fSeq.t, rfl, rfl⟩)
  · have hx : x.length ≤ 2 := signs_len x (by rw [q1]; simp)
    clear q1 q2 hpick
    walk_at "g1"
    walk_at "nm"
    cases hb : decide (b = ("" : Str)) with
    | false =>
      have e : sgStep (tk.codes ++ rest) b x = b := by unfold sgStep; rw [hb]; rfl
      rw [e]
      walk_at "go"
      rw [hb]
      walk_at "go"
      exact ⟨rfl, rfl⟩
    | true =>
      have e : sgStep (tk.codes ++ rest) b x = if decide ((tk.codes ++ rest).take x.length = sCodes x) = true then x else b := by unfold sgStep; rw [hb]; rfl
      rw [e]
      walk_at "go"
      rw [hb]
      walk_at "go"
      refine fLen.s (by omega) ?_
      walk_at "go"
      rw [show (st.beg : Int) + ((x.length : Nat) : Int) = ((st.beg + x.length : Nat) : Int) from rfl, cutMid2 (by omega) (by omega), h1, Nat.add_sub_cancel_left, mapInt]
      walk_at "go"
      refine ⟨show x.length ≤ 1000000 by omega, ?_⟩
      rw [henc]
      refine fEqD.t ?_
      rw [natMapDec, Bool.xor_false]
      refine ⟨_, rfl, fun h => ?_, fun h => ?_⟩
      · rw [h]
        walk_at "go"
        exact ⟨rfl, rfl⟩
      · rw [h]
        walk_at "go"
        exact ⟨rfl, rfl⟩
  · rw [hpick]
    walk_at "go"
    rw [Bool.xor_false]
    refine br_f r2 ?_
    walk_at "go"
    walk_at "f1"
    walk_at "s1"
    walk_at "s1"
    refine we_cut (.d (.int ((if decide (tk.raw = ("mod" : Str)) = true then 1 else tk.raw.length : Nat) : Int))) ?_ ?_
    · walk_at "go"
      rw [Bool.xor_false]
      refine ⟨fun h => ?_, fun h => ?_⟩
      · rw [h]
        walk_at "go"
        exact ⟨rfl, rfl⟩
      · rw [h]
        walk_at "go"
        refine fLen.s r4 ?_
        exact ⟨rfl, rfl⟩
    rw [r3]
    walk_at "go"
    refine ⟨rfl, ?_⟩
    walk_at "f1"
    refine we_wget2 ?_
    walk_at "s1"
    walk_at "s1"
    refine ⟨tk.raw, r, o, rfl, w1, w2, rfl, ?_⟩
    refine ⟨_, ⟨rfl, ?_⟩, rfl⟩
    show aput "word" (wAV o (.d (.str tk.raw))) _ = _
    rw [raw_word r5 w3]
    rfl
end
section
variable {P : Program} {w : World} {K : PySem.W.Frag} {mg : Str → Option Value} {base : Heap}
abbrev MV (C : Addr) : FT := Rsc C (fun _ : List Nat × Rst × List Tk => []) (fun z => rdF z.1 z.2.1) (fun z => LxS (z.1.drop z.2.1.after) z.2.2 ∧ z.2.1.after ≤ z.1.length ∧ z.1.length ≤ 1000) (fun z d fs' => d = .non ∧ ∃ st', fs' = rdF z.1 st' ∧ AtT z.1 st' z.2.2)
theorem tk_head (t : Tk) : ∃ c l, t.codes = c :: l ∧ c ≠ 9 ∧ c ≠ 32 ∧ isW c = t.wordy := by
  cases t with
  | n => exact ⟨110, [], rfl, by decide, by decide, by decide⟩
  | num v =>
    rcases h : dg v with _ | ⟨c, l⟩
    · exact absurd h (dg_ne v)
    · have hd := dg_digit (v := v) (c := c) (by rw [h]; exact List.mem_cons_self)
      refine ⟨c, l, h, by omega, by omega, ?_⟩
      unfold isW isD
      simp [hd.1, hd.2, Tk.wordy]
  | op o => cases o <;> exact ⟨_, _, rfl, by decide, by decide, by decide⟩
  | _ => exact ⟨_, _, rfl, by decide, by decide, by decide⟩
theorem ok_Reader_move (T : Txt K w mg) : FnOk P w K mg base CX0 4 T.Reader_move.f T.Reader_move.fd P_Reader_move (spG K (MV T.cReader)) := by
  refine okRsc T.Reader_move.F sc_Reader_move (fun x => rfl) fun cdv A outer s H E z p dx hr pre => ?_
  obtain ⟨cs, st, ts⟩ := z
  obtain ⟨h1, h2, h3⟩ := pre
  have h1 : LxS (cs.drop st.after) ts := h1
  have h2 : st.after ≤ cs.length := h2
  have h3 : cs.length ≤ 1000 := h3
  have hu := hu_of hr
  have c1 := T.clReader
  have n1 := T.nReader_codes
  have n2 := T.nReader_after
  have n3 := T.nReader_word
  have n4 := T.nReader_number
  have n5 := T.nReader_begin
  obtain ⟨k, r, hk, hh, ht⟩ : ∃ k r, cs.drop st.after = List.replicate k 32 ++ r ∧ (∀ c, r.head? = some c → c ≠ 9 ∧ c ≠ 32) ∧ (ts = [] ∧ r = [] ∨ ∃ t ts' rest, ts = t :: ts' ∧ r = t.codes ++ rest ∧ stops t rest ∧ LxS rest ts') := by
    cases ts with
    | nil =>
      obtain ⟨k, hk⟩ := h1
      exact ⟨k, [], by rw [hk, List.append_nil], fun c h => (by cases h), .inl ⟨rfl, rfl⟩⟩
    | cons t ts' =>
      obtain ⟨k, rest, hk, hs, hl⟩ := h1
      refine ⟨k, t.codes ++ rest, hk, fun c h => ?_, .inr ⟨t, ts', rest, rfl, rfl, hs, hl⟩⟩
      obtain ⟨c', l, e, g1, g2, _⟩ := tk_head t
      rw [e] at h
      cases h
      exact ⟨g1, g2⟩
  have hlen : cs.length = st.after + (k + r.length) := by
    have := congrArg List.length hk
    rw [List.length_drop, List.length_append, List.length_replicate] at this
    omega
  have hat : ∀ j, cs[st.after + j]? = (List.replicate k 32 ++ r)[j]? := fun j => by rw [← hk, List.getElem?_drop]
  have hll : ((cs.map fun c => D.int (c : Nat)).length : Int) = ((st.after + (k + r.length) : Nat) : Int) := by rw [List.length_map, hlen]
  clear h1
  refine ⟨_, (pss_cons (ps_while PassesOwn.never (PW.pt (pw_and (pt_cmpR op_lt (pe_fld (pv 0) rfl) (pe_callB cl_len (by rfl) T.b_len (by decide +kernel) (pa_cons (pe_fld (pv 0) rfl) pa_nil)) (nomark _)) (pw_and1 (pt_cmpR op_in_seq (pe_ix ix_seq (pe_fld (pv 0) rfl) (pe_fld (pv 0) rfl) (fun _ _ => rfl)) (pe_tup (pa_cons pe_int (pa_cons pe_int pa_nil))) (by with_unfolding_all rfl))))) (pss_one (ps_fld (pv 0) (pe_op op_plus (pe_fld (pv 0) rfl) pe_int) rfl)))
        (pss_cons (ps_fld (pv 0) (pe_fld (pv 0) rfl) rfl)
        (pss_one (ps_if (pt_cmpR op_eq (pe_fld (pv 0) rfl) (pe_callB cl_len (by rfl) T.b_len (by decide +kernel) (pa_cons (pe_fld (pv 0) rfl) pa_nil)) (nomark _)) (pss_one (ps_fld (pv 0) pe_str rfl)) (pss_one (ps_if (pt_val (pe_call (ok_is_word_code T) (hr.mono (by omega)) (by rfl) T.is_word_code.m T.is_word_code.F.kp T.is_word_code.b .nil pass0 (pa_cons (pe_ix ix_seq (pe_fld (pv 0) rfl) (pe_fld (pv 0) rfl) (fun _ _ => rfl)) pa_nil))) (pss_one (ps_expr (pe_meth0 (pv 0) T.clReader T.Reader_move_word.mt (ok_Reader_move_word T) (hr.mono (by omega)) T.Reader_move_word.b .nil pass0))) (pss_one (ps_expr (pe_meth0 (pv 0) T.clReader T.Reader_move_sign.mt (ok_Reader_move_sign T) (hr.mono (by omega)) T.Reader_move_sign.b .nil pass0))))))))), ?_⟩
  try dsimp only [cx_K, cx_w]
  refine ws_rho (ρ' := [some _]) rfl ?_
  refine ws_seq ?_
  refine ws_while (fun m ρ' R' => ∃ j, j + m = k ∧ ρ' = [some (.v (.ref p))] ∧ R' = [(p, .ins T.cReader dx (rdF cs { st with after := st.after + j }))]) k ⟨0, by omega, rfl, rfl⟩ fun m ρ' R' ⟨j, e1, e2, e3⟩ => ?_
  subst e2
  subst e3
  refine wt_cut (decide (0 < m)) ?_ ⟨fun hb => ?_, fun hb => ?_⟩
  · rcases m with _ | m
    · have hj : j = k := by omega
      subst hj
      walk_at "go"
      cases hr2 : r with
      | nil =>
        refine br_f (decide_eq_false (by rw [hll, hr2]; show ¬ (((st.after + j : Nat) : Int) < _); simp)) ?_
        exact ⟨rfl, rfl⟩
      | cons c rest2 =>
        have hc : cs[st.after + j]? = some c := by rw [hat, hr2, List.getElem?_append_right (by simp)]; simp
        have hcw := hh c (by rw [hr2]; rfl)
        refine br_t (decide_eq_true (by rw [hll, hr2]; show ((st.after + j : Nat) : Int) < _; simp only [List.length_cons]; omega)) ?_
        walk_at "go"
        refine fIx.t (getC hc) ?_
        walk_at "go"
        refine ⟨?_, rfl⟩
        show inV (V.int c) ([9, 32].map .int) = false
        rw [inV_ints]
        refine decide_eq_false ?_
        simp only [List.mem_cons, List.not_mem_nil, or_false]
        omega
    · have hj : j < k := by omega
      have hc : cs[st.after + j]? = some 32 := by rw [hat, List.getElem?_append_left (by simpa using hj), List.getElem?_replicate, if_pos hj]
      walk_at "go"
      refine br_t (decide_eq_true (by rw [hll]; show ((st.after + j : Nat) : Int) < _; omega)) ?_
      walk_at "go"
      refine fIx.t (getC hc) ?_
      walk_at "go"
      exact ⟨rfl, rfl⟩
  · have hb : 0 < m := of_decide_eq_true hb
    walk_at "f1"
    walk_at "go"
    exact ⟨rfl, m - 1, _, by omega, Le.refl _, j + 1, by omega, rfl, rfl⟩
  · have hb : m = 0 := by have := of_decide_eq_false hb; omega
    have hj : j = k := by omega
    subst hj
    walk_at "s1"
    walk_at "f1"
    walk_at "go"
    refine ⟨rfl, ?_⟩
    refine ws_resR (R' := [(p, .ins T.cReader dx (rdF cs { st with after := st.after + j, beg := st.after + j }))]) rfl ?_
    walk_at "go"
    rw [hll, Bool.xor_false]
    rcases ht with ⟨rfl, rfl⟩ | ⟨t, ts', rest, rfl, rfl, hs, hl⟩
    · refine br_t (decide_eq_true (by simp)) ?_
      walk_at "f1"
      walk_at "go"
      exact ⟨rfl, _, ⟨rfl, { st with after := st.after + j, beg := st.after + j, word := "end" }, rfl, rfl⟩, rfl⟩
    · obtain ⟨c, l, he, g1, g2, g3⟩ := tk_head t
      have hc : cs[st.after + j]? = some c := by rw [hat, List.getElem?_append_right (by simp), he]; simp
      have hdr : cs.drop (st.after + j) = t.codes ++ rest := by
        rw [← List.drop_drop, hk, List.drop_left' (by simp)]
      have hdr2 : cs.drop (st.after + j + t.codes.length) = rest := by
        rw [← List.drop_drop, hdr, List.drop_left' rfl]
      have hlt : st.after + j < cs.length := by
        rw [hlen, he]
        simp
      refine br_f (decide_eq_false (by rw [he]; simp only [List.cons_append, List.length_cons]; omega)) ?_
      walk_at "go"
      refine fIx.t (getC hc) ?_
      walk_at "go"
      refine ⟨trivial, ?_⟩
      rw [g3]
      cases hw : t.wordy with
      | true =>
        walk_at "go"
        refine we_meth1 rfl rfl ?_
        walk_at "go"
        refine ⟨rfl, (cs, { st with after := st.after + j, beg := st.after + j }, t, rest), rfl, rfl, ⟨hdr, hlt, rfl, hw, hs, h3⟩, fun d fs' ⟨e1, v, e2, e3⟩ => ?_⟩
        refine ⟨_, ⟨rfl, _, e3, rfl, ?_, ?_, ?_⟩, rfl⟩
        · intro n hn
          exact e2 n hn
        · show st.after + j + t.codes.length ≤ cs.length
          rw [hlen, List.length_append]
          omega
        · show LxS (cs.drop (st.after + j + t.codes.length)) ts'
          rw [hdr2]
          exact hl
      | false =>
        walk_at "go"
        refine we_meth1 rfl rfl ?_
        walk_at "go"
        refine ⟨rfl, (cs, { st with after := st.after + j, beg := st.after + j }, t, rest), rfl, rfl, ⟨hdr, hlt, hw, hs, h3⟩, fun d fs' ⟨e1, e3⟩ => ?_⟩
        refine ⟨_, ⟨rfl, _, e3, rfl, ?_, ?_, ?_⟩, rfl⟩
        · intro n hn
          rw [hn] at hw
          cases hw
        · show st.after + j + t.codes.length ≤ cs.length
          rw [hlen, List.length_append]
          omega
        · show LxS (cs.drop (st.after + j + t.codes.length)) ts'
          rw [hdr2]
          exact hl
/-! the reader is made -/
abbrev RI (C : Addr) : FT := Rsc C (fun z : List Nat × List Tk => [encC z.1]) (fun _ => []) (fun z => LxS z.1 z.2 ∧ z.1.length ≤ 1000) (fun z d fs' => d = .non ∧ ∃ st', fs' = rdF z.1 st' ∧ AtT z.1 st' z.2)
theorem ok_Reader_init (T : Txt K w mg) : FnOk P w K mg base CX0 5 T.Reader_init.f T.Reader_init.fd P_Reader_init (spG K (RI T.cReader)) := by
  refine okRsc T.Reader_init.F sc_Reader_init (fun x => rfl) fun cdv A outer s H E z p dx hr pre => ?_
  obtain ⟨cs, ts⟩ := z
  obtain ⟨h1, h3⟩ := pre
  have h1 : LxS cs ts := h1
  have h3 : cs.length ≤ 1000 := h3
  have hu := hu_of hr
  have c1 := T.clReader
  have n1 := T.nReader_codes
  have n2 := T.nReader_after
  have n3 := T.nReader_word
  have n4 := T.nReader_number
  have n5 := T.nReader_begin
  refine ⟨_, (pss_cons (ps_fld (pv 0) (pv 1) rfl)
        (pss_cons (ps_fld (pv 0) pe_int rfl)
        (pss_cons (ps_fld (pv 0) pe_str rfl)
        (pss_cons (ps_fld (pv 0) pe_int rfl)
        (pss_cons (ps_fld (pv 0) pe_int rfl)
        (pss_one (ps_expr (pe_meth0 (pv 0) T.clReader T.Reader_move.mt (ok_Reader_move T) (hr.mono (by omega)) T.Reader_move.b .nil pass0)))))))), ?_⟩
  try dsimp only [cx_K, cx_w]
  refine ws_rho (ρ' := [some _, some _]) rfl ?_
  walk_at "go"
  walk_at "f1"
  walk_at "go"
  refine ⟨rfl, ?_⟩
  walk_at "go"
  walk_at "f1"
  walk_at "go"
  refine ⟨rfl, ?_⟩
  walk_at "go"
  walk_at "f1"
  walk_at "go"
  refine ⟨rfl, ?_⟩
  walk_at "go"
  walk_at "f1"
  walk_at "go"
  refine ⟨rfl, ?_⟩
  walk_at "go"
  walk_at "f1"
  walk_at "go"
  refine ⟨rfl, ?_⟩
  refine ws_resR (R' := [(p, .ins T.cReader dx (rdF cs { after := 0, word := "", num := 0, beg := 0 }))]) rfl ?_
  walk_at "go"
  refine we_meth1 rfl rfl ?_
  walk_at "go"
  refine ⟨rfl, (cs, { after := 0, word := "", num := 0, beg := 0 }, ts), rfl, rfl, ⟨h1, Nat.zero_le _, h3⟩, fun d fs' ⟨e1, st', e2, e3⟩ => ?_⟩
  exact ⟨_, ⟨rfl, st', e2, e3⟩, rfl⟩
end
section
/-! ### written trees, plain -/
def opRank : Op → Nat
  | .or => 1 | .and => 2 | .eq => 3 | .ne => 3 | .lt => 4 | .gt => 4 | .le => 4 | .ge => 4 | .add => 5 | .sub => 5 | .mul => 6 | .div => 6 | .mod => 6
def rk : Tr → Nat
  | .ite _ _ _ => 0
  | .bin o _ _ => opRank o
  | .not _ => 7
  | .n => 9
  | .num _ => 9
def brk (l r : Nat) (ts : List Tk) : List Tk := if l ≤ r then ts else .lp :: (ts ++ [.rp])
def tks : Tr → List Tk
  | .n => [.n]
  | .num v => [.num v.toNat]
  | .not a => .bang :: brk 7 (rk a) (tks a)
  | .ite a b c => brk 1 (rk a) (tks a) ++ .qm :: (brk 0 (rk b) (tks b) ++ .col :: brk 0 (rk c) (tks c))
  | .bin o a b => brk (opRank o) (rk a) (tks a) ++ .op o :: brk (opRank o + 1) (rk b) (tks b)
def wi (t : Tr) (l : Nat) : List Tk := brk l (rk t) (tks t)
def Tk.isOp : Tk → Nat → Bool
  | .op o, k => decide (opRank o = k + 1)
  | _, _ => false
def stopL (k : Nat) (F : List Tk) : Prop := ∀ t, F.head? = some t → ∀ j, k ≤ j → t.isOp j = false
def stopC (F : List Tk) : Prop := stopL 0 F ∧ F.head? ≠ some .qm
def spine (k : Nat) : Tr → Tr × List (Op × Tr)
  | .bin o a b => if opRank o = k + 1 then ((spine k a).1, (spine k a).2 ++ [(o, b)]) else (.bin o a b, [])
  | t => (t, [])
def spTok (k : Nat) (p : Op × Tr) : List Tk := .op p.1 :: wi p.2 (k + 2)
def spAcc (a : Tr) (p : Op × Tr) : Tr := .bin p.1 a p.2
theorem wi_in {t : Tr} {l : Nat} (h : l ≤ rk t) : wi t l = tks t := by unfold wi brk; rw [if_pos h]
theorem wi_out {t : Tr} {l : Nat} (h : ¬ l ≤ rk t) : wi t l = .lp :: (tks t ++ [.rp]) := by unfold wi brk; rw [if_neg h]
theorem wi_ne {t : Tr} {k : Nat} (h : rk t ≠ k + 1) : wi t (k + 1) = wi t (k + 2) := by
  by_cases h1 : k + 1 ≤ rk t
  · rw [wi_in h1, wi_in (by omega)]
  · rw [wi_out h1, wi_out (by omega)]
theorem spine_all (k : Nat) (hk : k ≤ 5) : ∀ t : Tr, wi t (k + 1) = wi (spine k t).1 (k + 2) ++ (spine k t).2.flatMap (spTok k) ∧ (spine k t).2.foldl spAcc (spine k t).1 = t ∧ rk (spine k t).1 ≠ k + 1 ∧ ht (spine k t).1 ≤ ht t ∧ ∀ p ∈ (spine k t).2, opRank p.1 = k + 1 ∧ ht p.2 < ht t
  | .n => by
    have h : rk .n ≠ k + 1 := by simp only [rk]; omega
    exact ⟨by rw [wi_ne h]; simp [spine], rfl, h, Nat.le_refl _, by simp [spine]⟩
  | .num v => by
    have h : rk (.num v) ≠ k + 1 := by simp only [rk]; omega
    exact ⟨by rw [wi_ne h]; simp [spine], rfl, h, Nat.le_refl _, by simp [spine]⟩
  | .not a => by
    have h : rk (.not a) ≠ k + 1 := by simp only [rk]; omega
    exact ⟨by rw [wi_ne h]; simp [spine], rfl, h, Nat.le_refl _, by simp [spine]⟩
  | .ite a b c => by
    have h : rk (.ite a b c) ≠ k + 1 := by simp only [rk]; omega
    exact ⟨by rw [wi_ne h]; simp [spine], rfl, h, Nat.le_refl _, by simp [spine]⟩
  | .bin o a b => by
    by_cases ho : opRank o = k + 1
    · obtain ⟨i1, i2, i3, i4, i5⟩ := spine_all k hk a
      have e : spine k (.bin o a b) = ((spine k a).1, (spine k a).2 ++ [(o, b)]) := by
        show (if opRank o = k + 1 then _ else _) = _
        rw [if_pos ho]
      have hh : ht (.bin o a b) = max (ht a) (ht b) + 1 := rfl
      rw [e]
      refine ⟨?_, ?_, i3, by show ht (spine k a).1 ≤ _; omega, fun p hp => ?_⟩
      · rw [wi_in (show k + 1 ≤ rk (.bin o a b) by simp only [rk]; omega)]
        show brk (opRank o) (rk a) (tks a) ++ .op o :: brk (opRank o + 1) (rk b) (tks b) = _
        rw [ho]
        show wi a (k + 1) ++ .op o :: wi b (k + 2) = _
        rw [i1, List.flatMap_append, List.append_assoc]
        simp [spTok]
      · rw [List.foldl_append, i2]
        rfl
      · rcases List.mem_append.mp hp with h | h
        · have := i5 p h
          exact ⟨this.1, by omega⟩
        · rw [List.mem_singleton.mp h]
          exact ⟨ho, by show ht b < _; omega⟩
    · have e : spine k (.bin o a b) = (.bin o a b, []) := by
        show (if opRank o = k + 1 then _ else _) = _
        rw [if_neg ho]
      have h : rk (.bin o a b) ≠ k + 1 := ho
      rw [e]
      exact ⟨by rw [wi_ne h]; simp, rfl, h, Nat.le_refl _, by simp⟩
def costO (t : Tr) : Nat := 20 * ht t + (if rk t < 7 then 10 else 0)
def costL (k : Nat) (t : Tr) : Nat := 20 * ht t + (if rk t < k + 1 then 10 else 0) + (7 - k)
def costC (t : Tr) : Nat := 20 * ht t + 9
def lvlV : Nat → List V
  | 0 => [.str "or"]
  | 1 => [.str "and"]
  | 2 => [.str "==", .str "!="]
  | 3 => [.str "<", .str ">", .str "<=", .str ">="]
  | 4 => [.str "+", .str "-"]
  | _ => [.str "*", .str "/", .str "mod"]
theorem lvl_in (k : Nat) (hk : k ≤ 5) (t : Tk) : inV (V.str t.word) (lvlV k) = t.isOp k := by
  rcases (show k = 0 ∨ k = 1 ∨ k = 2 ∨ k = 3 ∨ k = 4 ∨ k = 5 by omega) with rfl | rfl | rfl | rfl | rfl | rfl <;>
  (cases t with
  | op o => cases o <;> decide +kernel
  | n => decide +kernel
  | num v => (show inV (V.str "number") _ = false); decide +kernel
  | _ => decide +kernel)
theorem lvl_end (k : Nat) (hk : k ≤ 5) : inV (V.str "end") (lvlV k) = false := by
  rcases (show k = 0 ∨ k = 1 ∨ k = 2 ∨ k = 3 ∨ k = 4 ∨ k = 5 by omega) with rfl | rfl | rfl | rfl | rfl | rfl <;> decide +kernel
def hdWord : List Tk → Str
  | [] => "end"
  | t :: _ => t.word
theorem at_word {cs : List Nat} {st : Rst} {ts : List Tk} (h : AtT cs st ts) : st.word = hdWord ts := by
  cases ts with
  | nil => exact h
  | cons t ts => exact h.1
theorem lvl_hd (k : Nat) (hk : k ≤ 5) (F : List Tk) (h : stopL k F) : inV (V.str (hdWord F)) (lvlV k) = false := by
  cases F with
  | nil => exact lvl_end k hk
  | cons t F => rw [hdWord, lvl_in k hk]; exact h t rfl k (Nat.le_refl _)
/-- all numbers at least 0 -/
def nnum : Tr → Bool
  | .n => true
  | .num v => decide (0 ≤ v)
  | .not a => nnum a
  | .ite a b c => nnum a && nnum b && nnum c
  | .bin _ a b => nnum a && nnum b
theorem nnum_spine (k : Nat) : ∀ t : Tr, nnum t = true → nnum (spine k t).1 = true ∧ ∀ p ∈ (spine k t).2, nnum p.2 = true
  | .n, h => ⟨h, by simp [spine]⟩
  | .num v, h => ⟨h, by simp [spine]⟩
  | .not a, h => ⟨h, by simp [spine]⟩
  | .ite a b c, h => ⟨h, by simp [spine]⟩
  | .bin o a b, h => by
    have h2 : nnum a = true ∧ nnum b = true := by simpa [nnum] using h
    obtain ⟨i1, i2⟩ := nnum_spine k a h2.1
    show nnum (if opRank o = k + 1 then ((spine k a).1, (spine k a).2 ++ [(o, b)]) else (.bin o a b, [])).1 = true ∧ ∀ p ∈ (if opRank o = k + 1 then ((spine k a).1, (spine k a).2 ++ [(o, b)]) else (Tr.bin o a b, [])).2, nnum p.2 = true
    split
    · refine ⟨i1, fun p hp => ?_⟩
      rcases List.mem_append.mp hp with h | h
      · exact i2 p h
      · rw [List.mem_singleton.mp h]
        exact h2.2
    · exact ⟨h, by simp⟩
end
section
variable {P : Program} {w : World} {K : PySem.W.Frag} {mg : Str → Option Value} {base : Heap}
/-! ### the parser, walked -/
abbrev PIn := List Nat × Rst × Tr × List Tk
def b01 (l r : Nat) : Int := if r < l then 1 else 0
theorem b01_le (l r : Nat) : b01 l r ≤ 1 := by unfold b01; split <;> omega
theorem b01_zero {l r : Nat} (h : l ≤ r) : b01 l r = 0 := by unfold b01; rw [if_neg (by omega)]
theorem b01_one {l r : Nat} (h : r < l) : b01 l r = 1 := by unfold b01; rw [if_pos h]
def pOut (cs : List Nat) (t : Tr) (F : List Tk) (e : Int) (D0 : D) (fs' : List (Str × AV)) : Prop := ∃ (st' : Rst) (d : Int) (wd : Str), D0 = .tup [encTr t, .int d, .str wd] ∧ d ≤ 2 * (ht t : Int) + e ∧ fs' = rdF cs st' ∧ AtT cs st' F
abbrev CH (C : Addr) (n : Nat) : FT := Rsc C (fun _ : PIn => []) (fun z => rdF z.1 z.2.1) (fun z => AtT z.1 z.2.1 (wi z.2.2.1 0 ++ z.2.2.2) ∧ z.1.length ≤ 1000 ∧ nnum z.2.2.1 = true ∧ stopC z.2.2.2 ∧ costC z.2.2.1 < n) (fun z d fs' => pOut z.1 z.2.2.1 z.2.2.2 0 d fs')
abbrev LV (C : Addr) (n : Nat) : FT := Rsc C (fun z : Nat × PIn => [.int (z.1 : Nat)]) (fun z => rdF z.2.1 z.2.2.1) (fun z => AtT z.2.1 z.2.2.1 (wi z.2.2.2.1 (z.1 + 1) ++ z.2.2.2.2) ∧ z.2.1.length ≤ 1000 ∧ nnum z.2.2.2.1 = true ∧ stopL z.1 z.2.2.2.2 ∧ z.1 ≤ 6 ∧ costL z.1 z.2.2.2.1 < n) (fun z d fs' => pOut z.2.1 z.2.2.2.1 z.2.2.2.2 (b01 (z.1 + 1) (rk z.2.2.2.1)) d fs')
abbrev OPD (C : Addr) (n : Nat) : FT := Rsc C (fun _ : PIn => []) (fun z => rdF z.1 z.2.1) (fun z => AtT z.1 z.2.1 (wi z.2.2.1 7 ++ z.2.2.2) ∧ z.1.length ≤ 1000 ∧ nnum z.2.2.1 = true ∧ costO z.2.2.1 < n) (fun z d fs' => pOut z.1 z.2.2.1 z.2.2.2 (b01 7 (rk z.2.2.1)) d fs')
theorem hd_ne {F : List Tk} (h : F.head? ≠ some .qm) : decide (hdWord F = ("?" : Str)) = false := by
  cases F with
  | nil => decide +kernel
  | cons t F =>
    cases t with
    | qm => exact absurd rfl h
    | op o => (show decide (o.str = ("?" : Str)) = false); cases o <;> decide +kernel
    | num v => (show decide (("number" : Str) = "?") = false); decide +kernel
    | n => (show decide (("n" : Str) = "?") = false); decide +kernel
    | lp => (show decide (("(" : Str) = "?") = false); decide +kernel
    | rp => (show decide ((")" : Str) = "?") = false); decide +kernel
    | col => (show decide ((":" : Str) = "?") = false); decide +kernel
    | bang => (show decide (("!" : Str) = "?") = false); decide +kernel
theorem rc_choice (T : Txt K w mg) (n : Nat) (ih_Reader_choice : FnOk P w K mg base CX0 (n + 5) T.Reader_choice.f T.Reader_choice.fd P_Reader_choice (spG K (CH T.cReader n))) (ih_Reader_level : FnOk P w K mg base CX0 (n + 5) T.Reader_level.f T.Reader_level.fd P_Reader_level (spG K (LV T.cReader n))) : FnOk P w K mg base CX0 (n + 1 + 5) T.Reader_choice.f T.Reader_choice.fd P_Reader_choice (spG K (CH T.cReader (n + 1))) := by
  refine okRsc T.Reader_choice.F sc_Reader_choice (fun x => rfl) fun cdv A outer s H E z p dx hr pre => ?_
  obtain ⟨cs, st, t, F⟩ := z
  obtain ⟨h1, h2, h3, h4, h5⟩ := pre
  have h1 : AtT cs st (wi t 0 ++ F) := h1
  have h2 : cs.length ≤ 1000 := h2
  have h3 : nnum t = true := h3
  have h4 : stopC F := h4
  have h5 : costC t < n + 1 := h5
  have hu := hu_of hr
  have c1 := T.clReader
  have n1 := T.nReader_codes
  have n2 := T.nReader_after
  have n3 := T.nReader_word
  have n4 := T.nReader_number
  have n5 := T.nReader_begin
  refine ⟨_, (pss_cons (ps_asg (pe_meth (pv 0) T.clReader T.Reader_level.mt ih_Reader_level (hr.mono (by omega)) T.Reader_level.b .nil pass0 (pa_cons pe_int pa_nil)) (pg_tup (n := 3) rfl (pgs_cons (pg_name (i := 1) sc_Reader_choice.nd rfl (.inl rfl)) (pgs_cons (pg_name (i := 2) sc_Reader_choice.nd rfl (.inl rfl)) (pgs_cons (pg_name (i := 3) sc_Reader_choice.nd rfl (.inl rfl)) pgs_nil)))))
        (pss_cons (ps_if (pt_cmpR op_ne (pe_fld (pv 0) rfl) pe_str (nomark _)) (pss_one (ps_ret (pe_tup (pa_cons (pv 1) (pa_cons (pv 2) (pa_cons (pv 3) pa_nil)))))) pss_nil)
        (pss_cons (ps_expr (pe_meth0 (pv 0) T.clReader T.Reader_move.mt (ok_Reader_move T) (hr.mono (by omega)) T.Reader_move.b .nil pass0))
        (pss_cons (ps_asg (pe_meth0 (pv 0) T.clReader T.Reader_choice.mt ih_Reader_choice (hr.mono (by omega)) T.Reader_choice.b .nil pass0) (pg_tup (n := 3) rfl (pgs_cons (pg_name (i := 4) sc_Reader_choice.nd rfl (.inl rfl)) (pgs_cons (pg_name (i := 5) sc_Reader_choice.nd rfl (.inl rfl)) (pgs_cons (pg_name (i := 6) sc_Reader_choice.nd rfl (.inl rfl)) pgs_nil)))))
        (pss_cons (ps_if (pt_cmpR op_ne (pe_fld (pv 0) rfl) pe_str (nomark _)) (pss_one ps_never) pss_nil)
        (pss_cons (ps_expr (pe_meth0 (pv 0) T.clReader T.Reader_move.mt (ok_Reader_move T) (hr.mono (by omega)) T.Reader_move.b .nil pass0))
        (pss_cons (ps_asg (pe_meth0 (pv 0) T.clReader T.Reader_choice.mt ih_Reader_choice (hr.mono (by omega)) T.Reader_choice.b .nil pass0) (pg_tup (n := 3) rfl (pgs_cons (pg_name (i := 7) sc_Reader_choice.nd rfl (.inl rfl)) (pgs_cons (pg_name (i := 8) sc_Reader_choice.nd rfl (.inl rfl)) (pgs_cons (pg_name (i := 9) sc_Reader_choice.nd rfl (.inl rfl)) pgs_nil)))))
        (pss_cons (ps_set (i := 2) sc_Reader_choice.nd rfl (.inl rfl) (pe_callB (cl_max3 rfl) (by rfl) T.b_max (by decide +kernel) (pa_cons (pv 2) (pa_cons (pe_op op_plus (pv 5) (pe_callTy cl_int (by rfl) T.b_int (by decide +kernel) (pa_cons (pe_cmpR op_eq (pv 6) pe_str (nomark _)) pa_nil))) (pa_cons (pv 8) pa_nil)))))
        (pss_one (ps_ret (pe_tup (pa_cons (pe_tup (pa_cons pe_str (pa_cons (pv 1) (pa_cons (pv 4) (pa_cons (pv 7) pa_nil))))) (pa_cons (pv 2) (pa_cons pe_str pa_nil)))))))))))))), ?_⟩
  try dsimp only [cx_K, cx_w]
  refine ws_rho (ρ' := [some _, none, none, none, none, none, none, none, none, none]) rfl ?_
  refine ws_resR (R' := [(p, .ins T.cReader dx (rdF cs st))]) rfl ?_
  by_cases hi : rk t = 0
  · obtain ⟨a, b, c, rfl⟩ : ∃ a b c, t = .ite a b c := by
      cases t with
      | ite a b c => exact ⟨a, b, c, rfl⟩
      | bin o a b => cases o <;> cases hi
      | _ => cases hi
    have hn : nnum a = true ∧ nnum b = true ∧ nnum c = true := by simpa [nnum, and_assoc] using h3
    have hh : ht (.ite a b c) = max (max (ht a) (ht b)) (ht c) + 1 := rfl
    have hcost : costC (.ite a b c) = 20 * ht (.ite a b c) + 9 := rfl
    refine ws_seq (ws_asg (we_meth1 rfl rfl ?_))
    walk_at "go"
    refine ⟨rfl, (0, cs, st, a, .qm :: (wi b 0 ++ .col :: (wi c 0 ++ F))), rfl, rfl, ⟨?_, h2, hn.1, ?_, by omega, ?_⟩, fun d fs' ⟨st1, da, wa, e1, e2, e3, e4⟩ => ?_⟩
    · show AtT cs st (wi a 1 ++ .qm :: (wi b 0 ++ .col :: (wi c 0 ++ F)))
      have e : wi (.ite a b c) 0 ++ F = wi a 1 ++ .qm :: (wi b 0 ++ .col :: (wi c 0 ++ F)) := by
        rw [wi_in (Nat.zero_le _)]
        show (wi a 1 ++ .qm :: (wi b 0 ++ .col :: wi c 0)) ++ F = _
        simp
      rw [← e]
      exact h1
    · intro t ht j _
      cases ht
      rfl
    · show costL 0 a < n
      unfold costL
      split <;> omega
    subst e1
    subst e3
    walk_at "g3"
    walk_at "nm"
    walk_at "go"
    rw [e4.1]
    walk_at "go"
    refine we_meth1 rfl rfl ?_
    walk_at "go"
    refine ⟨rfl, (cs, st1, wi b 0 ++ .col :: (wi c 0 ++ F)), rfl, rfl, ⟨e4.2.2.2, e4.2.2.1, h2⟩, fun d fs' ⟨q1, st2, q2, q3⟩ => ?_⟩
    subst q2
    refine ws_seq (ws_asg (we_meth1 rfl rfl ?_))
    walk_at "go"
    refine ⟨rfl, (cs, st2, b, .col :: (wi c 0 ++ F)), rfl, rfl, ⟨q3, h2, hn.2.1, ⟨?_, by simp⟩, ?_⟩, fun d fs' ⟨st3, db, wb, f1, f2, f3, f4⟩ => ?_⟩
    · intro t ht j _
      cases ht
      rfl
    · show costC b < n
      unfold costC at *
      omega
    subst f1
    subst f3
    walk_at "g3"
    walk_at "nm"
    walk_at "go"
    rw [f4.1]
    walk_at "go"
    refine we_meth1 rfl rfl ?_
    walk_at "go"
    refine ⟨rfl, (cs, st3, wi c 0 ++ F), rfl, rfl, ⟨f4.2.2.2, f4.2.2.1, h2⟩, fun d fs' ⟨q4, st4, q5, q6⟩ => ?_⟩
    subst q5
    refine ws_seq (ws_asg (we_meth1 rfl rfl ?_))
    walk_at "go"
    refine ⟨rfl, (cs, st4, c, F), rfl, rfl, ⟨q6, h2, hn.2.2, h4, ?_⟩, fun d fs' ⟨st5, dc, wc, g1, g2, g3, g4⟩ => ?_⟩
    · show costC c < n
      unfold costC at *
      omega
    subst g1
    subst g3
    walk_at "g3"
    walk_at "nm"
    walk_at "go"
    have e2 : da ≤ 2 * (ht a : Int) + b01 1 (rk a) := e2
    have f2 : db ≤ 2 * (ht b : Int) + 0 := f2
    have g2 : dc ≤ 2 * (ht c : Int) + 0 := g2
    have := b01_le 1 (rk a)
    refine ⟨_, ⟨st5, _, _, rfl, ?_, rfl, g4⟩, rfl⟩
    rw [hh]
    split <;> omega
  · have hq : decide (hdWord F = ("?" : Str)) = false := hd_ne h4.2
    refine ws_seq (ws_asg (we_meth1 rfl rfl ?_))
    walk_at "go"
    refine ⟨rfl, (0, cs, st, t, F), rfl, rfl, ⟨?_, h2, h3, h4.1, by omega, ?_⟩, fun d fs' ⟨st', dd, wd, e1, e2, e3, e4⟩ => ?_⟩
    · show AtT cs st (wi t 1 ++ F)
      rw [wi_in (by omega), ← wi_in (t := t) (l := 0) (by omega)]
      exact h1
    · show costL 0 t < n
      unfold costL costC at *
      rw [if_neg (by omega)]
      omega
    · subst e1
      subst e3
      walk_at "g3"
      walk_at "nm"
      walk_at "go"
      rw [at_word e4, hq]
      walk_at "go"
      have e2 : dd ≤ 2 * (ht t : Int) + b01 1 (rk t) := e2
      rw [b01_zero (by omega)] at e2
      exact ⟨_, ⟨st', dd, wd, rfl, e2, rfl, e4⟩, rfl⟩
def lvlS : Nat → List Str
  | 0 => ["or"]
  | 1 => ["and"]
  | 2 => ["==", "!="]
  | 3 => ["<", ">", "<=", ">="]
  | 4 => ["+", "-"]
  | _ => ["*", "/", "mod"]
def lvlD (k : Nat) : D := .tup ((lvlS k).map .str)
theorem lvl_flat (k : Nat) (hk : k ≤ 5) : flatAs ((lvlS k).map .str) = some (lvlV k) := by
  rcases (show k = 0 ∨ k = 1 ∨ k = 2 ∨ k = 3 ∨ k = 4 ∨ k = 5 by omega) with rfl | rfl | rfl | rfl | rfl | rfl <;> rfl
theorem lvl_at {Φ : AV → Prop} (k : Nat) (hk : k ≤ 5) (h : Φ (.d (lvlD k))) : fIx (.d dLEVELS) (.d (.int (k : Nat))) Φ := by
  refine fIx.t (d := lvlD k) ?_ h
  rcases (show k = 0 ∨ k = 1 ∨ k = 2 ∨ k = 3 ∨ k = 4 ∨ k = 5 by omega) with rfl | rfl | rfl | rfl | rfl | rfl <;> rfl
theorem lvl_in2 {Φ : AV → Prop} {x : Str} (k : Nat) (hk : k ≤ 5) (h : Φ (.d (.bl (inV (V.str x) (lvlV k))))) : fIn false (.d (.str x)) (.d (lvlD k)) Φ := fIn.t rfl (lvl_flat k hk) h
theorem ws_setI {K : PySem.W.Frag} {ρ : AE} {R : RS} {Δ : AEnds} {te : TE} {i : Nat} (h : WE K te ρ R fun a R1 => ∃ m : Int, a = .d (.int m) ∧ m ≤ 1 ∧ R1 = R) (q : ∀ m : Int, m ≤ 1 → Δ.nx (ρ.set i (some (.d (.int m)))) R) : WS K (tAsg te (gName i)) ρ R Δ :=
  ws_set (h.mono fun a R1 ⟨m, e1, e2, e3⟩ => by subst e1; subst e3; exact q m e2)
theorem b2le (b : Bool) : (if b = true then (1 : Int) else 0) ≤ 1 := by split <;> omega
theorem costL_le (k : Nat) (t : Tr) : costL k t ≤ 20 * ht t + 17 := by unfold costL; split <;> omega
theorem costL_ge (k : Nat) (t : Tr) : 20 * ht t ≤ costL k t := by unfold costL; split <;> omega
theorem costL_six (t : Tr) : costO t < costL 6 t := by unfold costL costO; simp only [show (rk t < 6 + 1) = (rk t < 7) from rfl]; omega
theorem spine_cost (k : Nat) (hk : k ≤ 5) (t : Tr) : costL (k + 1) (spine k t).1 < costL k t := by
  have same : rk t ≠ k + 1 → costL (k + 1) t < costL k t := fun h => by
    unfold costL
    by_cases h1 : rk t < k + 1
    · rw [if_pos h1, if_pos (by omega)]; omega
    · rw [if_neg h1, if_neg (by omega)]; omega
  obtain ⟨i1, i2, i3, i4, i5⟩ := spine_all k hk t
  cases t with
  | bin o a b =>
    by_cases ho : opRank o = k + 1
    · have e : (spine k (.bin o a b)).1 = (spine k a).1 := by
        show (if opRank o = k + 1 then ((spine k a).1, (spine k a).2 ++ [(o, b)]) else (.bin o a b, [])).1 = _
        rw [if_pos ho]
      rw [e]
      have h1 := (spine_all k hk a).2.2.2.1
      have h2 := costL_le (k + 1) (spine k a).1
      have h3 := costL_ge k (.bin o a b)
      have h4 : ht (.bin o a b) = max (ht a) (ht b) + 1 := rfl
      omega
    · have e : (spine k (.bin o a b)).1 = .bin o a b := by
        show (if opRank o = k + 1 then ((spine k a).1, (spine k a).2 ++ [(o, b)]) else (.bin o a b, [])).1 = _
        rw [if_neg ho]
      rw [e]
      exact same ho
  | _ => exact same i3
theorem rc_level (T : Txt K w mg) (n : Nat) (ih_Reader_level : FnOk P w K mg base CX0 (n + 5) T.Reader_level.f T.Reader_level.fd P_Reader_level (spG K (LV T.cReader n))) (ih_Reader_operand : FnOk P w K mg base CX0 (n + 5) T.Reader_operand.f T.Reader_operand.fd P_Reader_operand (spG K (OPD T.cReader n))) : FnOk P w K mg base CX0 (n + 1 + 5) T.Reader_level.f T.Reader_level.fd P_Reader_level (spG K (LV T.cReader (n + 1))) := by
  refine okRsc T.Reader_level.F sc_Reader_level (fun x => rfl) fun cdv A outer s H E z p dx hr pre => ?_
  obtain ⟨k, cs, st, t, F⟩ := z
  obtain ⟨h1, h2, h3, h4, h5, h6⟩ := pre
  have h1 : AtT cs st (wi t (k + 1) ++ F) := h1
  have h2 : cs.length ≤ 1000 := h2
  have h3 : nnum t = true := h3
  have h4 : stopL k F := h4
  have h5 : k ≤ 6 := h5
  have h6 : costL k t < n + 1 := h6
  have hu := hu_of hr
  have c1 := T.clReader
  have n1 := T.nReader_codes
  have n2 := T.nReader_after
  have n3 := T.nReader_word
  have n4 := T.nReader_number
  have n5 := T.nReader_begin
  refine ⟨_, (pss_cons (ps_if (pt_cmpR op_eq (pv 1) (pe_callB cl_len (by rfl) T.b_len (by decide +kernel) (pa_cons (pe_glob (v := .ref T.cLEVELS.a) (by rfl) T.cLEVELS.m rfl) pa_nil)) (nomark _)) (pss_one (ps_ret (pe_meth0 (pv 0) T.clReader T.Reader_operand.mt ih_Reader_operand (hr.mono (by omega)) T.Reader_operand.b .nil pass0))) pss_nil)
        (pss_cons (ps_asg (pe_meth (pv 0) T.clReader T.Reader_level.mt ih_Reader_level (hr.mono (by omega)) T.Reader_level.b .nil pass0 (pa_cons (pe_op op_plus (pv 1) pe_int) pa_nil)) (pg_tup (n := 3) rfl (pgs_cons (pg_name (i := 2) sc_Reader_level.nd rfl (.inl rfl)) (pgs_cons (pg_name (i := 3) sc_Reader_level.nd rfl (.inl rfl)) (pgs_cons (pg_name (i := 4) sc_Reader_level.nd rfl (.inl rfl)) pgs_nil)))))
        (pss_cons (ps_while PassesOwn.never (pt_cmpR op_in_seq (pe_fld (pv 0) rfl) (pe_ix ix_seq (pe_glob (v := .ref T.cLEVELS.a) (by rfl) T.cLEVELS.m rfl) (pv 1) (fun _ _ => rfl)) (by with_unfolding_all rfl)) (pss_cons (ps_set (i := 5) sc_Reader_level.nd rfl (.inl rfl) (pe_fld (pv 0) rfl))
        (pss_cons (ps_expr (pe_meth0 (pv 0) T.clReader T.Reader_move.mt (ok_Reader_move T) (hr.mono (by omega)) T.Reader_move.b .nil pass0))
        (pss_cons (ps_asg (pe_meth (pv 0) T.clReader T.Reader_level.mt ih_Reader_level (hr.mono (by omega)) T.Reader_level.b .nil pass0 (pa_cons (pe_op op_plus (pv 1) pe_int) pa_nil)) (pg_tup (n := 3) rfl (pgs_cons (pg_name (i := 8) sc_Reader_level.nd rfl (.inl rfl)) (pgs_cons (pg_name (i := 9) sc_Reader_level.nd rfl (.inl rfl)) (pgs_cons (pg_name (i := 10) sc_Reader_level.nd rfl (.inl rfl)) pgs_nil)))))
        (pss_cons (ps_set (i := 6) sc_Reader_level.nd rfl (.inl rfl) (pe_callTy cl_int (by rfl) T.b_int (by decide +kernel) (pa_cons (pe_and (pe_cmpR op_in_seq (pv 5) (pe_glob (v := .ref T.cCOMPARISONS.a) (by rfl) T.cCOMPARISONS.m rfl) (by with_unfolding_all rfl)) (pe_one (pe_cmpR op_in_seq (pv 4) (pe_glob (v := .ref T.cCOMPARISONS.a) (by rfl) T.cCOMPARISONS.m rfl) (by with_unfolding_all rfl)))) pa_nil)))
        (pss_cons (ps_set (i := 7) sc_Reader_level.nd rfl (.inl rfl) (pe_callTy cl_int (by rfl) T.b_int (by decide +kernel) (pa_cons (pe_and (pe_cmpR op_in_seq (pv 5) (pe_tup (pa_cons pe_str (pa_cons pe_str pa_nil))) (by with_unfolding_all rfl)) (pe_one (pe_cmpR op_in_seq (pv 10) (pe_glob (v := .ref T.cCOMPARISONS.a) (by rfl) T.cCOMPARISONS.m rfl) (by with_unfolding_all rfl)))) pa_nil)))
        (pss_one (ps_par3 (i := 2) (j := 3) (l := 4) (by rfl) sc_Reader_level.nd rfl rfl rfl (by decide) (by decide) (by decide) rfl rfl rfl (pa_cons (pe_tup (pa_cons (pv 5) (pa_cons (pv 2) (pa_cons (pv 8) pa_nil)))) (pa_cons (pe_callB (cl_max2 rfl) (by rfl) T.b_max (by decide +kernel) (pa_cons (pe_op op_plus (pv 3) (pv 6)) (pa_cons (pe_op op_plus (pv 9) (pv 7)) pa_nil))) (pa_cons (pv 5) pa_nil))) (by rfl)))))))))
        (pss_one (ps_ret (pe_tup (pa_cons (pv 2) (pa_cons (pv 3) (pa_cons (pv 4) pa_nil))))))))), ?_⟩
  try dsimp only [cx_K, cx_w]
  refine ws_rho (ρ' := [some _, some _, none, none, none, none, none, none, none, none, none]) rfl ?_
  refine ws_resR (R' := [(p, .ins T.cReader dx (rdF cs st))]) rfl ?_
  refine ws_seq (ws_if (wt_test (we_opc (we_var rfl (we_cbc (wa_cons (we_cD T.cLEVELS.dv (wa_nil (fLen.t (fEq.i ?_))))))))))
  rw [Bool.xor_false]
  by_cases hk : k = 6
  · subst hk
    walk_at "go"
    refine we_meth1 rfl rfl ?_
    walk_at "go"
    refine ⟨rfl, (cs, st, t, F), rfl, rfl, ⟨h1, h2, h3, ?_⟩, fun d fs' q => ?_⟩
    · show costO t < n
      have := costL_six t
      omega
    · exact ⟨_, rfl, _, q, rfl⟩
  · have hk5 : k ≤ 5 := by omega
    refine ⟨_, rfl, br_f (decide_eq_false (by show ¬ ((k : Int) = 6); omega)) ?_⟩
    obtain ⟨i1, i2, i3, i4, i5⟩ := spine_all k hk5 t
    obtain ⟨j1, j2⟩ := nnum_spine k t h3
    have hcb := spine_cost k hk5 t
    have hct := costL_ge k t
    rw [i1, List.append_assoc] at h1
    generalize (spine k t).1 = b0 at *
    generalize (spine k t).2 = ps at *
    walk_at "s1"
    refine ws_seq (ws_asg (we_meth1 rfl rfl ?_))
    walk_at "go"
    have stopR : ∀ rem : List (Op × Tr), (∀ q ∈ rem, opRank q.1 = k + 1) → stopL (k + 1) (rem.flatMap (spTok k) ++ F) := fun rem hrem => by
      cases rem with
      | nil => exact fun t ht j hj => h4 t ht j (by omega)
      | cons q rem =>
        intro t ht j hj
        have e : t = .op q.1 := by simpa [spTok] using ht.symm
        subst e
        show decide (opRank q.1 = j + 1) = false
        rw [hrem q List.mem_cons_self]
        exact decide_eq_false (by omega)
    refine ⟨rfl, (k + 1, cs, st, b0, ps.flatMap (spTok k) ++ F), rfl, rfl, ⟨h1, h2, j1, stopR ps fun q hq => (i5 q hq).1, by omega, ?_⟩, fun d fs' ⟨st1, da, wa, e1, e2, e3, e4⟩ => ?_⟩
    · show costL (k + 1) b0 < n
      omega
    subst e1
    subst e3
    walk_at "g3"
    walk_at "nm"
    refine ws_seq ?_
    refine ws_while (fun m ρ' R' => ∃ (done rem : List (Op × Tr)) (st' : Rst) (d : Int) (wd : Str), ps = done ++ rem ∧ m = rem.length ∧ ρ' = [some (.v (.ref p)), some (.d (.int (k : Nat))), some (.d (encTr (done.foldl spAcc b0))), some (.d (.int d)), some (.d (.str wd)), none, none, none, none, none, none] ∧ R' = [(p, .ins T.cReader dx (rdF cs st'))] ∧ d ≤ 2 * (ht (done.foldl spAcc b0) : Int) + (if done = [] then b01 (k + 2) (rk b0) else 0) ∧ AtT cs st' (rem.flatMap (spTok k) ++ F)) ps.length ⟨[], ps, st1, da, wa, rfl, rfl, rfl, rfl, e2, e4⟩ fun m ρ' R' ⟨done, rem, st2, d, wd, f1, f2, f3, f4, f5, f6⟩ => ?_
    subst f3
    subst f4
    refine wt_test (we_opc (we_fld1 rfl c1 n3 rfl (we_opc (we_cD T.cLEVELS.dv (we_var rfl (lvl_at k hk5 (lvl_in2 k hk5 ⟨_, rfl, ?_⟩)))))))
    rw [at_word f6]
    cases rem with
    | nil =>
      rw [show hdWord (([] : List (Op × Tr)).flatMap (spTok k) ++ F) = hdWord F from rfl, lvl_hd k hk5 F h4]
      walk_at "go"
      rw [List.append_nil] at f1
      subst f1
      refine ⟨_, ⟨st2, d, wd, ?_, ?_, rfl, f6⟩, rfl⟩
      · rw [i2]
      · rw [i2] at f5
        refine Int.le_trans f5 ?_
        have hz : (if ps = [] then b01 (k + 2) (rk b0) else 0) ≤ b01 (k + 1) (rk t) := by
          by_cases hp : ps = []
          · rw [if_pos hp]
            subst hp
            have : b0 = t := i2
            subst this
            unfold b01
            split <;> split <;> omega
          · rw [if_neg hp]
            unfold b01
            split <;> omega
        show _ ≤ 2 * (ht t : Int) + b01 (k + 1) (rk t)
        omega
    | cons q rem =>
      obtain ⟨o, b⟩ := q
      have hq := i5 (o, b) (by rw [f1]; simp)
      have hqn := j2 (o, b) (by rw [f1]; simp)
      have hop : (Tk.op o).isOp k = true := decide_eq_true hq.1
      have hw : hdWord (((o, b) :: rem).flatMap (spTok k) ++ F) = (Tk.op o).word := rfl
      rw [hw, lvl_in k hk5, hop]
      refine br_t rfl ?_
      have f6 : AtT cs st2 (.op o :: (wi b (k + 2) ++ (rem.flatMap (spTok k) ++ F))) := by
        have e : ((o, b) :: rem).flatMap (spTok k) ++ F = .op o :: (wi b (k + 2) ++ (rem.flatMap (spTok k) ++ F)) := by
          simp [spTok]
        rw [← e]
        exact f6
      have hwd : st2.word = o.str := f6.1
      walk_at "go"
      rw [hwd]
      refine we_meth1 rfl rfl ?_
      walk_at "go"
      refine ⟨rfl, (cs, st2, wi b (k + 2) ++ (rem.flatMap (spTok k) ++ F)), rfl, rfl, ⟨f6.2.2.2, f6.2.2.1, h2⟩, fun d2 fs' ⟨q1, st3, q2, q3⟩ => ?_⟩
      subst q2
      refine ws_seq (ws_asg (we_meth1 rfl rfl ?_))
      walk_at "go"
      refine ⟨rfl, (k + 1, cs, st3, b, rem.flatMap (spTok k) ++ F), rfl, rfl, ⟨q3, h2, hqn, stopR rem fun q hq => (i5 q (by rw [f1]; simp [hq])).1, by omega, ?_⟩, fun d3 fs' ⟨st4, db, wb, g1, g2, g3, g4⟩ => ?_⟩
      · show costL (k + 1) b < n
        have := costL_le (k + 1) b
        have : ht b < ht t := hq.2
        omega
      subst g1
      subst g3
      have g2 : db ≤ 2 * (ht b : Int) + b01 (k + 2) (rk b) := g2
      have g2b := b01_le (k + 2) (rk b)
      have f5b : (if done = [] then b01 (k + 2) (rk b0) else 0) ≤ 1 := by
        have := b01_le (k + 2) (rk b0)
        split <;> omega
      walk_at "g3"
      walk_at "nm"
      refine ws_seq (ws_setI ?_ fun more hmore => ?_)
      · walk_at "s1"
        walk_at "s1"
        refine we_andV ?_
        walk_at "ge"
        refine we_cD T.cCOMPARISONS.dv ?_
        walk_at "ge"
        refine ⟨fun h => ?_, fun h => ?_⟩
        · walk_at "ge"
          refine we_cD T.cCOMPARISONS.dv ?_
          walk_at "ge"
          exact ⟨b2le _, rfl⟩
        · walk_at "ge"
          exact ⟨b2le _, rfl⟩
      refine ws_seq (ws_setI ?_ fun extra hextra => ?_)
      · walk_at "s1"
        walk_at "s1"
        refine we_andV ?_
        walk_at "ge"
        refine ⟨fun h => ?_, fun h => ?_⟩
        · walk_at "ge"
          refine we_cD T.cCOMPARISONS.dv ?_
          walk_at "ge"
          exact ⟨b2le _, rfl⟩
        · walk_at "ge"
          exact ⟨b2le _, rfl⟩
      walk_at "nm"
      walk_at "go"
      refine ⟨rem.length, _, by rw [f2]; simp, le_awipe _ [5, 6, 7, 8, 9, 10], done ++ [(o, b)], rem, st4, max (d + more) (db + extra), o.str, by rw [f1]; simp, rfl, ?_, rfl, ?_, g4⟩
      · rw [List.foldl_append]
        rfl
      · rw [List.foldl_append]
        rw [if_neg (by simp)]
        show max (d + more) (db + extra) ≤ 2 * ((max (ht (done.foldl spAcc b0)) (ht b) + 1 : Nat) : Int) + 0
        omega
theorem rc_operand (T : Txt K w mg) (n : Nat) (ih_Reader_operand : FnOk P w K mg base CX0 (n + 5) T.Reader_operand.f T.Reader_operand.fd P_Reader_operand (spG K (OPD T.cReader n))) (ih_Reader_choice : FnOk P w K mg base CX0 (n + 5) T.Reader_choice.f T.Reader_choice.fd P_Reader_choice (spG K (CH T.cReader n))) : FnOk P w K mg base CX0 (n + 1 + 5) T.Reader_operand.f T.Reader_operand.fd P_Reader_operand (spG K (OPD T.cReader (n + 1))) := by
  refine okRsc T.Reader_operand.F sc_Reader_operand (fun x => rfl) fun cdv A outer s H E z p dx hr pre => ?_
  obtain ⟨cs, st, t, F⟩ := z
  obtain ⟨h1, h2, h3, h6⟩ := pre
  have h1 : AtT cs st (wi t 7 ++ F) := h1
  have h2 : cs.length ≤ 1000 := h2
  have h3 : nnum t = true := h3
  have h6 : costO t < n + 1 := h6
  have hu := hu_of hr
  have c1 := T.clReader
  have n1 := T.nReader_codes
  have n2 := T.nReader_after
  have n3 := T.nReader_word
  have n4 := T.nReader_number
  have n5 := T.nReader_begin
  refine ⟨_, (pss_cons (ps_par (i := 1) (j := 2) (by rfl) sc_Reader_operand.nd rfl rfl (by decide) rfl rfl (pa_cons (pe_fld (pv 0) rfl) (pa_cons (pe_fld (pv 0) rfl) pa_nil)) (by rfl))
        (pss_cons (ps_if (pt_cmpR op_notIn_seq (pv 1) (pe_tup (pa_cons pe_str (pa_cons pe_str (pa_cons pe_str (pa_cons pe_str pa_nil))))) (by with_unfolding_all rfl)) (pss_one ps_never) pss_nil)
        (pss_cons (ps_expr (pe_meth0 (pv 0) T.clReader T.Reader_move.mt (ok_Reader_move T) (hr.mono (by omega)) T.Reader_move.b .nil pass0))
        (pss_cons (ps_if (pt_cmpR op_eq (pv 1) pe_str (nomark _)) (pss_one (ps_ret (pe_tup (pa_cons (pe_tup (pa_cons pe_str pa_nil)) (pa_cons pe_int (pa_cons pe_str pa_nil)))))) pss_nil)
        (pss_cons (ps_if (pt_cmpR op_eq (pv 1) pe_str (nomark _)) (pss_one (ps_ret (pe_tup (pa_cons (pe_tup (pa_cons pe_str (pa_cons (pv 2) pa_nil))) (pa_cons pe_int (pa_cons pe_str pa_nil)))))) pss_nil)
        (pss_cons (ps_if (pt_cmpR op_eq (pv 1) pe_str (nomark _)) (pss_cons (ps_asg (pe_meth0 (pv 0) T.clReader T.Reader_operand.mt ih_Reader_operand (hr.mono (by omega)) T.Reader_operand.b .nil pass0) (pg_tup (n := 3) rfl (pgs_cons (pg_name (i := 3) sc_Reader_operand.nd rfl (.inl rfl)) (pgs_cons (pg_name (i := 4) sc_Reader_operand.nd rfl (.inl rfl)) (pgs_cons (pg_name (i := 5) sc_Reader_operand.nd rfl (.inl rfl)) pgs_nil)))))
        (pss_one (ps_ret (pe_tup (pa_cons (pe_tup (pa_cons pe_str (pa_cons (pv 3) pa_nil))) (pa_cons (pe_op op_plus (pv 4) (pe_callTy cl_int (by rfl) T.b_int (by decide +kernel) (pa_cons (pe_cmpR op_ne (pv 5) pe_str (nomark _)) pa_nil))) (pa_cons pe_str pa_nil))))))) pss_nil)
        (pss_cons (ps_asg (pe_meth0 (pv 0) T.clReader T.Reader_choice.mt ih_Reader_choice (hr.mono (by omega)) T.Reader_choice.b .nil pass0) (pg_tup (n := 3) rfl (pgs_cons (pg_name (i := 3) sc_Reader_operand.nd rfl (.inl rfl)) (pgs_cons (pg_name (i := 4) sc_Reader_operand.nd rfl (.inl rfl)) (pgs_cons (pg_name (i := 5) sc_Reader_operand.nd rfl (.inl rfl)) pgs_nil)))))
        (pss_cons (ps_if (pt_cmpR op_ne (pe_fld (pv 0) rfl) pe_str (nomark _)) (pss_one ps_never) pss_nil)
        (pss_cons (ps_expr (pe_meth0 (pv 0) T.clReader T.Reader_move.mt (ok_Reader_move T) (hr.mono (by omega)) T.Reader_move.b .nil pass0))
        (pss_one (ps_ret (pe_tup (pa_cons (pv 3) (pa_cons (pe_op op_plus (pv 4) pe_int) (pa_cons pe_str pa_nil))))))))))))))), ?_⟩
  try dsimp only [cx_K, cx_w]
  refine ws_rho (ρ' := [some _, none, none, none, none, none]) rfl ?_
  refine ws_resR (R' := [(p, .ins T.cReader dx (rdF cs st))]) rfl ?_
  by_cases hb : 7 ≤ rk t
  · rw [wi_in hb] at h1
    cases t with
    | n =>
      have h1 : AtT cs st (.n :: F) := h1
      walk_at "go"
      rw [h1.1]
      walk_at "go"
      refine we_meth1 rfl rfl ?_
      walk_at "go"
      refine ⟨rfl, (cs, st, F), rfl, rfl, ⟨h1.2.2.2, h1.2.2.1, h2⟩, fun d2 fs' ⟨q1, st3, q2, q3⟩ => ?_⟩
      subst q2
      walk_at "go"
      exact ⟨_, ⟨st3, _, _, rfl, (by show (0 : Int) ≤ 2 * ((0 : Nat) : Int) + 0; omega), rfl, q3⟩, rfl⟩
    | num v =>
      have hv : 0 ≤ v := of_decide_eq_true h3
      have h1 : AtT cs st (.num v.toNat :: F) := h1
      have hn : (st.num : Int) = v := by rw [h1.2.1 _ rfl]; omega
      walk_at "go"
      rw [h1.1]
      walk_at "go"
      refine we_meth1 rfl rfl ?_
      walk_at "go"
      refine ⟨rfl, (cs, st, F), rfl, rfl, ⟨h1.2.2.2, h1.2.2.1, h2⟩, fun d2 fs' ⟨q1, st3, q2, q3⟩ => ?_⟩
      subst q2
      walk_at "go"
      refine ⟨_, ⟨st3, 0, "number", ?_, (by show (0 : Int) ≤ 2 * ((0 : Nat) : Int) + 0; omega), rfl, q3⟩, rfl⟩
      rw [hn]
      rfl
    | not a =>
      have h1 : AtT cs st (.bang :: (wi a 7 ++ F)) := h1
      walk_at "go"
      rw [h1.1]
      walk_at "go"
      refine we_meth1 rfl rfl ?_
      walk_at "go"
      refine ⟨rfl, (cs, st, wi a 7 ++ F), rfl, rfl, ⟨h1.2.2.2, h1.2.2.1, h2⟩, fun d2 fs' ⟨q1, st3, q2, q3⟩ => ?_⟩
      subst q2
      walk_at "go"
      refine ws_asg (we_meth1 rfl rfl ?_)
      walk_at "go"
      refine ⟨rfl, (cs, st3, a, F), rfl, rfl, ⟨q3, h2, h3, ?_⟩, fun d3 fs' ⟨st4, da, wa, g1, g2, g3, g4⟩ => ?_⟩
      · show costO a < n
        have : costO (.not a) = 20 * (ht a + 1) := by unfold costO; rw [if_neg (by simp [rk])]; rfl
        have : costO a ≤ 20 * ht a + 10 := by unfold costO; split <;> omega
        omega
      subst g1
      subst g3
      have g2 : da ≤ 2 * (ht a : Int) + b01 7 (rk a) := g2
      have := b01_le 7 (rk a)
      walk_at "g3"
      walk_at "nm"
      walk_at "go"
      refine ⟨_, ⟨st4, _, _, rfl, ?_, rfl, g4⟩, rfl⟩
      show _ ≤ 2 * ((ht a + 1 : Nat) : Int) + 0
      split <;> omega
    | ite a b c => simp [rk] at hb
    | bin o a b => cases o <;> simp [rk, opRank] at hb
  · rw [wi_out hb] at h1
    have h1 : AtT cs st (.lp :: (wi t 0 ++ (.rp :: F))) := by
      rw [wi_in (Nat.zero_le _)]
      have e : (.lp :: (tks t ++ [.rp])) ++ F = .lp :: (tks t ++ (.rp :: F)) := by simp
      rw [← e]
      exact h1
    walk_at "go"
    rw [h1.1]
    walk_at "go"
    refine we_meth1 rfl rfl ?_
    walk_at "go"
    refine ⟨rfl, (cs, st, wi t 0 ++ (.rp :: F)), rfl, rfl, ⟨h1.2.2.2, h1.2.2.1, h2⟩, fun d2 fs' ⟨q1, st3, q2, q3⟩ => ?_⟩
    subst q2
    walk_at "go"
    refine ws_asg (we_meth1 rfl rfl ?_)
    walk_at "go"
    refine ⟨rfl, (cs, st3, t, .rp :: F), rfl, rfl, ⟨q3, h2, h3, ⟨?_, by simp⟩, ?_⟩, fun d3 fs' ⟨st4, da, wa, g1, g2, g3, g4⟩ => ?_⟩
    · intro t ht j _
      cases ht
      rfl
    · show costC t < n
      unfold costO at h6
      rw [if_pos (by omega)] at h6
      unfold costC
      omega
    subst g1
    subst g3
    walk_at "g3"
    walk_at "nm"
    walk_at "go"
    rw [g4.1]
    walk_at "go"
    refine we_meth1 rfl rfl ?_
    walk_at "go"
    refine ⟨rfl, (cs, st4, F), rfl, rfl, ⟨g4.2.2.2, g4.2.2.1, h2⟩, fun d4 fs' ⟨q4, st5, q5, q6⟩ => ?_⟩
    subst q5
    walk_at "go"
    have g2 : da ≤ 2 * (ht t : Int) + 0 := g2
    refine ⟨_, ⟨st5, _, _, rfl, ?_, rfl, q6⟩, rfl⟩
    show da + 1 ≤ 2 * (ht t : Int) + b01 7 (rk t)
    rw [b01_one (by omega)]
    omega
theorem rc_parser (T : Txt K w mg) : ∀ n, FnOk P w K mg base CX0 (n + 5) T.Reader_choice.f T.Reader_choice.fd P_Reader_choice (spG K (CH T.cReader n)) ∧ FnOk P w K mg base CX0 (n + 5) T.Reader_level.f T.Reader_level.fd P_Reader_level (spG K (LV T.cReader n)) ∧ FnOk P w K mg base CX0 (n + 5) T.Reader_operand.f T.Reader_operand.fd P_Reader_operand (spG K (OPD T.cReader n)) := by
  intro n
  induction n with
  | zero =>
    refine ⟨?_, ?_, ?_⟩
    · exact okRsc T.Reader_choice.F sc_Reader_choice (fun x => rfl) fun cdv A outer s H E z p dx hr pre => absurd pre.2.2.2.2 (Nat.not_lt_zero _)
    · exact okRsc T.Reader_level.F sc_Reader_level (fun x => rfl) fun cdv A outer s H E z p dx hr pre => absurd pre.2.2.2.2.2 (Nat.not_lt_zero _)
    · exact okRsc T.Reader_operand.F sc_Reader_operand (fun x => rfl) fun cdv A outer s H E z p dx hr pre => absurd pre.2.2.2 (Nat.not_lt_zero _)
  | succ n ih =>
    obtain ⟨i1, i2, i3⟩ := ih
    exact ⟨rc_choice T n i1 i2, rc_level T n i2 i3, rc_operand T n i3 i1⟩
abbrev CHok (C : Addr) : FT := CH C 190
theorem ok_Reader_choice (T : Txt K w mg) : FnOk P w K mg base CX0 195 T.Reader_choice.f T.Reader_choice.fd P_Reader_choice (spG K (CHok T.cReader)) := (rc_parser T 190).1
end
section
variable {P : Program} {w : World} {K : PySem.W.Frag} {mg : Str → Option Value} {base : Heap}
/-! ### the rule as a thing -/
abbrev PIn2 := List Nat × Bool × Tr
def srcD (cs : List Nat) (b : Bool) : D := if b = true then .lst (cs.map fun c => .int (c : Nat)) else encC cs
def plF (cs : List Nat) (t : Tr) : List (Str × D) := [("codes", encC cs), ("rule", encTr t)]
abbrev PLI (C : Addr) : FT := Rsc C (fun z : PIn2 => [srcD z.1 z.2.1]) (fun _ => []) (fun z => LxS z.1 (wi z.2.2 0) ∧ z.1.length ≤ 1000 ∧ nnum z.2.2 = true ∧ ht z.2.2 ≤ 8) (fun z d fs' => d = .non ∧ fs' = (plF z.1 z.2.2).map fun p => (p.1, AV.d p.2))
theorem ok_Plural_init (T : Txt K w mg) : FnOk P w K mg base CX0 197 T.Plural_init.f T.Plural_init.fd P_Plural_init (spG K (PLI T.cPlural)) := by
  refine okRsc T.Plural_init.F sc_Plural_init (fun x => rfl) fun cdv A outer s H E z p dx hr pre => ?_
  obtain ⟨cs, b, t⟩ := z
  obtain ⟨h1, h2, h3, h4⟩ := pre
  have h1 : LxS cs (wi t 0) := h1
  have h2 : cs.length ≤ 1000 := h2
  have h3 : nnum t = true := h3
  have h4 : ht t ≤ 8 := h4
  have hu := hu_of hr
  have c1 := T.clPlural
  have n1 := T.nPlural_codes
  have n2 := T.nPlural_rule
  have c2 := T.clReader
  have n3 := T.nReader_word
  refine ⟨_, (pss_cons (ps_fld (pv 0) (pe_callTy cl_tup (by rfl) T.b_tuple (by decide +kernel) (pa_cons (pv 1) pa_nil)) rfl)
        (pss_cons (ps_if (pt_cmpR op_gt (pe_callB cl_len (by rfl) T.b_len (by decide +kernel) (pa_cons (pe_fld (pv 0) rfl) pa_nil)) pe_int (nomark _)) (pss_one ps_never) pss_nil)
        (pss_cons (ps_set (i := 2) sc_Plural_init.nd rfl (.inl rfl) (pe_make T.mkReader (ok_Reader_init T) (hr.mono (by omega)) (by rfl) T.gReader T.Reader_init.b .nil pass0 (pa_cons (pe_fld (pv 0) rfl) pa_nil)))
        (pss_cons (ps_asg (pe_meth0 (pv 2) T.clReader T.Reader_choice.mt (ok_Reader_choice T) (hr.mono (by omega)) T.Reader_choice.b .nil pass0) (pg_tup (n := 3) rfl (pgs_cons (pg_name (i := 3) sc_Plural_init.nd rfl (.inl rfl)) (pgs_cons (pg_name (i := 4) sc_Plural_init.nd rfl (.inl rfl)) (pgs_cons (pg_name (i := 5) sc_Plural_init.nd rfl (.inl rfl)) pgs_nil)))))
        (pss_cons (ps_fld (pv 0) (pv 3) rfl)
        (pss_cons (ps_if (pt_cmpR op_ne (pe_fld (pv 2) rfl) pe_str (nomark _)) (pss_one ps_never) pss_nil)
        (pss_one (ps_if (pt_cmpR op_gt (pv 4) pe_int (nomark _)) (pss_one ps_never) pss_nil)))))))), ?_⟩
  try dsimp only [cx_K, cx_w]
  refine ws_rho (ρ' := [some _, some _, none, none, none, none]) rfl ?_
  refine ws_resR (R' := [(p, .ins T.cPlural dx [])]) rfl ?_
  walk_at "s1"
  walk_at "f1"
  refine we_cut (.d (encC cs)) ?_ ⟨rfl, ?_⟩
  · cases b with
    | true =>
      walk_at "go"
      refine fTup.l ?_
      exact ⟨rfl, rfl⟩
    | false =>
      walk_at "go"
      refine fTup.t ?_
      exact ⟨rfl, rfl⟩
  refine ws_resR (R' := [(p, .ins T.cPlural dx [("codes", .d (encC cs))])]) rfl ?_
  walk_at "go"
  rw [List.length_map]
  refine br_f (decide_eq_false (by show ¬ ((1000 : Int) < (cs.length : Nat)); omega)) ?_
  walk_at "go"
  refine we_make1 ?_
  walk_at "go"
  refine ⟨(cs, wi t 0), rfl, rfl, ⟨h1, h2⟩, fun q dq d fs' ⟨e1, st1, e2, e3⟩ => ⟨e1, ?_⟩⟩
  subst e2
  refine ws_seq (ws_asg (we_meth1 rfl rfl ?_))
  walk_at "go"
  refine ⟨rfl, (cs, st1, t, []), rfl, rfl, ⟨by rw [List.append_nil]; exact e3, h2, h3, ⟨fun t ht => (by cases ht), (by simp)⟩, ?_⟩, fun d fs' ⟨st2, da, wa, g1, g2, g3, g4⟩ => ?_⟩
  · show costC t < 190
    unfold costC
    omega
  subst g1
  subst g3
  have g2 : da ≤ 2 * (ht t : Int) + 0 := g2
  walk_at "g3"
  walk_at "nm"
  refine ws_perm (List.Perm.swap _ _ _) ?_
  walk_at "s1"
  walk_at "f1"
  walk_at "go"
  refine ⟨rfl, ?_⟩
  refine ws_perm (List.Perm.swap _ _ _) ?_
  walk_at "go"
  have g4 : st2.word = "end" := g4
  rw [g4]
  walk_at "go"
  refine br_f (decide_eq_false (by omega)) (ws_lessR (List.sublist_cons_self _ _) ?_)
  walk_at "go"
  exact ⟨_, ⟨rfl, rfl⟩, rfl⟩
abbrev plD (C : Addr) (cs : List Nat) (t : Tr) : D := .obj C (plF cs t)
abbrev Det_Plural_tree (C : Addr) : FT := Det (fun z : List Nat × Tr => [plD C z.1 z.2]) (fun _ => True) (fun z => encTr z.2)
theorem ok_Plural_tree (T : Txt K w mg) : FnOk P w K mg base CX0 1 T.Plural_tree.f T.Plural_tree.fd P_Plural_tree (spG K (Det_Plural_tree T.cPlural)) := by
  refine okDet T.Plural_tree.F sc_Plural_tree (fun x => rfl) fun cdv A outer s H E z hr _ => ?_
  obtain ⟨cs, t⟩ := z
  have hu := hu_of hr
  have c1 := T.clPlural
  have n2 := T.nPlural_rule
  refine ⟨_, (pss_one (ps_ret (pe_fld (pv 0) rfl))), ?_⟩
  try dsimp only [cx_K, cx_w]
  refine ws_rho (ρ' := [some _]) rfl ?_
  refine ws_ret (we_fld (we_var rfl ⟨T.cPlural, _, .d (encTr t), rfl, c1, n2, rfl, rfl, rfl⟩))
end
section
/-! ### how many pieces, plain -/
def ncM : Tr → Nat
  | .n => 1
  | .num _ => 1
  | .not a => 3 * ncM a
  | .ite a b c => 3 * (ncM a * ncM b) + 3 * (ncM a * ncM c)
  | .bin .div a _ => ncM a
  | .bin .mod a _ => ncM a
  | .bin .mul a b => ncM a * ncM b
  | .bin .add a b => ncM a * ncM b
  | .bin .sub a b => ncM a * ncM b
  | .bin _ a b => 3 * (ncM a * ncM b)
theorem combined_len1 {o : Op} (h : ∀ x, (comb1 o x).length ≤ 1) (x y : List Piece) : (combinedM o x y).length ≤ x.length * y.length := by
  have h1 := flatMap_len (comb1 o) 1 (overlaidM x y) fun s _ => h s
  have h2 := overlaid_len x y
  have h3 := joined_len ((overlaidM x y).flatMap (comb1 o))
  unfold combinedM
  omega
theorem combined_len3 (o : Op) (x y : List Piece) : (combinedM o x y).length ≤ 3 * (x.length * y.length) :=
  Nat.le_trans (joined_len _) (mul3 (flatMap_len (comb1 o) 3 (overlaidM x y) fun s _ => comb1_len o s) (overlaid_len x y))
theorem chosen_len (t x y : List Piece) : (chosenM t x y).length ≤ 3 * (t.length * x.length) + 3 * (t.length * y.length) := by
  unfold chosenM
  refine Nat.le_trans (joined_len _) ?_
  rw [(sortP_perm _).length_eq, List.length_append]
  exact Nat.add_le_add (mul3 (flatMap_len (chose1 false) 3 (overlaidM t x) fun s _ => chose1_len _ s) (overlaid_len t x)) (mul3 (flatMap_len (chose1 true) 3 (overlaidM t y) fun s _ => chose1_len _ s) (overlaid_len t y))
theorem refused_len (x : List Piece) : (refusedM x).length ≤ 3 * x.length := by
  rw [refused_eq]
  refine Nat.le_trans (joined_len _) ?_
  have := flatMap_len ref1 3 (stretchesM x) fun s _ => ref1_len s
  rw [stretches_len] at this
  omega
theorem widened_len (ts sh : Int) (ps : List Piece) : (widenedP ts sh ps).length ≤ ps.length := by
  unfold widenedP
  refine Nat.le_trans (joined_len _) ?_
  have := flatMap_len (wide1 ts sh) 1 (stretchesM ps) fun s _ => wide1_len ts sh s
  rw [stretches_len] at this
  omega
theorem divided_len (o : Op) (ps : List Piece) (d : Int) : (dividedM o ps d).length ≤ ps.length := by
  unfold dividedM
  split <;> exact Nat.le_trans (joined_len _) (by rw [List.length_map]; exact Nat.le_refl _)
theorem getD_len {cs : List (List Piece)} {n : Nat} (h : ∀ ps ∈ cs, ps.length ≤ n) (r : Nat) : (cs.getD r []).length ≤ n := by
  by_cases hr : r < cs.length
  · exact h _ (getD_in hr)
  · rw [List.getD_eq_getElem?_getD, List.getElem?_eq_none (by omega)]
    exact Nat.zero_le _
theorem nc_len : ∀ (t : Tr) (span : Nat), ∀ ps ∈ classesM t span, ps.length ≤ ncM t
  | .n, span, ps, h => by
    obtain ⟨r, _, rfl⟩ := List.mem_map.mp h
    exact Nat.le_refl _
  | .num v, span, ps, h => by
    obtain ⟨r, _, rfl⟩ := List.mem_map.mp h
    exact Nat.le_refl _
  | .not a, span, ps, h => by
    obtain ⟨q, hq, rfl⟩ := List.mem_map.mp h
    exact Nat.le_trans (refused_len q) (Nat.mul_le_mul_left 3 (nc_len a span q hq))
  | .ite a b c, span, ps, h => by
    obtain ⟨r, _, rfl⟩ := List.mem_map.mp h
    have h1 := getD_len (nc_len a span) r
    have h2 := getD_len (nc_len b span) r
    have h3 := getD_len (nc_len c span) r
    exact Nat.le_trans (chosen_len _ _ _) (Nat.add_le_add (mul3_le h1 h2) (mul3_le h1 h3))
  | .bin o a b, span, ps, h => by
    have dm : ∀ q, ps ∈ widenedM ((widenedM (classesM a (spanM a)) (spanM a * b.num?.toNat)).map fun ps => dividedM q ps b.num?) span → ps.length ≤ ncM a := fun q h => by
      unfold widenedM at h
      obtain ⟨r, _, rfl⟩ := List.mem_map.mp h
      refine Nat.le_trans (widened_len _ _ _) (getD_len (fun x hx => ?_) _)
      obtain ⟨y, hy, rfl⟩ := List.mem_map.mp hx
      refine Nat.le_trans (divided_len _ _ _) ?_
      obtain ⟨r2, _, rfl⟩ := List.mem_map.mp hy
      exact Nat.le_trans (widened_len _ _ _) (getD_len (nc_len a (spanM a)) _)
    have three : ps ∈ ((List.range span).map fun r => combinedM o ((classesM a span).getD r []) ((classesM b span).getD r [])) → ps.length ≤ 3 * (ncM a * ncM b) := fun h => by
      obtain ⟨r, _, rfl⟩ := List.mem_map.mp h
      exact Nat.le_trans (combined_len3 _ _ _) (mul3_le (getD_len (nc_len a span) r) (getD_len (nc_len b span) r))
    have one : (∀ x, (comb1 o x).length ≤ 1) → ps ∈ ((List.range span).map fun r => combinedM o ((classesM a span).getD r []) ((classesM b span).getD r [])) → ps.length ≤ ncM a * ncM b := fun hc h => by
      obtain ⟨r, _, rfl⟩ := List.mem_map.mp h
      exact Nat.le_trans (combined_len1 hc _ _) (Nat.mul_le_mul (getD_len (nc_len a span) r) (getD_len (nc_len b span) r))
    cases o with
    | div => exact dm .div h
    | mod => exact dm .mod h
    | add => exact one (fun x => Nat.le_refl _) h
    | sub => exact one (fun x => Nat.le_refl _) h
    | mul => exact one (fun x => Nat.le_refl _) h
    | _ => exact three h
theorem classes_bd2 (t : Tr) (span : Nat) (h1 : linM t = true) (h2 : spanM t ∣ span) (h3 : 0 < span) (h4 : span ≤ 1000) : (classesM t span).length = span ∧ ∀ ps ∈ classesM t span, PB (szE t) ps ∧ ps.length ≤ ncM t := by
  obtain ⟨g1, g2⟩ := classes_bd t span h1 h2 h3 h4
  exact ⟨g1, fun ps hps => ⟨(g2 ps hps).1, nc_len t span ps hps⟩⟩
end
section
variable {P : Program} {w : World} {K : PySem.W.Frag} {mg : Str → Option Value} {base : Heap}
structure GoodT (t : Tr) : Prop where
  lin : linM t = true
  sp0 : spanM t ≤ 12
  e : szE t ≤ 4000
  c : szC t < 300000
  c2 : ncM t < 80000
  h : ht t ≤ 8
theorem GoodT.sp {t : Tr} (g : GoodT t) : spanM t ≤ 1000 := by have := g.sp0; omega
theorem we_methD {α : Type} {ρ : AE} {R : RS} {te : TE} {arg : α → List D} {pre : α → Prop} {out : α → D} {E : XK} {t : TA} {C : Addr} {m : Str} {Φ : AV → RS → Prop} (h : WE K te ρ R fun a R1 => ∃ fs, a = .d (.obj C fs) ∧ fs.lookup m = none ∧ WA K t ρ R1 fun as R2 => ∃ x, .d (.obj C fs) :: as = (arg x).map .d ∧ pre x ∧ Φ (.d (out x)) R2) : WE K (tMeth C m (spG K (Det arg pre out)) [] E te t) ρ R Φ := by
  refine we_meth det_mono (h.mono fun a R1 ⟨fs, e1, e2, q⟩ => ?_)
  subst e1
  refine ⟨fs.map fun p => (p.1, .d p.2), rfl, ?_, ⟨fun B H σ Q S k => q.run B H σ Q S fun B' H' vs as R' s S' r ⟨x, e3, e4, q⟩ => k B' H' vs as R' s S' r ⟨[], R', List.Perm.refl _, x, e3, rfl, e4, q⟩⟩⟩
  have : ∀ (l : List (Str × D)), l.lookup m = none → (l.map fun p => (p.1, AV.d p.2)).lookup m = none := by
    intro l
    induction l with
    | nil => exact fun _ => rfl
    | cons p l ih =>
      intro hl
      rw [List.map_cons]
      rw [List.lookup_cons] at hl ⊢
      cases hq : (m == p.1) with
      | true => rw [hq] at hl; cases hl
      | false => rw [hq] at hl; exact ih hl
  exact this fs e2
abbrev Det_plural_classes (C : Addr) : FT := Det (fun z : List Nat × Tr × Nat => [plD C z.1 z.2.1, .int (z.2.2 : Nat)]) (fun z => GoodT z.2.1 ∧ spanM z.2.1 ∣ z.2.2 ∧ 0 < z.2.2 ∧ z.2.2 ≤ 1000) (fun z => encPss (classesM z.2.1 z.2.2))
theorem ok_plural_classes (T : Txt K w mg) : FnOk P w K mg base CX0 24 T.plural_classes.f T.plural_classes.fd P_plural_classes (spG K (Det_plural_classes T.cPlural)) := by
  refine okDet T.plural_classes.F sc_plural_classes (fun x => rfl) fun cdv A outer s H E z hr pre => ?_
  obtain ⟨cs, t, span⟩ := z
  obtain ⟨g, h1, h2, h3⟩ := pre
  have g : GoodT t := g
  have gc : szC t < 300000 := g.c
  have gh : ht t ≤ 8 := g.h
  have hu := hu_of hr
  refine ⟨_, (pss_one (ps_ret (pe_call (ok_classes_of T) (hr.mono (by omega)) (by rfl) T.classes_of.m T.classes_of.F.kp T.classes_of.b .nil pass0 (pa_cons (pe_meth0 (pv 0) T.clPlural T.Plural_tree.mt (ok_Plural_tree T) (hr.mono (by omega)) T.Plural_tree.b .nil pass0) (pa_cons (pv 1) pa_nil))))), ?_⟩
  try dsimp only [cx_K, cx_w]
  refine ws_rho (ρ' := [some _, some _]) rfl ?_
  walk_at "go"
  refine we_methD (we_var rfl ⟨_, rfl, rfl, wa_nil ⟨(cs, t), rfl, trivial, ?_⟩⟩)
  walk_at "go"
  exact ⟨(t, span), rfl, ⟨g.lin, h1, h2, h3, g.e, (by show szC t < _; omega), (by show ht t < 9; omega), (by show ht t < 9; omega)⟩, rfl, rfl⟩
abbrev Det_common_span (C : Addr) : FT := Det (fun z : List Nat × Tr => [.lst [plD C z.1 z.2]]) (fun z => GoodT z.2) (fun z => .int (spanM z.2 : Nat))
theorem ok_common_span (T : Txt K w mg) : FnOk P w K mg base CX0 14 T.common_span.f T.common_span.fd P_common_span (spG K (Det_common_span T.cPlural)) := by
  refine okDet T.common_span.F sc_common_span (fun x => rfl) fun cdv A outer s H E z hr g => ?_
  obtain ⟨cs, t⟩ := z
  have g : GoodT t := g
  have hu := hu_of hr
  refine ⟨_, (pss_cons (ps_setLc (i := 1) (own := [("plural", 3)]) (by rfl) sc_common_span.nd rfl rfl (sw_true rfl rfl rfl (by decide +kernel)) (pi_seq (pv 0)) (blkOk_by (own := [("plural", 3)]) (N := N_common_span) (sc := defScope s_common_span) (by decide +kernel)) (fun _ _ _ _ _ => (pg_name (i := 3) sc_common_span.nd rfl (.inl rfl))) (fun _ _ _ _ _ => pts_nil) (fun _ _ _ _ _ => (pe_meth0 (pv 3) T.clPlural T.Plural_tree.mt (ok_Plural_tree T) (hr.mono (by omega)) T.Plural_tree.b .nil pass0)))
        (pss_cons (ps_if (pt_not (pt_val (pe_callB (cl_all rfl) (by rfl) T.b_all (by decide +kernel) (pa_cons (pe_lc (own := [("tree", 4)]) (by rfl) sc_common_span.nd (pi_seq (pv 1)) (blkOk_by (own := [("tree", 4)]) (N := N_common_span) (sc := defScope s_common_span) (by decide +kernel)) (fun _ _ _ _ _ => (pg_name (i := 4) sc_common_span.nd rfl (.inl rfl))) (fun _ _ _ _ _ => pts_nil) (fun _ _ _ _ _ => (pe_call (ok_is_linear T) (hr.mono (by omega)) (by rfl) T.is_linear.m T.is_linear.F.kp T.is_linear.b .nil pass0 (pa_cons (pv 4) pa_nil)))) pa_nil)))) (pss_one ps_never) pss_nil)
        (pss_cons (ps_set (i := 2) sc_common_span.nd rfl (.inl rfl) (pe_call (ok_common_multiple T) (hr.mono (by omega)) (by rfl) T.common_multiple.m T.common_multiple.F.kp T.common_multiple.b .nil pass0 (pa_cons (pe_lc (own := [("tree", 4)]) (by rfl) sc_common_span.nd (pi_seq (pv 1)) (blkOk_by (own := [("tree", 4)]) (N := N_common_span) (sc := defScope s_common_span) (by decide +kernel)) (fun _ _ _ _ _ => (pg_name (i := 4) sc_common_span.nd rfl (.inl rfl))) (fun _ _ _ _ _ => pts_nil) (fun _ _ _ _ _ => (pe_call (ok_tree_span T) (hr.mono (by omega)) (by rfl) T.tree_span.m T.tree_span.F.kp T.tree_span.b .nil pass0 (pa_cons (pv 4) pa_nil)))) pa_nil)))
        (pss_cons (ps_if (pt_cmpR op_gt (pv 2) (pe_glob (v := .int 1000) (by rfl) T.mGREATEST ⟨_, rfl⟩) (nomark _)) (pss_one ps_never) pss_nil)
        (pss_one (ps_ret (pv 2))))))), ?_⟩
  try dsimp only [cx_K, cx_w]
  refine ws_rho (ρ' := [some _, none, none, none, none]) rfl ?_
  have gh : ht t ≤ 8 := g.h
  have pl : linM t = true ∧ ht t < 9 := ⟨g.lin, by omega⟩
  have ps : linM t = true ∧ spanM t ≤ 1000 ∧ ht t < 9 := ⟨g.lin, g.sp, by omega⟩
  walk_at "s1"
  refine ws_setE (.d (.lst [encTr t])) ?_ ?_
  · refine we_lcM [t] (fun t => plD T.cPlural cs t) encTr (Nat.le_of_ble_eq_true rfl) (wi_seq ?_)
    walk_at "go"
    refine ⟨_, fSeq.l, rfl, fun x hx => ?_, rfl, rfl⟩
    walk_at "nm"
    walk_at "c1"
    walk_at "nm"
    refine wt_yes ⟨rfl, ?_⟩
    exact we_methD (we_var rfl ⟨_, rfl, rfl, wa_nil ⟨(cs, x), rfl, trivial, rfl, rfl⟩⟩)
  walk_at "s1"
  refine ws_if (wt_not (wt_B (we_cbc (wa_cons (we_cut (.d (.lst ([true].map .bl))) ?_ ?_)))))
  · refine we_lcM [t] encTr (fun _ => .bl true) (Nat.le_of_ble_eq_true rfl) (wi_seq ?_)
    walk_at "go"
    refine ⟨_, fSeq.l, rfl, fun x hx => ?_, rfl, rfl⟩
    rw [List.mem_singleton.mp hx]
    walk_at "nm"
    walk_at "c1"
    walk_at "nm"
    refine wt_yes ⟨rfl, ?_⟩
    walk_at "go"
    exact ⟨pl, rfl, rfl⟩
  refine wa_nil (fAll.i ⟨_, rfl, ?_⟩)
  walk_at "go"
  walk_at "nm"
  refine we_cut (.d (.lst ([spanM t].map fun n => .int (n : Nat)))) ?_ ?_
  · refine we_lcM [t] encTr (fun x => .int (spanM t : Nat)) (Nat.le_of_ble_eq_true rfl) (wi_seq ?_)
    walk_at "go"
    refine ⟨_, fSeq.l, rfl, fun x hx => ?_, rfl, rfl⟩
    rw [List.mem_singleton.mp hx]
    walk_at "nm"
    walk_at "c1"
    walk_at "nm"
    refine wt_yes ⟨rfl, ?_⟩
    walk_at "go"
    exact ⟨ps, rfl, rfl⟩
  have hlcm : [spanM t].foldl Nat.lcm 1 = spanM t := Nat.lcm_one_left _
  have hpos := span_pos t g.lin
  refine wa_nil ⟨[spanM t], rfl, ⟨Nat.le_of_ble_eq_true rfl, fun n hn => ?_⟩, ?_⟩
  · rw [List.mem_singleton.mp hn]
    exact ⟨hpos, g.sp⟩
  rw [hlcm]
  have hgt : decide ((1000 : Int) < (spanM t : Nat)) = false := decide_eq_false (by have := g.sp; omega)
  walk_at "go"
  rw [hgt]
  walk_at "go"
  exact ⟨rfl, rfl⟩
/-! lowest -/
abbrev Det_lowest : FT := Det (fun z : List Int => [.lst (z.map .int)]) (fun _ => True) (fun z => encO z.min?)
theorem min_of {ns : List Int} {m : Int} (h1 : m ∈ ns) (h2 : ∀ y, y ∈ ns → m ≤ y) : ns.min? = some m := List.min?_eq_some_iff.mpr ⟨h1, fun b hb => h2 b hb⟩
theorem ok_lowest (T : Txt K w mg) : FnOk P w K mg base CX0 1 T.lowest.f T.lowest.fd P_lowest (spG K Det_lowest) := by
  refine okDet T.lowest.F sc_lowest (fun x => rfl) fun cdv A outer s H E z hr _ => ?_
  have hu := hu_of hr
  refine ⟨_, (pss_one (ps_ret (pe_ifExp (pt_cmpR (op_neD hr.units) (pv 0) (pe_lst pa_nil) (nomark _)) (pe_callB (cl_min rfl) (by rfl) T.b_min (by decide +kernel) (pa_cons (pv 0) pa_nil)) pe_non))), ?_⟩
  try dsimp only [cx_K, cx_w]
  refine ws_rho (ρ' := [some _]) rfl ?_
  walk_at "go"
  refine fEqD.l (ys := []) ?_
  refine ⟨_, rfl, fun h => ?_, fun h => ?_⟩
  · walk_at "go"
    have hz : z ≠ [] := by simpa using h
    refine fMin.i (List.length_pos_iff.mpr hz) fun m h1 h2 => ?_
    rw [min_of h1 h2]
    exact ⟨rfl, rfl⟩
  · walk_at "go"
    have hz : z = [] := by simpa using h
    subst hz
    exact ⟨rfl, rfl⟩
end
section
variable {P : Program} {w : World} {K : PySem.W.Frag} {mg : Str → Option Value} {base : Heap}
/-! first_signed -/
def fsG (r span : Nat) (signs : List Int) (g : Sg) : List Int := if decide (g.2.2 ∈ signs) = true then [(r : Int) + (span : Int) * g.1] else []
def fsS (r span : Nat) (value : Int) (signs : List Int) (s : Str4) : List Int := (signedM s.1 s.2.1 (s.2.2.1 - value) s.2.2.2).flatMap (fsG r span signs)
def fsP (span : Nat) (value : Int) (signs : List Int) (q : List Piece × Nat) : List Int := (stretchesM q.1).flatMap (fsS q.2 span value signs)
def fsM (t : Tr) (value : Int) (signs : List Int) : List Int := (classesM t (spanM t)).zipIdx.flatMap (fsP (spanM t) value signs)
abbrev Det_first_signed (C : Addr) : FT := Det (fun z : List Nat × Tr × Int × List Int => [plD C z.1 z.2.1, .int z.2.2.1, .tup (z.2.2.2.map .int)]) (fun z => GoodT z.2.1 ∧ Bd 8000 z.2.2.1) (fun z => encO (fsM z.2.1 z.2.2.1 z.2.2.2).min?)
theorem fsG_len (r span : Nat) (signs : List Int) (g : Sg) : (fsG r span signs g).length ≤ 1 := by unfold fsG; split <;> simp
theorem fsS_len (r span : Nat) (v : Int) (signs : List Int) (s : Str4) : (fsS r span v signs s).length ≤ 3 := by
  have h := flatMap_len (fsG r span signs) 1 (signedM s.1 s.2.1 (s.2.2.1 - v) s.2.2.2) fun g _ => fsG_len _ _ _ g
  have := signed_len s.1 s.2.1 (s.2.2.1 - v) s.2.2.2
  unfold fsS
  omega
theorem fsP_len (span : Nat) (v : Int) (signs : List Int) (q : List Piece × Nat) : (fsP span v signs q).length ≤ 3 * q.1.length := by
  have h := flatMap_len (fsS q.2 span v signs) 3 (stretchesM q.1) fun s _ => fsS_len _ _ _ _ s
  rw [stretches_len] at h
  unfold fsP
  omega
theorem zipIdx_mem1 {α : Type} {xs : List α} {q : α × Nat} (h : q ∈ xs.zipIdx) : q.1 ∈ xs := List.mem_of_getElem? (zipIdx_at h)
theorem ok_first_signed (T : Txt K w mg) : FnOk P w K mg base CX0 26 T.first_signed.f T.first_signed.fd P_first_signed (spG K (Det_first_signed T.cPlural)) := by
  refine okDet T.first_signed.F sc_first_signed (fun x => rfl) fun cdv A outer s H E z hr pre => ?_
  obtain ⟨cs, t, value, signs⟩ := z
  obtain ⟨g, hv⟩ := pre
  have g : GoodT t := g
  have hv : Bd 8000 value := hv
  have hu := hu_of hr
  have hpos := span_pos t g.lin
  have hsp := g.sp0
  have hc := g.c2
  obtain ⟨b1, b2⟩ := classes_bd2 t (spanM t) g.lin (Nat.dvd_refl _) hpos g.sp
  have hall : (fsM t value signs).length < 10000000 := by
    have h := flatMap_len (fsP (spanM t) value signs) (3 * ncM t) (classesM t (spanM t)).zipIdx fun q hq => by
      have h1 := fsP_len (spanM t) value signs q
      have h2 := (b2 q.1 (zipIdx_mem1 hq)).2
      omega
    rw [List.length_zipIdx, b1] at h
    have h3 : spanM t * (3 * ncM t) ≤ 30 * (3 * 100000) := Nat.mul_le_mul (by omega) (by omega)
    unfold fsM
    omega
  have hbs : Bd 10 (spanM t : Int) := Bd.nat (show spanM t < 2 ^ 10 by omega)
  refine ⟨_, (pss_cons (ps_set (i := 3) sc_first_signed.nd rfl (.inl rfl) (pe_call (ok_common_span T) (hr.mono (by omega)) (by rfl) T.common_span.m T.common_span.F.kp T.common_span.b .nil pass0 (pa_cons (pe_lst (pa_cons (pv 0) pa_nil)) pa_nil)))
        (pss_cons (ps_set (i := 4) sc_first_signed.nd rfl (.inl rfl) (pe_lst pa_nil))
        (pss_cons (ps_for PassesOwn.never rfl (pi_enum (by rfl) T.b_enumerate (pa_cons (pe_call (ok_plural_classes T) (hr.mono (by omega)) (by rfl) T.plural_classes.m T.plural_classes.F.kp T.plural_classes.b .nil pass0 (pa_cons (pv 0) (pa_cons (pv 3) pa_nil))) pa_nil)) (pg_tup (n := 2) rfl (pgs_cons (pg_name (i := 5) sc_first_signed.nd rfl (.inl rfl)) (pgs_cons (pg_name (i := 6) sc_first_signed.nd rfl (.inl rfl)) pgs_nil))) (pss_one (ps_for PassesOwn.never rfl (pi_seq (pe_call (ok_stretches T) (hr.mono (by omega)) (by rfl) T.stretches.m T.stretches.F.kp T.stretches.b .nil pass0 (pa_cons (pv 6) pa_nil))) (pg_tup (n := 4) rfl (pgs_cons (pg_name (i := 7) sc_first_signed.nd rfl (.inl rfl)) (pgs_cons (pg_name (i := 8) sc_first_signed.nd rfl (.inl rfl)) (pgs_cons (pg_name (i := 9) sc_first_signed.nd rfl (.inl rfl)) (pgs_cons (pg_name (i := 10) sc_first_signed.nd rfl (.inl rfl)) pgs_nil))))) (pss_one (ps_for PassesOwn.never rfl (pi_seq (pe_call (ok_signed T) (hr.mono (by omega)) (by rfl) T.signed.m T.signed.F.kp T.signed.b .nil pass0 (pa_cons (pv 7) (pa_cons (pv 8) (pa_cons (pe_op op_sub (pv 9) (pv 1)) (pa_cons (pv 10) pa_nil)))))) (pg_tup (n := 3) rfl (pgs_cons (pg_name (i := 11) sc_first_signed.nd rfl (.inl rfl)) (pgs_cons (pg_name (i := 12) sc_first_signed.nd rfl (.inl rfl)) (pgs_cons (pg_name (i := 13) sc_first_signed.nd rfl (.inl rfl)) pgs_nil)))) (pss_one (ps_if (pt_cmpR op_in_seq (pv 13) (pv 2) (by with_unfolding_all rfl)) (pss_one (ps_expr (pe_bm PySem.F.plainAttrs_list PySem.F.slot_list_append PySem.F.type_list_append mt_append (pv 4) (pa_cons (pe_op op_plus (pv 5) (pe_op op_mulW (pv 3) (pv 11))) pa_nil)))) pss_nil)))))))
        (pss_one (ps_ret (pe_call (ok_lowest T) (hr.mono (by omega)) (by rfl) T.lowest.m T.lowest.F.kp T.lowest.b .nil pass0 (pa_cons (pv 4) pa_nil))))))), ?_⟩
  try dsimp only [cx_K, cx_w]
  refine ws_rho (ρ' := [some _, some _, some _, none, none, none, none, none, none, none, none, none, none, none]) rfl ?_
  walk_at "go"
  refine ⟨(cs, t), rfl, g, ?_⟩
  walk_at "go"
  intro p
  walk_at "go"
  refine ws_forP (p := p) (Rf := []) (classesM t (spanM t)).zipIdx (fun q => .tup [.int (q.2 : Nat), encPs q.1]) (fsP (spanM t) value signs) [] .int [5, 6, 7, 8, 9, 10, 11, 12, 13] ?_ (fun x b hx hl => ?_) ?_
  · refine wi_enum ?_
    walk_at "go"
    refine ⟨(cs, t, spanM t), rfl, ⟨g, Nat.dvd_refl _, hpos, g.sp⟩, ?_⟩
    walk_at "go"
    exact ⟨enum_enc encPs _, rfl⟩
  · obtain ⟨bb1, bb2⟩ := b2 x.1 (zipIdx_mem1 hx)
    have hl0 : b.length + (fsP (spanM t) value signs x).length < 10000000 := by
      simp only [List.length_nil] at hl
      unfold fsM at hall
      omega
    obtain ⟨ps, r⟩ := x
    walk_at "nm"
    walk_at "g2"
    walk_at "nm"
    refine ws_forP (p := p) (Rf := []) (stretchesM ps) encS (fsS r (spanM t) value signs) b .int [7, 8, 9, 10, 11, 12, 13] ?_ (fun y c hy hl2 => ?_) ?_
    · refine wi_seq ?_
      walk_at "go"
      exact ⟨by show ps.length < 10000000; have : ps.length ≤ ncM t := bb2; omega, _, fSeq.l, rfl, rfl⟩
    · have hy1 := stretches_bd bb1 y hy
      have hy0 := stretches_bd0 bb1 y hy
      have hle := g.e
      have hl1 : c.length + (fsS r (spanM t) value signs y).length < 10000000 := by
        have e : fsP (spanM t) value signs (ps, r) = (stretchesM ps).flatMap (fsS r (spanM t) value signs) := rfl
        rw [← e] at hl2
        omega
      obtain ⟨y1, y2, y3, y4⟩ := y
      have ba : Bd 8001 (y3 - value) := (Bd.mono (show Bd (szE t) y3 from hy1.1) (by omega)).sub hv
      have bb : Bd 8001 y4 := Bd.mono (show Bd (szE t) y4 from hy1.2) (by omega)
      have b0 : Bd 8003 y1 := Bd.mono (show Bd (szE t) y1 from hy0) (by omega)
      have hsg := signed_bd (e := y2) b0 ba bb
      walk_at "nm"
      walk_at "g4"
      walk_at "nm"
      refine ws_forP (p := p) (Rf := []) (signedM y1 y2 (y3 - value) y4) encSg (fsG r (spanM t) signs) c .int [11, 12, 13] ?_ (fun u d hu2 hl3 => ?_) ?_
      · refine wi_seq ?_
        walk_at "go"
        exact ⟨(y1, y2, y3 - value, y4), rfl, ⟨ba.mono (by omega), bb.mono (by omega)⟩, _, fSeq.l, rfl, rfl⟩
      · have hu3 := hsg u hu2
        have hl4 : d.length + (fsG r (spanM t) signs u).length < 10000000 := by
          have e : fsS r (spanM t) value signs (y1, y2, y3, y4) = (signedM y1 y2 (y3 - value) y4).flatMap (fsG r (spanM t) signs) := rfl
          rw [← e] at hl3
          omega
        obtain ⟨u1, u2, u3⟩ := u
        have hu3 : Bd 8003 u1 := hu3
        walk_at "nm"
        walk_at "g3"
        walk_at "nm"
        walk_at "go"
        refine fIn.t rfl (flatAs_ints signs) ?_
        refine ⟨_, rfl, ?_⟩
        rw [if_neg (by simp), inV_ints]
        refine ⟨fun h => ?_, fun h => ?_⟩
        · have e : fsG r (spanM t) signs (u1, u2, u3) = [(r : Int) + (spanM t : Int) * u1] := by unfold fsG; rw [if_pos h]
          rw [e] at hl4
          walk_at "go"
          refine we_app1 rfl (by rw [List.length_map]; simp only [List.length_cons, List.length_nil] at hl4; omega) ?_
          walk_at "go"
          refine fI2c.i (mulOk hbs hu3 (by omega) (by omega) (by omega)) ?_
          walk_at "go"
          exact ⟨rfl, rfl, rsP (by rw [e]; rfl)⟩
        · walk_at "go"
          refine ⟨rfl, rsN ?_⟩
          unfold fsG
          rw [if_neg (by rw [h]; exact Bool.false_ne_true)]
      · walk_at "nm"
        exact ⟨rfl, rfl⟩
    · walk_at "nm"
      exact ⟨rfl, rfl⟩
  · walk_at "nm"
    refine ws_frz (i := 4) rfl ?_
    walk_at "nm"
    walk_at "go"
    rw [List.nil_append]
    exact ⟨trivial, rfl, rfl⟩
end
section
variable {P : Program} {w : World} {K : PySem.W.Frag} {mg : Str → Option Value} {base : Heap}
abbrev Det_first_number (C : Addr) : FT := Det (fun z : List Nat × Tr × Int => [plD C z.1 z.2.1, .int z.2.2]) (fun z => GoodT z.2.1 ∧ Bd 8000 z.2.2) (fun z => encO (fsM z.2.1 z.2.2 [0]).min?)
theorem ok_first_number (T : Txt K w mg) : FnOk P w K mg base CX0 27 T.first_number.f T.first_number.fd P_first_number (spG K (Det_first_number T.cPlural)) := by
  refine okDet T.first_number.F sc_first_number (fun x => rfl) fun cdv A outer s H E z hr pre => ?_
  obtain ⟨cs, t, value⟩ := z
  have hu := hu_of hr
  refine ⟨_, (pss_one (ps_ret (pe_call (ok_first_signed T) (hr.mono (by omega)) (by rfl) T.first_signed.m T.first_signed.F.kp T.first_signed.b .nil pass0 (pa_cons (pv 0) (pa_cons (pv 1) (pa_cons (pe_tup (pa_cons pe_int pa_nil)) pa_nil)))))), ?_⟩
  try dsimp only [cx_K, cx_w]
  refine ws_rho (ρ' := [some _, some _]) rfl ?_
  walk_at "go"
  exact ⟨(cs, t, value, [0]), rfl, pre, rfl, rfl⟩
def foM (t : Tr) (many : Int) : Option Int := ([(fsM t 0 [-1]).min?, (fsM t many [0, 1]).min?].filterMap id).min?
abbrev Det_first_outside (C : Addr) : FT := Det (fun z : List Nat × Tr × Int => [plD C z.1 z.2.1, .int z.2.2]) (fun z => GoodT z.2.1 ∧ Bd 8000 z.2.2) (fun z => encO (foM z.2.1 z.2.2))
theorem filt_enc (a b : Option Int) : (([a, b].filter Option.isSome).map encO) = ([a, b].filterMap id).map .int := by cases a <;> cases b <;> rfl
theorem ok_first_outside (T : Txt K w mg) : FnOk P w K mg base CX0 27 T.first_outside.f T.first_outside.fd P_first_outside (spG K (Det_first_outside T.cPlural)) := by
  refine okDet T.first_outside.F sc_first_outside (fun x => rfl) fun cdv A outer s H E z hr pre => ?_
  obtain ⟨cs, t, many⟩ := z
  obtain ⟨g, hv⟩ := pre
  have hu := hu_of hr
  refine ⟨_, (pss_cons (ps_set (i := 2) sc_first_outside.nd rfl (.inl rfl) (pe_lst (pa_cons (pe_call (ok_first_signed T) (hr.mono (by omega)) (by rfl) T.first_signed.m T.first_signed.F.kp T.first_signed.b .nil pass0 (pa_cons (pv 0) (pa_cons pe_int (pa_cons (pe_tup (pa_cons (pe_un un_neg pe_int) pa_nil)) pa_nil)))) (pa_cons (pe_call (ok_first_signed T) (hr.mono (by omega)) (by rfl) T.first_signed.m T.first_signed.F.kp T.first_signed.b .nil pass0 (pa_cons (pv 0) (pa_cons (pv 1) (pa_cons (pe_tup (pa_cons pe_int (pa_cons pe_int pa_nil))) pa_nil)))) pa_nil))))
        (pss_one (ps_ret (pe_call (ok_lowest T) (hr.mono (by omega)) (by rfl) T.lowest.m T.lowest.F.kp T.lowest.b .nil pass0 (pa_cons (pe_lc (own := [("number", 3)]) (by rfl) sc_first_outside.nd (pi_seq (pv 2)) (blkOk_by (own := [("number", 3)]) (N := N_first_outside) (sc := defScope s_first_outside) (by decide +kernel)) (fun _ _ _ _ _ => (pg_name (i := 3) sc_first_outside.nd rfl (.inl rfl))) (fun _ _ _ _ _ => (pts_one (pt_cmpR op_notNo (pv 3) pe_non (nomark _)))) (fun _ _ _ _ _ => (pv 3))) pa_nil))))), ?_⟩
  try dsimp only [cx_K, cx_w]
  refine ws_rho (ρ' := [some _, some _, none, none]) rfl ?_
  walk_at "s1"
  walk_at "t1"
  refine we_lstS ?_
  walk_at "go"
  refine ⟨(cs, t, 0, [-1]), rfl, ⟨g, Bd.zero⟩, ?_⟩
  walk_at "go"
  refine ⟨(cs, t, many, [0, 1]), rfl, ⟨g, hv⟩, ?_⟩
  walk_at "go"
  walk_at "nm"
  refine we_lcF [(fsM t 0 [-1]).min?, (fsM t many [0, 1]).min?] encO Option.isSome encO (Nat.le_of_ble_eq_true rfl) (wi_seq ?_)
  walk_at "go"
  refine ⟨_, fSeq.l, rfl, fun x hx => ?_, ?_⟩
  · walk_at "nm"
    walk_at "c1"
    walk_at "nm"
    walk_at "go"
    refine ⟨by cases x <;> rfl, rfl, fun h => ?_⟩
    walk_at "go"
    exact ⟨rfl, rfl⟩
  · rw [filt_enc]
    walk_at "go"
    exact ⟨trivial, rfl, rfl⟩
/-! last_unlike -/
def luOne (tail : Int) (s : Str4) (f m : Int) : Int := if decide (s.1 ≤ m) = true then (if decide (s.2.2.1 + s.2.2.2 * m = tail) = true then f else m) else f
def luStep (tail : Int) (f : Int) (s : Str4) : Int := [(s.2.1.getD 0) - 2, (s.2.1.getD 0) - 1].foldl (luOne tail s) f
def luM (ps : List Piece) (tail : Int) : Int := ((stretchesM ps).dropLast).foldl (luStep tail) (-1)
abbrev Det_last_unlike : FT := Det (fun z : List Piece × Int => [encPs z.1, .int z.2]) (fun z => PB 4000 z.1 ∧ z.1.length < 10000000) (fun z => .int (luM z.1 z.2))
theorem str_end : ∀ (ps : List Piece) (s : Str4), s ∈ (stretchesM ps).dropLast → ∃ e, s.2.1 = some e ∧ ∃ q ∈ ps, q.1 = e
  | [], s, h => by cases h
  | [p], s, h => by cases h
  | p :: q :: r, s, h => by
    have e : (stretchesM (p :: q :: r)).dropLast = (p.1, some q.1, p.2.1, p.2.2) :: (stretchesM (q :: r)).dropLast := by
      show ((p.1, some q.1, p.2.1, p.2.2) :: stretchesM (q :: r)).dropLast = _
      cases hs : stretchesM (q :: r) with
      | nil => cases r <;> cases hs
      | cons a l => rfl
    rw [e] at h
    rcases List.mem_cons.mp h with rfl | h
    · exact ⟨q.1, rfl, q, by simp, rfl⟩
    · obtain ⟨e, h1, x, hx, h2⟩ := str_end (q :: r) s h
      exact ⟨e, h1, x, List.mem_cons_of_mem _ hx, h2⟩
theorem cut_last {α : Type} (xs : List α) (f : α → D) : Ab.cutD (xs.map f) none (some (-1)) = (xs.dropLast).map f := by
  unfold Ab.cutD
  have h1 : HT.sIx (xs.map f).length 0 none = 0 := HT.sIx_none _ _
  have h2 : HT.sIx (xs.map f).length (xs.map f).length (some (-1)) = xs.length - 1 := by
    show (if (-1 : Int) < 0 then ((-1 : Int) + ((xs.map f).length : Nat)).toNat else min (-1 : Int).toNat (xs.map f).length) = _
    rw [if_pos (by decide), List.length_map]
    omega
  rw [h1, h2, List.drop_zero, Nat.sub_zero, ← List.map_take, List.dropLast_eq_take]
theorem ok_last_unlike (T : Txt K w mg) : FnOk P w K mg base CX0 2 T.last_unlike.f T.last_unlike.fd P_last_unlike (spG K Det_last_unlike) := by
  refine okDet T.last_unlike.F sc_last_unlike (fun x => rfl) fun cdv A outer s H E z hr pre => ?_
  obtain ⟨ps, tail⟩ := z
  obtain ⟨h1, h2⟩ := pre
  have h1 : PB 4000 ps := h1
  have h2 : ps.length < 10000000 := h2
  have hu := hu_of hr
  refine ⟨_, (pss_cons (ps_set (i := 2) sc_last_unlike.nd rfl (.inl rfl) (pe_un un_neg pe_int))
        (pss_cons (ps_for PassesOwn.never rfl (pi_seq (pe_slice sl_any (pe_call (ok_stretches T) (hr.mono (by omega)) (by rfl) T.stretches.m T.stretches.F.kp T.stretches.b .nil pass0 (pa_cons (pv 0) pa_nil)) po_none (po_some (pe_un un_neg pe_int)))) (pg_tup (n := 4) rfl (pgs_cons (pg_name (i := 3) sc_last_unlike.nd rfl (.inl rfl)) (pgs_cons (pg_name (i := 4) sc_last_unlike.nd rfl (.inl rfl)) (pgs_cons (pg_name (i := 5) sc_last_unlike.nd rfl (.inl rfl)) (pgs_cons (pg_name (i := 6) sc_last_unlike.nd rfl (.inl rfl)) pgs_nil))))) (pss_one (ps_for PassesOwn.never rfl (pi_seq (pe_tup (pa_cons (pe_op op_sub (pv 4) pe_int) (pa_cons (pe_op op_sub (pv 4) pe_int) pa_nil)))) (pg_name (i := 7) sc_last_unlike.nd rfl (.inl rfl)) (pss_one (ps_if (PW.pt (pw_and (pt_cmpR op_ge (pv 7) (pv 3) (nomark _)) (pw_and1 (pt_cmpR op_ne (pe_op op_plus (pv 5) (pe_op op_mulW (pv 6) (pv 7))) (pv 1) (nomark _))))) (pss_one (ps_set (i := 2) sc_last_unlike.nd rfl (.inl rfl) (pv 7))) pss_nil)))))
        (pss_one (ps_ret (pv 2))))), ?_⟩
  try dsimp only [cx_K, cx_w]
  refine ws_rho (ρ' := [some _, some _, none, none, none, none, none, none]) rfl ?_
  walk_at "go"
  refine ws_forB (stretchesM ps).dropLast encS (luStep tail) (-1) [3, 4, 5, 6, 7] (fun b => [some (.d (encPs ps)), some (.d (.int tail)), some (.d (.int b)), none, none, none, none, none]) (fun _ => []) ?_ rfl (fun pre2 x post b e1 e2 => ?_) ?_
  · refine wi_seq ?_
    walk_at "go"
    refine ⟨h2, ?_⟩
    walk_at "go"
    rw [show (Ab.cutD ((stretchesM ps).map encS) none (some (-1))) = _ from cut_last _ _]
    exact ⟨_, fSeq.l, rfl, rfl⟩
  · have hx : x ∈ (stretchesM ps).dropLast := by rw [e1]; simp
    have hx2 : x ∈ stretchesM ps := List.dropLast_subset _ hx
    obtain ⟨e, he, q, hq, hqe⟩ := str_end ps x hx
    have hbd := stretches_bd h1 x hx2
    have hbe : Bd 4000 e := hqe ▸ (h1 q hq).1
    obtain ⟨x1, x2, x3, x4⟩ := x
    have he : x2 = some e := he
    subst he
    have hb4 : Bd 4000 x4 := hbd.2
    walk_at "g4"
    walk_at "nm"
    refine ws_forB [e - 2, e - 1] .int (luOne tail (x1, some e, x3, x4)) b [7] (fun c => [some (.d (encPs ps)), some (.d (.int tail)), some (.d (.int c)), some (.d (.int x1)), some (.d (.int e)), some (.d (.int x3)), some (.d (.int x4)), none]) (fun _ => []) ?_ rfl (fun pre3 m post3 c f1 f2 => ?_) ?_
    · refine wi_seq ?_
      walk_at "go"
      exact ⟨_, fSeq.t, rfl, rfl⟩
    · have hm : Bd 4003 m := by
        have : m ∈ [e - 2, e - 1] := by rw [f1]; simp
        simp only [List.mem_cons, List.not_mem_nil, or_false] at this
        have two : Bd 4000 2 := Bd.mono (k := 4000) (show Bd 2 2 by unfold Bd; decide) (by omega)
        rcases this with rfl | rfl
        · exact (hbe.sub two).mono (by omega)
        · exact (hbe.sub (Bd.one (by omega))).mono (by omega)
      walk_at "g1"
      walk_at "nm"
      have eq1 : luOne tail (x1, some e, x3, x4) c m = if decide (x1 ≤ m) = true then (if decide (x3 + x4 * m = tail) = true then c else m) else c := rfl
      rw [eq1]
      walk_at "go"
      refine ⟨fun h => ?_, fun h => ?_⟩
      · rw [h]
        walk_at "go"
        refine fI2c.i (mulOk hb4 hm (by omega) (by omega) (by omega)) ?_
        walk_at "go"
        cases hd : decide (x3 + x4 * m = tail) with
        | true =>
          walk_at "go"
          exact ⟨rfl, rfl⟩
        | false =>
          walk_at "go"
          exact ⟨rfl, rfl⟩
      · rw [h]
        walk_at "go"
        exact ⟨rfl, rfl⟩
    · walk_at "nm"
      exact ⟨rfl, rfl⟩
  · walk_at "nm"
    walk_at "go"
    exact ⟨rfl, rfl⟩
end
section
variable {P : Program} {w : World} {K : PySem.W.Frag} {mg : Str → Option Value} {base : Heap}
/-! rest_of -/
def lastP (ps : List Piece) : Piece := ps.getLast?.getD (0, 0, 0)
theorem atI_lastP {ps : List Piece} (h : ps ≠ []) : atI (ps.map encP) (-1) = some (encP (lastP ps)) := by
  rcases List.eq_nil_or_concat ps with e | ⟨a, b, e⟩
  · exact absurd e h
  · have e : ps = a ++ [b] := by rw [e]; simp
    rw [e, List.map_append]
    have : lastP (a ++ [b]) = b := by unfold lastP; rw [List.getLast?_concat]; rfl
    rw [this]
    exact atI_last _ _
theorem lastP_in {ps : List Piece} (h : ps ≠ []) : lastP ps ∈ ps := by
  rcases List.eq_nil_or_concat ps with e | ⟨a, b, e⟩
  · exact absurd e h
  · have e : ps = a ++ [b] := by rw [e]; simp
    rw [e]
    have : lastP (a ++ [b]) = b := by unfold lastP; rw [List.getLast?_concat]; rfl
    rw [this]
    simp
theorem luOne_bd {k : Nat} {tail : Int} {s : Str4} {f m : Int} (h1 : Bd k f) (h2 : Bd k m) : Bd k (luOne tail s f m) := by
  unfold luOne
  split
  · split
    · exact h1
    · exact h2
  · exact h1
theorem luFold_bd {tail : Int} : ∀ (xs : List Str4) (f : Int), Bd 4003 f → (∀ s ∈ xs, Bd 4000 (s.2.1.getD 0)) → Bd 4003 (xs.foldl (luStep tail) f)
  | [], f, h, _ => h
  | s :: xs, f, h, hx => by
    have hs := hx s List.mem_cons_self
    have two : Bd 4000 2 := Bd.mono (k := 4000) (show Bd 2 2 by unfold Bd; decide) (by omega)
    have h1 : Bd 4003 ((s.2.1.getD 0) - 2) := (hs.sub two).mono (by omega)
    have h2 : Bd 4003 ((s.2.1.getD 0) - 1) := (hs.sub (Bd.one (by omega))).mono (by omega)
    exact luFold_bd xs _ (luOne_bd (luOne_bd h h1) h2) fun t ht => hx t (List.mem_cons_of_mem _ ht)
theorem luM_bd {ps : List Piece} {tail : Int} (h : PB 4000 ps) : Bd 4003 (luM ps tail) := by
  refine luFold_bd _ _ ((Bd.one (k := 4003) (by omega)).neg) fun s hs => ?_
  obtain ⟨e, he, q, hq, hqe⟩ := str_end ps s hs
  rw [he]
  exact hqe ▸ (h q hq).1
def tlsM (t : Tr) : List Int := (classesM t (spanM t)).map fun ps => (lastP ps).2.1
def szTest (tl : List Int) (span many : Nat) : Bool := decide (span % many = 0) && (List.range span).all fun r => decide (tl.getD r 0 = tl.getD (r % many) 0)
def szStep (tl : List Int) (span : Nat) (size k : Nat) : Nat := if szTest tl span (span - k) = true then span - k else size
def sizeM (tl : List Int) (span : Nat) : Nat := (List.range span).foldl (szStep tl span) span
def stStep (tl : List Int) (span : Nat) (st : Int) (q : List Piece × Nat) : Int := if decide (0 ≤ luM q.1 (tl.getD q.2 0)) = true then max st ((q.2 : Int) + (span : Int) * luM q.1 (tl.getD q.2 0) + 1) else st
def startM (cs : List (List Piece)) (tl : List Int) (span : Nat) : Int := cs.zipIdx.foldl (stStep tl span) 0
def flatB (t : Tr) : Bool := (classesM t (spanM t)).all fun ps => decide ((lastP ps).2.2 = 0)
def encR : Option (Int × List Int) → D
  | none => .non
  | some (s, p) => .tup [.int s, .tup (p.map .int)]
def restM (t : Tr) : Option (Int × List Int) := if flatB t = true then some (startM (classesM t (spanM t)) (tlsM t) (spanM t), (tlsM t).take (sizeM (tlsM t) (spanM t))) else none
abbrev Det_rest_of (C : Addr) : FT := Det (fun z : List Nat × Tr => [plD C z.1 z.2]) (fun z => GoodT z.2 ∧ ∀ ps ∈ classesM z.2 (spanM z.2), ps ≠ []) (fun z => encR (restM z.2))
theorem getD_int {xs : List Int} {r : Nat} (h : r < xs.length) : atI (xs.map D.int) (r : Int) = some (.int (xs.getD r 0)) := by
  refine atI_nat ?_
  rw [List.getElem?_map, List.getD_eq_getElem?_getD, List.getElem?_eq_getElem h]
  rfl
theorem cut_first {α : Type} (xs : List α) (f : α → D) (n : Nat) : Ab.cutD (xs.map f) none (some (n : Int)) = (xs.take n).map f := by
  unfold Ab.cutD
  rw [HT.sIx_none, HT.sIx_nat, List.drop_zero, Nat.sub_zero, List.length_map, ← List.map_take]
  congr 1
  by_cases h : n ≤ xs.length
  · rw [Nat.min_eq_left h]
  · rw [Nat.min_eq_right (by omega), List.take_of_length_le (Nat.le_refl _), List.take_of_length_le (by omega)]
theorem ok_rest_of (T : Txt K w mg) : FnOk P w K mg base CX0 26 T.rest_of.f T.rest_of.fd P_rest_of (spG K (Det_rest_of T.cPlural)) := by
  refine okDet T.rest_of.F sc_rest_of (fun x => rfl) fun cdv A outer s H E z hr pre => ?_
  obtain ⟨cs, t⟩ := z
  obtain ⟨g, hne⟩ := pre
  have g : GoodT t := g
  have hne : ∀ ps ∈ classesM t (spanM t), ps ≠ [] := hne
  have hu := hu_of hr
  have hpos := span_pos t g.lin
  have hsp := g.sp0
  have hc := g.c
  obtain ⟨b1, b2⟩ := classes_bd t (spanM t) g.lin (Nat.dvd_refl _) hpos g.sp
  have b3 : ∀ ps ∈ classesM t (spanM t), PB 4000 ps ∧ ps.length < 10000000 := fun ps hps => ⟨(b2 ps hps).1.mono g.e, by have := (b2 ps hps).2; omega⟩
  have htl : (tlsM t).length = spanM t := by unfold tlsM; rw [List.length_map, b1]
  refine ⟨_, (pss_cons (ps_set (i := 1) sc_rest_of.nd rfl (.inl rfl) (pe_call (ok_common_span T) (hr.mono (by omega)) (by rfl) T.common_span.m T.common_span.F.kp T.common_span.b .nil pass0 (pa_cons (pe_lst (pa_cons (pv 0) pa_nil)) pa_nil)))
        (pss_cons (ps_set (i := 2) sc_rest_of.nd rfl (.inl rfl) (pe_call (ok_plural_classes T) (hr.mono (by omega)) (by rfl) T.plural_classes.m T.plural_classes.F.kp T.plural_classes.b .nil pass0 (pa_cons (pv 0) (pa_cons (pv 1) pa_nil))))
        (pss_cons (ps_if (pt_not (pt_val (pe_callB (cl_all rfl) (by rfl) T.b_all (by decide +kernel) (pa_cons (pe_lc (own := [("pieces", 3)]) (by rfl) sc_rest_of.nd (pi_seq (pv 2)) (blkOk_by (own := [("pieces", 3)]) (N := N_rest_of) (sc := defScope s_rest_of) (by decide +kernel)) (fun _ _ _ _ _ => (pg_name (i := 3) sc_rest_of.nd rfl (.inl rfl))) (fun _ _ _ _ _ => pts_nil) (fun _ _ _ _ _ => (pe_cmpR op_eq (pe_ix (ix_seqK (K := K) rfl) (pe_ix (ix_seqK (K := K) rfl) (pv 3) (pe_un un_neg pe_int) (fun _ _ => rfl)) pe_int (fun _ _ => rfl)) pe_int (nomark _)))) pa_nil)))) (pss_one (ps_ret pe_non)) pss_nil)
        (pss_cons (ps_set (i := 4) sc_rest_of.nd rfl (.inr rfl) (pe_lc (own := [("pieces", 3)]) (by rfl) sc_rest_of.nd (pi_seq (pv 2)) (blkOk_by (own := [("pieces", 3)]) (N := N_rest_of) (sc := defScope s_rest_of) (by decide +kernel)) (fun _ _ _ _ _ => (pg_name (i := 3) sc_rest_of.nd rfl (.inl rfl))) (fun _ _ _ _ _ => pts_nil) (fun _ _ _ _ _ => (pe_ix (ix_seqK (K := K) rfl) (pe_ix (ix_seqK (K := K) rfl) (pv 3) (pe_un un_neg pe_int) (fun _ _ => rfl)) pe_int (fun _ _ => rfl)))))
        (pss_cons (ps_set (i := 5) sc_rest_of.nd rfl (.inl rfl) (pv 1))
        (pss_cons (ps_for PassesOwn.never rfl (pi_range3 (by rfl) T.b_range (pa_cons (pv 1) (pa_cons pe_int (pa_cons (pe_un un_neg pe_int) pa_nil)))) (pg_name (i := 6) sc_rest_of.nd rfl (.inr rfl)) (pss_one (ps_if (PW.pt (pw_and (pt_cmpR op_eq (pe_op op_mod (pv 1) (pv 6)) pe_int (nomark _)) (pw_and1 (pt_val (pe_callB (cl_all rfl) (by rfl) T.b_all (by decide +kernel) (pa_cons (pe_lc (own := [("rest", 7)]) (by rfl) sc_rest_of.nd (pi_range1 (by rfl) T.b_range (pa_cons (pv 1) pa_nil)) (blkOk_by (own := [("rest", 7)]) (N := N_rest_of) (sc := defScope s_rest_of) (by decide +kernel)) (fun _ _ _ _ _ => (pg_name (i := 7) sc_rest_of.nd rfl (.inl rfl))) (fun _ _ _ _ _ => pts_nil) (fun _ _ _ _ _ => (pe_cmpR op_eq (pe_ix (ix_seqK (K := K) rfl) (pv 4) (pv 7) (fun _ _ => rfl)) (pe_ix (ix_seqK (K := K) rfl) (pv 4) (pe_op op_mod (pv 7) (pv 6)) (fun _ _ => rfl)) (nomark _)))) pa_nil)))))) (pss_one (ps_set (i := 5) sc_rest_of.nd rfl (.inl rfl) (pv 6))) pss_nil)))
        (pss_cons (ps_set (i := 8) sc_rest_of.nd rfl (.inl rfl) pe_int)
        (pss_cons (ps_for PassesOwn.never rfl (pi_enum (by rfl) T.b_enumerate (pa_cons (pv 2) pa_nil)) (pg_tup (n := 2) rfl (pgs_cons (pg_name (i := 7) sc_rest_of.nd rfl (.inl rfl)) (pgs_cons (pg_name (i := 3) sc_rest_of.nd rfl (.inl rfl)) pgs_nil))) (pss_cons (ps_set (i := 9) sc_rest_of.nd rfl (.inl rfl) (pe_call (ok_last_unlike T) (hr.mono (by omega)) (by rfl) T.last_unlike.m T.last_unlike.F.kp T.last_unlike.b .nil pass0 (pa_cons (pv 3) (pa_cons (pe_ix ix_seq (pv 4) (pv 7) (fun _ _ => rfl)) pa_nil))))
        (pss_one (ps_if (pt_cmpR op_ge (pv 9) pe_int (nomark _)) (pss_one (ps_set (i := 8) sc_rest_of.nd rfl (.inl rfl) (pe_callB (cl_max2 rfl) (by rfl) T.b_max (by decide +kernel) (pa_cons (pv 8) (pa_cons (pe_op op_plus (pe_op op_plus (pv 7) (pe_op op_mulW (pv 1) (pv 9))) pe_int) pa_nil))))) pss_nil))))
        (pss_one (ps_ret (pe_tup (pa_cons (pv 8) (pa_cons (pe_callTy cl_tup (by rfl) T.b_tuple (by decide +kernel) (pa_cons (pe_slice sl_any (pv 4) po_none (po_some (pv 5))) pa_nil)) pa_nil))))))))))))), ?_⟩
  try dsimp only [cx_K, cx_w]
  refine ws_rho (ρ' := [some _, none, none, none, none, none, none, none, none, none]) rfl ?_
  walk_at "go"
  refine ⟨(cs, t), rfl, g, ?_⟩
  walk_at "go"
  refine ⟨(cs, t, spanM t), rfl, ⟨g, Nat.dvd_refl _, hpos, g.sp⟩, ?_⟩
  walk_at "go"
  walk_at "nm"
  refine we_cut (.d (.lst (((classesM t (spanM t)).map fun ps => decide ((lastP ps).2.2 = 0)).map .bl))) ?_ ?_
  · refine we_lcM (classesM t (spanM t)) encPs (fun ps => .bl (decide ((lastP ps).2.2 = 0))) (by omega) (wi_seq ?_)
    walk_at "go"
    refine ⟨_, fSeq.l, rfl, fun x hx => ?_, ?_⟩
    · walk_at "nm"
      walk_at "c1"
      walk_at "nm"
      refine wt_yes ⟨rfl, ?_⟩
      walk_at "go"
      refine fIx.l (atI_lastP (hne x hx)) ?_
      walk_at "go"
      rw [Bool.xor_false]
      exact ⟨rfl, rfl⟩
    · rw [List.map_map]
      exact ⟨rfl, rfl⟩
  walk_at "go"
  refine fAll.i ⟨_, rfl, ?_⟩
  have hfl : ((classesM t (spanM t)).map fun ps => decide ((lastP ps).2.2 = 0)).all id = flatB t := by
    unfold flatB
    rw [List.all_map]
    rfl
  rw [hfl]
  cases hF : flatB t with
  | false =>
    walk_at "go"
    refine ⟨?_, rfl⟩
    unfold restM
    rw [hF]
    rfl
  | true =>
    have hR : restM t = some (startM (classesM t (spanM t)) (tlsM t) (spanM t), (tlsM t).take (sizeM (tlsM t) (spanM t))) := by
      unfold restM
      rw [hF]
      rfl
    rw [hR]
    walk_at "go"
    refine we_cut (.d (.lst ((tlsM t).map .int))) ?_ ?_
    · refine we_lcM (classesM t (spanM t)) encPs (fun ps => .int (lastP ps).2.1) (by omega) (wi_seq ?_)
      walk_at "go"
      refine ⟨_, fSeq.l, rfl, fun x hx => ?_, ?_⟩
      · walk_at "nm"
        walk_at "c1"
        walk_at "nm"
        refine wt_yes ⟨rfl, ?_⟩
        walk_at "go"
        refine fIx.l (atI_lastP (hne x hx)) ?_
        walk_at "go"
        exact ⟨rfl, rfl⟩
      · unfold tlsM
        rw [List.map_map]
        exact ⟨rfl, rfl⟩
    walk_at "nm"
    walk_at "go"
    walk_at "nm"
    refine ws_forB (List.range (spanM t)) (fun (k : Nat) => D.int ((spanM t - k : Nat) : Int)) (szStep (tlsM t) (spanM t)) (spanM t) [6, 7] (fun b => [some (.d (plD T.cPlural cs t)), some (.d (.int (spanM t : Nat))), some (.d (encPss (classesM t (spanM t)))), none, some (.d (.lst ((tlsM t).map .int))), some (.d (.int (b : Nat))), none, none, none, none]) (fun _ => []) ?_ rfl (fun pre2 k post b e1 e2 => ?_) ?_
    · refine wi_rng3 ?_
      walk_at "go"
      refine ⟨(spanM t : Int), 0, -1, spanM t, rfl, ?_, ?_, rfl⟩
      · have h := RgC.neg (i := (spanM t : Int)) (j := 0) (by omega) (by omega) (by omega) (by omega)
        rw [show ((spanM t : Int) - 0).toNat = spanM t by omega] at h
        exact h
      · refine List.map_congr_left fun k hk => ?_
        have hk := List.mem_range.mp hk
        show D.int _ = D.int _
        congr 1
        omega
    · have hk : k < spanM t := List.mem_range.mp (by rw [e1]; simp)
      have hstep : szStep (tlsM t) (spanM t) b k = if szTest (tlsM t) (spanM t) (spanM t - k) = true then spanM t - k else b := rfl
      have hm0 : 0 < spanM t - k := by omega
      generalize hmany : spanM t - k = many at hstep hm0
      rw [hstep]
      clear e1 e2 hstep
      walk_at "g1"
      walk_at "nm"
      refine ws_if (wt_cut (szTest (tlsM t) (spanM t) many) ?_ ⟨fun h => ?_, fun h => ?_⟩)
      · walk_at "go"
        refine fI2c.i (show (0 : Int) < (many : Nat) by omega) ?_
        walk_at "go"
        have hz : (decide (((spanM t : Nat) : Int) % ((many : Nat) : Int) = 0) ^^ false) = decide (spanM t % many = 0) := by
          rw [Bool.xor_false]
          exact decide_eq_decide.mpr (by omega)
        rw [hz]
        refine ⟨fun h => ?_, fun h => ?_⟩
        · walk_at "go"
          walk_at "nm"
          refine we_cut (.d (.lst (((List.range (spanM t)).map fun r => decide ((tlsM t).getD r 0 = (tlsM t).getD (r % many) 0)).map .bl))) ?_ ?_
          · refine we_lcM (List.range (spanM t)) (fun (i : Nat) => D.int (i : Nat)) (fun r => .bl (decide ((tlsM t).getD r 0 = (tlsM t).getD (r % many) 0))) (by rw [List.length_range]; omega) (wi_rngN rfl (by omega) ⟨rfl, fun r hr => ?_, ?_⟩)
            · have hr := List.mem_range.mp hr
              walk_at "nm"
              walk_at "c1"
              walk_at "nm"
              refine wt_yes ⟨rfl, ?_⟩
              walk_at "go"
              refine fIx.l (getD_int (by omega)) ?_
              walk_at "go"
              refine fI2c.i (show (0 : Int) < (many : Nat) by omega) ?_
              rw [show ((r : Nat) : Int) % ((many : Nat) : Int) = ((r % many : Nat) : Int) from rfl]
              refine fIx.l (getD_int (by have := Nat.mod_le r many; omega)) ?_
              walk_at "go"
              rw [Bool.xor_false]
              exact ⟨rfl, rfl⟩
            · rw [List.map_map]
              exact ⟨rfl, rfl⟩
          walk_at "go"
          refine fAll.i ⟨_, rfl, ?_, rfl⟩
          unfold szTest
          rw [h, List.all_map]
          rfl
        · walk_at "go"
          refine ⟨?_, rfl⟩
          unfold szTest
          rw [h]
          rfl
      · rw [h]
        walk_at "go"
        exact ⟨rfl, rfl⟩
      · rw [h]
        walk_at "go"
        exact ⟨rfl, rfl⟩
    walk_at "nm"
    walk_at "go"
    walk_at "nm"
    refine ws_forB (classesM t (spanM t)).zipIdx (fun q => .tup [.int (q.2 : Nat), encPs q.1]) (stStep (tlsM t) (spanM t)) 0 [3, 7, 9] (fun b => [some (.d (plD T.cPlural cs t)), some (.d (.int (spanM t : Nat))), some (.d (encPss (classesM t (spanM t)))), none, some (.d (.lst ((tlsM t).map .int))), some (.d (.int (sizeM (tlsM t) (spanM t) : Nat))), none, none, some (.d (.int b)), none]) (fun _ => []) ?_ rfl (fun pre2 q post b e1 e2 => ?_) ?_
    · refine wi_enum ?_
      walk_at "go"
      exact ⟨enum_enc encPs _, rfl⟩
    · have hq : q ∈ (classesM t (spanM t)).zipIdx := by rw [e1]; simp
      have hq1 := zipIdx_mem1 hq
      have hq2 := zipIdx_lt hq
      obtain ⟨bb1, bb2⟩ := b3 q.1 hq1
      have hbs : Bd 10 (spanM t : Int) := Bd.nat (show spanM t < 2 ^ 10 by omega)
      have hlu := luM_bd (tail := (tlsM t).getD q.2 0) bb1
      have hstep : stStep (tlsM t) (spanM t) b q = if decide (0 ≤ luM q.1 ((tlsM t).getD q.2 0)) = true then max b ((q.2 : Int) + (spanM t : Int) * luM q.1 ((tlsM t).getD q.2 0) + 1) else b := rfl
      rw [hstep]
      clear e1 e2 hstep
      obtain ⟨ps, r⟩ := q
      walk_at "g2"
      walk_at "nm"
      walk_at "go"
      refine fIx.l (getD_int (by show r < _; omega)) ?_
      walk_at "go"
      refine ⟨(ps, (tlsM t).getD r 0), rfl, ⟨bb1, bb2⟩, ?_⟩
      have hlu : Bd 4003 (luM ps ((tlsM t).getD r 0)) := hlu
      generalize luM ps ((tlsM t).getD r 0) = l at hlu
      walk_at "go"
      refine ⟨fun h => ?_, fun h => ?_⟩
      · rw [h]
        walk_at "go"
        refine fI2c.i (mulOk hbs hlu (by omega) (by omega) (by omega)) ?_
        walk_at "go"
        exact ⟨rfl, rfl⟩
      · rw [h]
        walk_at "go"
        exact ⟨rfl, rfl⟩
    · walk_at "nm"
      walk_at "go"
      rw [show (Ab.cutD ((tlsM t).map .int) none (some ((sizeM (tlsM t) (spanM t) : Nat) : Int))) = _ from cut_first _ _ _]
      refine fTup.l ?_
      walk_at "go"
      exact ⟨rfl, rfl⟩
end
section
variable {P : Program} {w : World} {K : PySem.W.Frag} {mg : Str → Option Value} {base : Heap}
/-! first_values -/
def fv1 (span r : Nat) (a b m : Int) (ps : List (Int × Int)) : List (Int × Int) := kput ps (a + b * m) (min ((r : Int) + (span : Int) * m) ((kget ps (a + b * m)).getD ((r : Int) + (span : Int) * m)))
def manyM (s : Str4) : Int := match s.2.1 with
  | none => if s.2.2.2 = 0 then 1 else 9
  | some e => min (if s.2.2.2 = 0 then 1 else 9) (e - s.1)
def fvT (span r : Nat) (s : Str4) (ps : List (Int × Int)) (i : Nat) : List (Int × Int) := fv1 span r s.2.2.1 s.2.2.2 (s.1 + (i : Int)) ps
def fvS (span r : Nat) (ps : List (Int × Int)) (s : Str4) : List (Int × Int) := (List.range (manyM s).toNat).foldl (fvT span r s) ps
def fvP (span : Nat) (ps : List (Int × Int)) (q : List Piece × Nat) : List (Int × Int) := (stretchesM q.1).foldl (fvS span q.2) ps
def fvK (t : Tr) : List (Int × Int) := (classesM t (spanM t)).zipIdx.foldl (fvP (spanM t)) []
def fvL (t : Tr) : List (List Int) := ((fvK t).map fun p => [p.2, p.1]).mergeSort leL
def fvR (t : Tr) : List (Int × Int) := ((fvL t).take 9).map fun l => (l.getD 1 0, l.getD 0 0)
def encV (p : Int × Int) : D := .tup [.int p.1, .int p.2]
theorem kput_len (ps : List (Int × Int)) (k v : Int) : (kput ps k v).length ≤ ps.length + 1 := by
  unfold kput
  split
  · rw [List.length_map]; omega
  · simp
theorem manyM_le (s : Str4) : (manyM s).toNat ≤ 9 := by
  unfold manyM
  split <;> split <;> omega
theorem foldlen {α : Type} (f : List (Int × Int) → α → List (Int × Int)) (n : Nat) : ∀ (xs : List α) (ps : List (Int × Int)), (∀ ps, ∀ x ∈ xs, (f ps x).length ≤ ps.length + n) → (xs.foldl f ps).length ≤ ps.length + xs.length * n
  | [], ps, _ => by simp
  | x :: xs, ps, h => by
    have h1 := foldlen f n xs (f ps x) fun ps y hy => h ps y (List.mem_cons_of_mem _ hy)
    have h2 := h ps x List.mem_cons_self
    rw [List.foldl_cons, List.length_cons, Nat.add_mul, Nat.one_mul]
    omega
theorem fvS_len (span r : Nat) (ps : List (Int × Int)) (s : Str4) : (fvS span r ps s).length ≤ ps.length + 9 := by
  have h := foldlen (fvT span r s) 1 (List.range (manyM s).toNat) ps fun ps i _ => kput_len _ _ _
  have := manyM_le s
  rw [List.length_range] at h
  unfold fvS
  omega
theorem fvP_len (span : Nat) (ps : List (Int × Int)) (q : List Piece × Nat) : (fvP span ps q).length ≤ ps.length + q.1.length * 9 := by
  have h := foldlen (fvS span q.2) 9 (stretchesM q.1) ps fun ps s _ => fvS_len _ _ ps s
  rw [stretches_len] at h
  exact h
abbrev Det_first_values (C : Addr) : FT := Det (fun z : List Nat × Tr => [plD C z.1 z.2, .int 9]) (fun z => GoodT z.2) (fun z => .lst ((fvR z.2).map encV))
theorem ok_first_values (T : Txt K w mg) : FnOk P w K mg base CX0 26 T.first_values.f T.first_values.fd P_first_values (spG K (Det_first_values T.cPlural)) := by
  refine okDet T.first_values.F sc_first_values (fun x => rfl) fun cdv A outer s H E z hr g => ?_
  obtain ⟨cs, t⟩ := z
  have g : GoodT t := g
  have hu := hu_of hr
  have hpos := span_pos t g.lin
  have hsp := g.sp0
  have hc := g.c2
  have hle := g.e
  obtain ⟨b1, b2⟩ := classes_bd2 t (spanM t) g.lin (Nat.dvd_refl _) hpos g.sp
  have hbs : Bd 10 (spanM t : Int) := Bd.nat (show spanM t < 2 ^ 10 by omega)
  have hlen : ∀ pre2 post, (classesM t (spanM t)).zipIdx = pre2 ++ post → (pre2.foldl (fvP (spanM t)) []).length ≤ pre2.length * (ncM t * 9) ∧ pre2.length + post.length = spanM t := fun pre2 post e => by
    have h := foldlen (fvP (spanM t)) (ncM t * 9) pre2 [] fun ps q hq => by
      have h1 := fvP_len (spanM t) ps q
      have h2 := (b2 q.1 (zipIdx_mem1 (by rw [e]; simp [hq]))).2
      have h3 : q.1.length * 9 ≤ ncM t * 9 := Nat.mul_le_mul_right 9 h2
      omega
    rw [List.length_nil, Nat.zero_add] at h
    refine ⟨h, ?_⟩
    rw [← List.length_append, ← e, List.length_zipIdx, b1]
  refine ⟨_, (pss_cons (ps_set (i := 2) sc_first_values.nd rfl (.inl rfl) (pe_call (ok_common_span T) (hr.mono (by omega)) (by rfl) T.common_span.m T.common_span.F.kp T.common_span.b .nil pass0 (pa_cons (pe_lst (pa_cons (pv 0) pa_nil)) pa_nil)))
        (pss_cons (ps_set (i := 3) sc_first_values.nd rfl (.inl rfl) pe_dnewK)
        (pss_cons (ps_for PassesOwn.never rfl (pi_enum (by rfl) T.b_enumerate (pa_cons (pe_call (ok_plural_classes T) (hr.mono (by omega)) (by rfl) T.plural_classes.m T.plural_classes.F.kp T.plural_classes.b .nil pass0 (pa_cons (pv 0) (pa_cons (pv 2) pa_nil))) pa_nil)) (pg_tup (n := 2) rfl (pgs_cons (pg_name (i := 4) sc_first_values.nd rfl (.inl rfl)) (pgs_cons (pg_name (i := 5) sc_first_values.nd rfl (.inl rfl)) pgs_nil))) (pss_one (ps_for PassesOwn.never rfl (pi_seq (pe_call (ok_stretches T) (hr.mono (by omega)) (by rfl) T.stretches.m T.stretches.F.kp T.stretches.b .nil pass0 (pa_cons (pv 5) pa_nil))) (pg_tup (n := 4) rfl (pgs_cons (pg_name (i := 6) sc_first_values.nd rfl (.inl rfl)) (pgs_cons (pg_name (i := 7) sc_first_values.nd rfl (.inl rfl)) (pgs_cons (pg_name (i := 8) sc_first_values.nd rfl (.inl rfl)) (pgs_cons (pg_name (i := 9) sc_first_values.nd rfl (.inl rfl)) pgs_nil))))) (pss_cons (ps_set (i := 10) sc_first_values.nd rfl (.inl rfl) (pe_ifExp (pt_cmpR op_eq (pv 9) pe_int (nomark _)) pe_int (pv 1)))
        (pss_cons (ps_if (pt_cmpR op_notNo (pv 7) pe_non (nomark _)) (pss_one (ps_set (i := 10) sc_first_values.nd rfl (.inl rfl) (pe_callB (cl_min2 rfl) (by rfl) T.b_min (by decide +kernel) (pa_cons (pv 10) (pa_cons (pe_op op_sub (pv 7) (pv 6)) pa_nil))))) pss_nil)
        (pss_one (ps_for PassesOwn.never rfl (pi_range2A (by rfl) T.b_range (pa_cons (pv 6) (pa_cons (pe_op op_plus (pv 6) (pv 10)) pa_nil))) (pg_name (i := 11) sc_first_values.nd rfl (.inl rfl)) (pss_cons (ps_set (i := 12) sc_first_values.nd rfl (.inl rfl) (pe_op op_plus (pv 4) (pe_op op_mulW (pv 2) (pv 11))))
        (pss_one (ps_dput hu (pv 3) (pe_op op_plus (pv 8) (pe_op op_mulW (pv 9) (pv 11))) (pe_callB (cl_min2 rfl) (by rfl) T.b_min (by decide +kernel) (pa_cons (pv 12) (pa_cons (pe_dget2 hu (pv 3) (pe_op op_plus (pv 8) (pe_op op_mulW (pv 9) (pv 11))) (pv 12) ⟨rfl, rfl, rfl, rfl⟩) pa_nil))) rfl))))))))))
        (pss_cons (ps_set (i := 13) sc_first_values.nd rfl (.inl rfl) (pe_callB (cl_sortT hr.units) (by rfl) T.b_sorted (by decide +kernel) (pa_cons (pe_lock (pe_lc (own := [("value", 14), ("n", 12)]) (by rfl) sc_first_values.nd (pi_items (pv 3)) (blkOk_by (own := [("value", 14), ("n", 12)]) (N := N_first_values) (sc := defScope s_first_values) (by decide +kernel)) (fun _ _ _ _ _ => (pg_tupK (K := K) rfl (n := 2) rfl (pgs_cons (pg_name (i := 14) sc_first_values.nd rfl (.inl rfl)) (pgs_cons (pg_name (i := 12) sc_first_values.nd rfl (.inl rfl)) pgs_nil)))) (fun _ _ _ _ _ => pts_nil) (fun _ _ _ _ _ => (pe_tup (pa_cons (pv 12) (pa_cons (pv 14) pa_nil)))))) pa_nil)))
        (pss_one (ps_ret (pe_lc (own := [("n", 12), ("value", 14)]) (by rfl) sc_first_values.nd (pi_seq (pe_slice sl_any (pv 13) po_none (po_some (pv 1)))) (blkOk_by (own := [("n", 12), ("value", 14)]) (N := N_first_values) (sc := defScope s_first_values) (by decide +kernel)) (fun _ _ _ _ _ => (pg_tupK (K := K) rfl (n := 2) rfl (pgs_cons (pg_name (i := 12) sc_first_values.nd rfl (.inl rfl)) (pgs_cons (pg_name (i := 14) sc_first_values.nd rfl (.inl rfl)) pgs_nil)))) (fun _ _ _ _ _ => pts_nil) (fun _ _ _ _ _ => (pe_tup (pa_cons (pv 14) (pa_cons (pv 12) pa_nil))))))))))), ?_⟩
  try dsimp only [cx_K, cx_w]
  refine ws_rho (ρ' := [some _, some _, none, none, none, none, none, none, none, none, none, none, none, none, none]) rfl ?_
  walk_at "go"
  refine ⟨(cs, t), rfl, g, ?_⟩
  walk_at "go"
  intro p
  walk_at "go"
  refine ws_forB (classesM t (spanM t)).zipIdx (fun q => .tup [.int (q.2 : Nat), encPs q.1]) (fvP (spanM t)) [] [4, 5, 6, 7, 8, 9, 10, 11, 12] (fun _ => [some (.d (plD T.cPlural cs t)), some (.d (.int 9)), some (.d (.int (spanM t : Nat))), some (.v (.ref p)), none, none, none, none, none, none, none, none, none, none, none]) (fun b => [(p, .ho (.dK (kEnc b)))]) ?_ rfl (fun pre2 q post b e1 e2 => ?_) ?_
  · refine wi_enum ?_
    walk_at "go"
    refine ⟨(cs, t, spanM t), rfl, ⟨g, Nat.dvd_refl _, hpos, g.sp⟩, ?_⟩
    walk_at "go"
    exact ⟨enum_enc encPs _, rfl⟩
  · have hq : q ∈ (classesM t (spanM t)).zipIdx := by rw [e1]; simp
    obtain ⟨bb1, bb2⟩ := b2 q.1 (zipIdx_mem1 hq)
    obtain ⟨hl1, hl2⟩ := hlen pre2 (q :: post) e1
    rw [← e2] at hl1
    have hl3 : b.length + q.1.length * 9 < 10000000 := by
      have h3 : pre2.length * (ncM t * 9) ≤ 11 * (ncM t * 9) := Nat.mul_le_mul_right _ (by rw [List.length_cons] at hl2; omega)
      omega
    obtain ⟨ps, r⟩ := q
    clear e1 e2 hl1 hl2 hlen hq
    have bb1 : PB (szE t) ps := bb1
    have hl3 : b.length + ps.length * 9 < 10000000 := hl3
    walk_at "g2"
    walk_at "nm"
    have estr : fvP (spanM t) b (ps, r) = (stretchesM ps).foldl (fvS (spanM t) r) b := rfl
    rw [estr]
    refine ws_forB (stretchesM ps) encS (fvS (spanM t) r) b [6, 7, 8, 9, 10, 11, 12] (fun _ => [some (.d (plD T.cPlural cs t)), some (.d (.int 9)), some (.d (.int (spanM t : Nat))), some (.v (.ref p)), some (.d (.int (r : Nat))), some (.d (encPs ps)), none, none, none, none, none, none, none, none, none]) (fun b => [(p, .ho (.dK (kEnc b)))]) ?_ rfl (fun pre3 y post3 c f1 f2 => ?_) ?_
    · refine wi_seq ?_
      walk_at "go"
      exact ⟨by show ps.length < 10000000; omega, _, fSeq.l, rfl, rfl⟩
    · have hy : y ∈ stretchesM ps := by rw [f1]; simp
      have hy1 := stretches_bd bb1 y hy
      have hy0 := stretches_bd0 bb1 y hy
      have hcl : c.length + 9 < 10000000 := by
        have h := foldlen (fvS (spanM t) r) 9 pre3 b fun ps s _ => fvS_len _ _ ps s
        rw [← f2] at h
        have h4 : ps.length = pre3.length + (post3.length + 1) := by
          rw [← stretches_len ps, f1]; simp
        omega
      clear f1 f2
      have hm9 := manyM_le y
      have efs : fvS (spanM t) r c y = (List.range (manyM y).toNat).foldl (fvT (spanM t) r y) c := rfl
      rw [efs]
      have hmany : manyM y = match y.2.1 with
        | none => if y.2.2.2 = 0 then 1 else 9
        | some e => min (if y.2.2.2 = 0 then 1 else 9) (e - y.1) := rfl
      obtain ⟨y1, y2, y3, y4⟩ := y
      have b0 : Bd 4000 y1 := Bd.mono (show Bd (szE t) y1 from hy0) (by omega)
      have b4 : Bd 4000 y4 := Bd.mono (show Bd (szE t) y4 from hy1.2) (by omega)
      walk_at "g4"
      walk_at "nm"
      refine ws_seq (ws_setE (.d (.int (if y4 = 0 then 1 else 9))) ?_ ?_)
      · walk_at "go"
        by_cases h4 : y4 = 0
        · rw [if_pos h4, h4]
          walk_at "go"
          exact ⟨rfl, rfl⟩
        · rw [if_neg h4, decide_eq_false h4]
          walk_at "go"
          exact ⟨rfl, rfl⟩
      walk_at "nm"
      refine ws_cut [some (.d (plD T.cPlural cs t)), some (.d (.int 9)), some (.d (.int (spanM t : Nat))), some (.v (.ref p)), some (.d (.int (r : Nat))), some (.d (encPs ps)), some (.d (.int y1)), some (.d (encO y2)), some (.d (.int y3)), some (.d (.int y4)), some (.d (.int (manyM (y1, y2, y3, y4)))), none, none, none, none] [(p, .ho (.dK (kEnc c)))] ?_ ?_
      · cases y2 with
        | none =>
          walk_at "go"
          exact ⟨rfl, rfl⟩
        | some e =>
          walk_at "go"
          exact ⟨rfl, rfl⟩
      generalize hM : manyM (y1, y2, y3, y4) = M at hm9 hmany
      clear hmany
      refine ws_forB (List.range M.toNat) (fun (i : Nat) => D.int (y1 + (i : Int))) (fvT (spanM t) r (y1, y2, y3, y4)) c [11, 12] (fun _ => [some (.d (plD T.cPlural cs t)), some (.d (.int 9)), some (.d (.int (spanM t : Nat))), some (.v (.ref p)), some (.d (.int (r : Nat))), some (.d (encPs ps)), some (.d (.int y1)), some (.d (encO y2)), some (.d (.int y3)), some (.d (.int y4)), some (.d (.int M)), none, none, none, none]) (fun b => [(p, .ho (.dK (kEnc b)))]) ?_ rfl (fun pre4 i post4 d k1 k2 => ?_) ?_
      · refine wi_rng2A ?_
        walk_at "go"
        refine ⟨?_, rfl⟩
        rw [show (y1 + M - y1).toNat = M.toNat by omega]
      · have hi : i < M.toNat := List.mem_range.mp (by rw [k1]; simp)
        have hdl : d.length < 10000000 := by
          have h := foldlen (fvT (spanM t) r (y1, y2, y3, y4)) 1 pre4 c fun ps i _ => kput_len _ _ _
          rw [← k2] at h
          have h5 : M.toNat = pre4.length + (post4.length + 1) := by
            have := congrArg List.length k1
            rw [List.length_range, List.length_append, List.length_cons] at this
            exact this
          omega
        clear k1 k2
        have bm : Bd 4001 (y1 + (i : Int)) := b0.add (Bd.mono (k := 4000) (Bd.nat (show i < 2 ^ 4 by omega)) (by omega))
        have efv : fvT (spanM t) r (y1, y2, y3, y4) d i = kput d (y3 + y4 * (y1 + (i : Int))) (min ((r : Int) + (spanM t : Int) * (y1 + (i : Int))) ((kget d (y3 + y4 * (y1 + (i : Int)))).getD ((r : Int) + (spanM t : Int) * (y1 + (i : Int))))) := rfl
        rw [efv]
        generalize y1 + (i : Int) = m at bm
        walk_at "g1"
        walk_at "nm"
        walk_at "go"
        refine fI2c.i (mulOk hbs bm (by omega) (by omega) (by omega)) ?_
        walk_at "go"
        walk_at "nm"
        refine ws_dput1 rfl hdl ?_
        walk_at "go"
        refine we_dget21 rfl ?_
        walk_at "go"
        refine fI2c.i (mulOk b4 bm (by omega) (by omega) (by omega)) ?_
        walk_at "go"
        refine ⟨rfl, ?_⟩
        walk_at "go"
        refine ⟨rfl, ?_⟩
        walk_at "go"
        refine fI2c.i (mulOk b4 bm (by omega) (by omega) (by omega)) ?_
        walk_at "go"
        exact ⟨rfl, rfl, rfl⟩
      · exact ⟨rfl, rfl⟩
    · exact ⟨rfl, rfl⟩
  · have hkl : (fvK t).length ≤ 10000000 := by
      have h := hlen (classesM t (spanM t)).zipIdx [] (by simp)
      rw [List.length_zipIdx, b1] at h
      have h3 : spanM t * (ncM t * 9) ≤ 12 * (ncM t * 9) := Nat.mul_le_mul_right _ hsp
      have h4 : (fvK t).length ≤ spanM t * (ncM t * 9) := h.1
      omega
    show WS K (tSeq _ _) _ [(p, .ho (.dK (kEnc (fvK t))))] _
    walk_at "go"
    refine we_lock (i := 3) (p := p) (ps := fvK t) rfl rfl fun od => ?_
    walk_at "nm"
    refine we_lcM (fvK t) (fun q => D.tup [.int q.1, .int q.2]) (fun q => Ab.encD [q.2, q.1]) (by omega) (wi_items ?_)
    walk_at "go"
    refine ⟨rfl, fun x hx => ?_, ?_⟩
    · obtain ⟨x1, x2⟩ := x
      walk_at "nm"
      walk_at "c2"
      walk_at "nm"
      refine wt_yes ⟨rfl, ?_⟩
      walk_at "go"
      exact ⟨rfl, rfl⟩
    · refine ⟨(fvK t).map fun q => [q.2, q.1], by rw [List.map_map]; rfl, rfl, ?_⟩
      walk_at "go"
      have e3 : ((fvK t).map fun q => Ab.encD [q.2, q.1]) = ((fvK t).map fun q => [q.2, q.1]).map Ab.encD := by rw [List.map_map]; rfl
      rw [e3]
      refine fSort.i (n := 1) (fun l hl => ?_) (by rw [List.length_map]; omega) ?_
      · obtain ⟨q, _, rfl⟩ := List.mem_map.mp hl
        rfl
      have eL : ((fvK t).map fun q => [q.2, q.1]).mergeSort leT = fvL t := by
        have e : leT = leL := by rw [leT_eq]; rfl
        rw [e]
        rfl
      rw [eL]
      refine ws_lessR (List.nil_sublist _) ?_
      walk_at "nm"
      walk_at "go"
      walk_at "nm"
      have hcut : Ab.cutD ((fvL t).map Ab.encD) none (some ((9 : Nat) : Int)) = (fvR t).map fun q => Ab.encD [q.2, q.1] := by
        rw [show Ab.cutD ((fvL t).map Ab.encD) none (some ((9 : Nat) : Int)) = _ from cut_first _ _ _]
        unfold fvR
        rw [List.map_map]
        refine List.map_congr_left fun l hl => ?_
        have hl : l ∈ (fvK t).map fun p => [p.2, p.1] := (List.mergeSort_perm _ _).mem_iff.mp (List.mem_of_mem_take hl)
        obtain ⟨q, _, rfl⟩ := List.mem_map.mp hl
        rfl
      have hrl : (fvR t).length ≤ 9 := by unfold fvR; rw [List.length_map, List.length_take]; omega
      refine we_lcM (fvR t) (fun q => Ab.encD [q.2, q.1]) encV (by omega) (wi_seq ?_)
      walk_at "go"
      rw [show Ab.cutD ((fvL t).map Ab.encD) none (some 9) = _ from hcut]
      refine ⟨_, fSeq.l, rfl, fun x hx => ?_, ?_⟩
      · obtain ⟨x1, x2⟩ := x
        walk_at "nm"
        walk_at "c2"
        walk_at "nm"
        refine wt_yes ⟨rfl, ?_⟩
        walk_at "go"
        exact ⟨rfl, rfl⟩
      · exact ⟨rfl, rfl⟩
end
section
variable {P : Program} {w : World} {K : PySem.W.Frag} {mg : Str → Option Value} {base : Heap}
/-! ### the law's draws -/
abbrev Drw_draw : FT := Drw (fun z : Nat => [.int (z : Nat)]) (fun z => 0 < z ∧ z < 2000) (fun _ => 1) (fun z d => ∃ i : Nat, d = .int (i : Nat) ∧ i < z)
theorem ok_l_draw (T : Txt K w mg) : FnOk P w K mg base CX0 1 T.l_draw.f T.l_draw.fd P_l_draw (spG K Drw_draw) := by
  refine okDrw T.l_draw.F sc_l_draw (fun x => rfl) fun cdv A outer s H E z p deep seed cnt hr pre so hb => ?_
  obtain ⟨h1, h2⟩ := pre
  obtain ⟨s1, s2, s3, s4⟩ := so
  have hu := hu_of hr
  have hzp : (0 : Int) < (z : Nat) := by omega
  have hzb : Bd 20 (z : Int) := Bd.nat (show z < 2 ^ 20 by omega)
  refine ⟨_, (pss_cons (ps_asg (pe_op op_plus (pe_ix ix_seq (pv 0) pe_int (fun _ _ => rfl)) pe_int) (pg_sub (pv 0) pe_int set_list))
        (pss_cons (ps_if (pt_cmpR op_gt (pe_ix ix_seq (pv 0) pe_int (fun _ _ => rfl)) pe_int (nomark _)) (pss_cons (ps_set (i := 2) sc_l_draw.nd rfl (.inl rfl) (pe_op op_mod (pe_callTy cl_int (by rfl) T.b_int (by decide +kernel) (pa_cons (pe_ix ix_seq (pv 0) pe_int (fun _ _ => rfl)) pa_nil)) (pv 1)))
        (pss_cons (ps_asg (pe_op op_fdivW (pe_ix ix_seq (pv 0) pe_int (fun _ _ => rfl)) (pv 1)) (pg_sub (pv 0) pe_int set_list))
        (pss_one (ps_ret (pv 2))))) pss_nil)
        (pss_cons (ps_set (i := 3) sc_l_draw.nd rfl (.inl rfl) (pe_op op_mod (pe_op op_pow (pe_callTy cl_int (by rfl) T.b_int (by decide +kernel) (pa_cons (pe_op op_plus (pe_ix ix_seq (pv 0) pe_int (fun _ _ => rfl)) (pe_op op_mulW pe_int (pe_ix ix_seq (pv 0) pe_int (fun _ _ => rfl)))) pa_nil)) pe_int) pe_int))
        (pss_one (ps_ret (pe_op op_mod (pe_op op_fdivW (pe_op op_mod (pe_op op_mulW (pe_op op_plus (pv 3) (pe_ix ix_seq (pv 0) pe_int (fun _ _ => rfl))) pe_int) pe_int) pe_int) (pv 1))))))), ?_⟩
  try dsimp only [cx_K, cx_w]
  refine ws_rho (ρ' := [some _, some _, none, none]) rfl ?_
  walk_at "s1"
  refine ws_setJ (j := 2) rfl (Nat.le_of_ble_eq_true rfl) ?_
  walk_at "go"
  refine ⟨rfl, ?_⟩
  walk_at "go"
  refine ⟨fun h => ?_, fun h => ?_⟩
  · have hd : 0 < deep := of_decide_eq_true h
    walk_at "go"
    refine fI2c.i hzp ?_
    walk_at "go"
    refine ws_setJ (j := 0) rfl ?_ ?_
    · exact Nat.le_of_ble_eq_true rfl
    walk_at "go"
    refine fI2c.i (divOk hzb hzp (by omega) (by omega)) ?_
    refine ⟨_, rfl, rfl, ?_⟩
    walk_at "go"
    walk_at "nm"
    have hm0 := Int.emod_nonneg deep (show (z : Int) ≠ 0 by omega)
    have hm1 := Int.emod_lt_of_pos deep hzp
    refine ⟨⟨(deep % (z : Int)).toNat, ?_, by omega⟩, ⟨Int.ediv_nonneg s1 (by omega), s2, s3, by omega⟩, by omega⟩
    rw [Int.toNat_of_nonneg hm0]
  · have hb : cnt + 1 ≤ 1000000 := hb
    have hbc : Bd 20 (cnt + 1) := by unfold Bd; omega
    walk_at "go"
    refine fI2c.i (mulOk (k := 13) (show (7919 : Int).natAbs < 2 ^ 13 by decide) hbc (by omega) (by omega) (by omega)) ?_
    walk_at "go"
    refine fI2c.i ⟨by decide, by decide, by omega⟩ ?_
    walk_at "go"
    refine fI2c.i (show (0 : Int) < 2147483647 by decide) ?_
    walk_at "go"
    walk_at "nm"
    have x0 := Int.emod_nonneg ((seed + 7919 * (cnt + 1)) ^ (5 : Int).toNat) (show (2147483647 : Int) ≠ 0 by decide)
    have x1 := Int.emod_lt_of_pos ((seed + 7919 * (cnt + 1)) ^ (5 : Int).toNat) (show (0 : Int) < 2147483647 by decide)
    generalize (seed + 7919 * (cnt + 1)) ^ (5 : Int).toNat % 2147483647 = x at x0 x1
    have hbx : Bd 40 (x + (cnt + 1)) := by unfold Bd; omega
    refine fI2c.i (mulOk (l := 16) hbx (show (40692 : Int).natAbs < 2 ^ 16 by decide) (by omega) (by omega) (by omega)) ?_
    walk_at "go"
    refine fI2c.i (show (0 : Int) < 2147483629 by decide) ?_
    walk_at "go"
    refine fI2c.i (divOk (k := 5) (show (16 : Int).natAbs < 2 ^ 5 by decide) (by decide) (by omega) (by omega)) ?_
    walk_at "go"
    refine fI2c.i hzp ?_
    generalize (x + (cnt + 1)) * 40692 % 2147483629 / 16 = y
    have hm0 := Int.emod_nonneg y (show (z : Int) ≠ 0 by omega)
    have hm1 := Int.emod_lt_of_pos y hzp
    refine ⟨_, rfl, deep, cnt + 1, rfl, ⟨(y % (z : Int)).toNat, ?_, by omega⟩, ⟨s1, s2, s3, by omega⟩, by omega⟩
    rw [Int.toNat_of_nonneg hm0]
end
section
variable {P : Program} {w : World} {K : PySem.W.Frag} {mg : Str → Option Value} {base : Heap}
theorem ok_l_text (T : Txt K w mg) : FnOk P w K mg base CX0 1 T.l_text.f T.l_text.fd P_l_text (spG K Det_text) := by
  refine okDet T.l_text.F sc_l_text (fun x => rfl) fun cdv A outer s H E z hr pre => ?_
  have hu := hu_of hr
  refine ⟨_, (pss_one (ps_ret (pe_callTy cl_tup (by rfl) T.b_tuple (by decide +kernel) (pa_cons (pe_lc (own := [("_law_sign", 1)]) (by rfl) sc_l_text.nd (pi_str (pv 0)) (blkOk_by (own := [("_law_sign", 1)]) (N := N_l_text) (sc := defScope s_l_text) (by decide +kernel)) (fun _ _ _ _ _ => (pg_name (i := 1) sc_l_text.nd rfl (.inl rfl))) (fun _ _ _ _ _ => pts_nil) (fun _ _ _ _ _ => (pe_callB cl_ord (by rfl) T.b_ord (by decide +kernel) (pa_cons (pv 1) pa_nil)))) pa_nil)))), ?_⟩
  try dsimp only [cx_K, cx_w]
  refine ws_rho (ρ' := [some _, none]) rfl ?_
  walk_at "go"
  walk_at "nm"
  refine we_lcM (sCodes z) (fun c => D.str ⟨#[c]⟩) (fun c => .int (c : Nat)) (Nat.le_trans (show (sCodes z).length ≤ 1000000 from pre) (by omega)) (wi_str ?_)
  walk_at "go"
  refine ⟨rfl, fun x hx => ?_, ?_⟩
  · walk_at "nm"
    walk_at "c1"
    walk_at "nm"
    refine wt_yes ⟨rfl, ?_⟩
    walk_at "go"
    refine fOrd.i rfl ?_
    exact ⟨rfl, rfl⟩
  · walk_at "go"
    refine fTup.l ?_
    exact ⟨rfl, rfl⟩
abbrev Det_l_ten : FT := Det (fun z : Nat => [.int (z : Nat)]) (fun z => z ≤ 40) (fun z => .int (10 ^ z : Nat))
theorem ok_l_ten (T : Txt K w mg) : FnOk P w K mg base CX0 1 T.l_ten.f T.l_ten.fd P_l_ten (spG K Det_l_ten) := by
  refine okDet T.l_ten.F sc_l_ten (fun x => rfl) fun cdv A outer s H E z hr pre => ?_
  have pre : z ≤ 40 := pre
  have hu := hu_of hr
  have hfold : ∀ (k : Nat) (pre2 : List Nat), pre2.length = k → pre2.foldl (fun b (_ : Nat) => b * 10) 1 = 10 ^ k := by
    intro k
    induction k with
    | zero => intro l hl; rw [List.length_eq_zero_iff.mp hl]; rfl
    | succ k ih =>
      intro l hl
      rcases List.eq_nil_or_concat l with e | ⟨a, b, e⟩
      · rw [e] at hl; cases hl
      · have e : l = a ++ [b] := by rw [e]; simp
        rw [e, List.foldl_append, ih a (by rw [e] at hl; simpa using hl), Nat.pow_succ]
        rfl
  refine ⟨_, (pss_cons (ps_set (i := 1) sc_l_ten.nd rfl (.inl rfl) pe_int)
        (pss_cons (ps_for PassesOwn.never rfl (pi_range1 (by rfl) T.b_range (pa_cons (pv 0) pa_nil)) (pg_name (i := 2) sc_l_ten.nd rfl (.inl rfl)) (pss_one (ps_set (i := 1) sc_l_ten.nd rfl (.inl rfl) (pe_op op_mulW (pv 1) pe_int))))
        (pss_one (ps_ret (pv 1))))), ?_⟩
  try dsimp only [cx_K, cx_w]
  refine ws_rho (ρ' := [some _, none, none]) rfl ?_
  walk_at "go"
  refine ws_forB (List.range z) (fun (i : Nat) => D.int (i : Nat)) (fun b (_ : Nat) => b * 10) 1 [2] (fun b => [some (.d (.int (z : Nat))), some (.d (.int (b : Nat))), none]) (fun _ => []) (wi_rngN rfl (by omega) ⟨rfl, rfl⟩) rfl (fun pre2 x post b e1 e2 => ?_) ?_
  · have hpl : pre2.length ≤ 40 := by
      have := congrArg List.length e1
      rw [List.length_range, List.length_append, List.length_cons] at this
      omega
    have hb : b ≤ 10 ^ 40 := by
      rw [e2, hfold _ pre2 rfl]
      exact Nat.pow_le_pow_right (by omega) hpl
    have hbb : Bd 200 (b : Int) := Bd.nat (Nat.lt_of_le_of_lt hb (by decide))
    walk_at "g1"
    walk_at "nm"
    walk_at "go"
    refine fI2c.i (mulOk (l := 4) hbb (show (10 : Int).natAbs < 2 ^ 4 by decide) (by omega) (by omega) (by omega)) ?_
    exact ⟨rfl, rfl⟩
  · walk_at "nm"
    walk_at "go"
    rw [hfold z (List.range z) (by rw [List.length_range])]
    exact ⟨rfl, rfl⟩
abbrev Drw_leaf : FT := Drw (fun z : List Int => [.lst (z.map .int)]) (fun z => 0 < z.length ∧ z.length < 2000) (fun _ => 2) (fun z d => ∃ t, d = encTr t ∧ (t = .n ∨ ∃ v ∈ z, t = .num v))
theorem ok_l_leaf (T : Txt K w mg) : FnOk P w K mg base CX0 2 T.l_leaf.f T.l_leaf.fd P_l_leaf (spG K Drw_leaf) := by
  refine okDrw T.l_leaf.F sc_l_leaf (fun x => rfl) fun cdv A outer s H E z p deep seed cnt hr pre so hb => ?_
  obtain ⟨h1, h2⟩ := pre
  have hb : cnt + 2 ≤ 1000000 := hb
  have hu := hu_of hr
  refine ⟨_, (pss_cons (ps_if (pt_cmpR op_eq (pe_call (ok_l_draw T) (hr.mono (by omega)) (by rfl) T.l_draw.m T.l_draw.F.kp T.l_draw.b .nil pass0 (pa_cons (pv 0) (pa_cons pe_int pa_nil))) pe_int (nomark _)) (pss_one (ps_ret (pe_tup (pa_cons pe_str pa_nil)))) pss_nil)
        (pss_one (ps_ret (pe_tup (pa_cons pe_str (pa_cons (pe_ix ix_seq (pv 1) (pe_call (ok_l_draw T) (hr.mono (by omega)) (by rfl) T.l_draw.m T.l_draw.F.kp T.l_draw.b .nil pass0 (pa_cons (pv 0) (pa_cons (pe_callB cl_len (by rfl) T.b_len (by decide +kernel) (pa_cons (pv 1) pa_nil)) pa_nil))) (fun _ _ => rfl)) pa_nil)))))), ?_⟩
  try dsimp only [cx_K, cx_w]
  refine ws_rho (ρ' := [some _, some _]) rfl ?_
  walk_at "s1"
  refine ws_if (wt_test (we_opc (we_drw ?_)))
  walk_at "go"
  refine ⟨rfl, 2, rfl, ⟨by decide, by decide⟩, so, by show cnt + 1 ≤ 1000000; omega, fun d dp c ⟨i, e, hi⟩ so2 hc => ?_⟩
  subst e
  have hc : c ≤ cnt + 1 := hc
  walk_at "go"
  refine ⟨fun h => ?_, fun h => ?_⟩
  · walk_at "go"
    exact ⟨⟨.n, rfl, .inl rfl⟩, so2, by show c ≤ cnt + 2; omega⟩
  · walk_at "go"
    refine we_drw ?_
    walk_at "go"
    rw [List.length_map]
    refine ⟨rfl, z.length, rfl, ⟨h1, h2⟩, so2, by show c + 1 ≤ 1000000; omega, fun d dp2 c2 ⟨i2, e2, hi2⟩ so3 hc2 => ?_⟩
    subst e2
    have hc2 : c2 ≤ c + 1 := hc2
    refine fIx.l (getD_int hi2) ?_
    walk_at "go"
    have hin : z.getD i2 0 ∈ z := by
      rw [List.getD_eq_getElem?_getD, List.getElem?_eq_getElem hi2]
      exact List.getElem_mem hi2
    exact ⟨⟨.num (z.getD i2 0), rfl, .inr ⟨_, hin, rfl⟩⟩, so3, by show c2 ≤ cnt + 2; omega⟩
end
section
variable {P : Program} {w : World} {K : PySem.W.Frag} {mg : Str → Option Value} {base : Heap}
/-! drawn trees -/
inductive DT (ns ds : List Int) : Nat → Tr → Prop
  | n (h : Nat) : DT ns ds h .n
  | num (h : Nat) {v : Int} : v ∈ ns → DT ns ds h (.num v)
  | not {h : Nat} {a : Tr} : DT ns ds h a → DT ns ds (h + 1) (.not a)
  | dm {h : Nat} {o : Op} {a : Tr} {v : Int} : o = .div ∨ o = .mod → DT ns ds h a → v ∈ ds → DT ns ds (h + 1) (.bin o a (.num v))
  | mulr {h : Nat} {a : Tr} {v : Int} : DT ns ds h a → v ∈ ns → DT ns ds (h + 1) (.bin .mul a (.num v))
  | mull {h : Nat} {a : Tr} {v : Int} : DT ns ds h a → v ∈ ns → DT ns ds (h + 1) (.bin .mul (.num v) a)
  | bin {h : Nat} {o : Op} {a b : Tr} : o ≠ .mul → o ≠ .div → o ≠ .mod → DT ns ds h a → DT ns ds h b → DT ns ds (h + 1) (.bin o a b)
  | ite {h : Nat} {a b c : Tr} : DT ns ds h a → DT ns ds h b → DT ns ds h c → DT ns ds (h + 1) (.ite a b c)
def cstL : Nat → Nat
  | 0 => 3
  | h + 1 => 3 * cstL h + 5
abbrev LIn := Nat × List Int × List Int
abbrev Drw_linearH (n : Nat) : FT := Drw (fun z : LIn => [.int (z.1 : Nat), .lst (z.2.1.map .int), .lst (z.2.2.map .int)]) (fun z => z.1 < n ∧ 0 < z.2.1.length ∧ z.2.1.length < 2000 ∧ 0 < z.2.2.length ∧ z.2.2.length < 2000) (fun z => cstL z.1) (fun z d => ∃ t, d = encTr t ∧ DT z.2.1 z.2.2 z.1 t)
inductive LW where
  | o (o : Op) | not | ite
def LW.str : LW → Str
  | .o x => x.str
  | .not => "not"
  | .ite => "if"
def lws : List LW := [.o .or, .o .and, .o .eq, .o .ne, .o .lt, .o .gt, .o .le, .o .ge, .o .add, .o .sub, .o .mul, .o .div, .o .mod, .o .mod, .not, .ite]
theorem rc_linear (T : Txt K w mg) : ∀ n, FnOk P w K mg base CX0 (n + 4) T.l_linear.f T.l_linear.fd P_l_linear (spG K (Drw_linearH n)) := by
  intro n
  induction n with
  | zero => exact okDrw T.l_linear.F sc_l_linear (fun x => rfl) fun cdv A outer s H E z p deep seed cnt hr pre so hb => absurd pre.1 (Nat.not_lt_zero _)
  | succ n ih_l_linear =>
    refine okDrw T.l_linear.F sc_l_linear (fun x => rfl) fun cdv A outer s H E z p deep seed cnt hr pre so hb => ?_
    obtain ⟨h, ns, ds⟩ := z
    obtain ⟨h1, h2, h3, h4, h5⟩ := pre
    have h1 : h < n + 1 := h1
    have h2 : 0 < ns.length := h2
    have h3 : ns.length < 2000 := h3
    have h4 : 0 < ds.length := h4
    have h5 : ds.length < 2000 := h5
    have hb : cnt + (cstL h : Int) ≤ 1000000 := hb
    have hu := hu_of hr
    refine ⟨_, (pss_cons (ps_if (PW.pt (pw_or (pt_cmpR op_eq (pv 1) pe_int (nomark _)) (pw_or1 (pt_cmpR op_eq (pe_call (ok_l_draw T) (hr.mono (by omega)) (by rfl) T.l_draw.m T.l_draw.F.kp T.l_draw.b .nil pass0 (pa_cons (pv 0) (pa_cons pe_int pa_nil))) pe_int (nomark _))))) (pss_one (ps_ret (pe_call (ok_l_leaf T) (hr.mono (by omega)) (by rfl) T.l_leaf.m T.l_leaf.F.kp T.l_leaf.b .nil pass0 (pa_cons (pv 0) (pa_cons (pv 2) pa_nil))))) pss_nil)
          (pss_cons (ps_set (i := 4) sc_l_linear.nd rfl (.inl rfl) (pe_lst (pa_cons pe_str (pa_cons pe_str (pa_cons pe_str (pa_cons pe_str (pa_cons pe_str (pa_cons pe_str (pa_cons pe_str (pa_cons pe_str (pa_cons pe_str (pa_cons pe_str (pa_cons pe_str (pa_cons pe_str (pa_cons pe_str (pa_cons pe_str (pa_cons pe_str (pa_cons pe_str pa_nil))))))))))))))))))
          (pss_cons (ps_set (i := 5) sc_l_linear.nd rfl (.inl rfl) (pe_ix ix_seq (pv 4) (pe_call (ok_l_draw T) (hr.mono (by omega)) (by rfl) T.l_draw.m T.l_draw.F.kp T.l_draw.b .nil pass0 (pa_cons (pv 0) (pa_cons pe_int pa_nil))) (fun _ _ => rfl)))
          (pss_cons (ps_set (i := 6) sc_l_linear.nd rfl (.inl rfl) (pe_call ih_l_linear (hr.mono (by omega)) (by rfl) T.l_linear.m T.l_linear.F.kp T.l_linear.b .nil pass0 (pa_cons (pv 0) (pa_cons (pe_op op_sub (pv 1) pe_int) (pa_cons (pv 2) (pa_cons (pv 3) pa_nil))))))
          (pss_cons (ps_if (pt_cmpR op_eq (pv 5) pe_str (nomark _)) (pss_one (ps_ret (pe_tup (pa_cons pe_str (pa_cons (pv 6) pa_nil))))) pss_nil)
          (pss_cons (ps_if (pt_cmpR op_in_seq (pv 5) (pe_tup (pa_cons pe_str (pa_cons pe_str pa_nil))) (by with_unfolding_all rfl)) (pss_one (ps_ret (pe_tup (pa_cons (pv 5) (pa_cons (pv 6) (pa_cons (pe_tup (pa_cons pe_str (pa_cons (pe_ix ix_seq (pv 3) (pe_call (ok_l_draw T) (hr.mono (by omega)) (by rfl) T.l_draw.m T.l_draw.F.kp T.l_draw.b .nil pass0 (pa_cons (pv 0) (pa_cons (pe_callB cl_len (by rfl) T.b_len (by decide +kernel) (pa_cons (pv 3) pa_nil)) pa_nil))) (fun _ _ => rfl)) pa_nil))) pa_nil)))))) pss_nil)
          (pss_cons (ps_if (pt_cmpR op_eq (pv 5) pe_str (nomark _)) (pss_cons (ps_set (i := 7) sc_l_linear.nd rfl (.inl rfl) (pe_tup (pa_cons pe_str (pa_cons (pe_ix ix_seq (pv 2) (pe_call (ok_l_draw T) (hr.mono (by omega)) (by rfl) T.l_draw.m T.l_draw.F.kp T.l_draw.b .nil pass0 (pa_cons (pv 0) (pa_cons (pe_callB cl_len (by rfl) T.b_len (by decide +kernel) (pa_cons (pv 2) pa_nil)) pa_nil))) (fun _ _ => rfl)) pa_nil))))
          (pss_one (ps_ret (pe_ifExp (pt_cmpR op_eq (pe_call (ok_l_draw T) (hr.mono (by omega)) (by rfl) T.l_draw.m T.l_draw.F.kp T.l_draw.b .nil pass0 (pa_cons (pv 0) (pa_cons pe_int pa_nil))) pe_int (nomark _)) (pe_tup (pa_cons pe_str (pa_cons (pv 6) (pa_cons (pv 7) pa_nil)))) (pe_tup (pa_cons pe_str (pa_cons (pv 7) (pa_cons (pv 6) pa_nil)))))))) pss_nil)
          (pss_cons (ps_setLc (i := 8) (own := [("_law_k", 9)]) (by rfl) sc_l_linear.nd rfl rfl (sw_true rfl rfl rfl (by decide +kernel)) (pi_range1 (by rfl) T.b_range (pa_cons (pe_op op_plus pe_int (pe_callTy cl_int (by rfl) T.b_int (by decide +kernel) (pa_cons (pe_cmpR op_eq (pv 5) pe_str (nomark _)) pa_nil))) pa_nil)) (blkOk_by (own := [("_law_k", 9)]) (N := N_l_linear) (sc := defScope s_l_linear) (by decide +kernel)) (fun _ _ _ _ _ => (pg_name (i := 9) sc_l_linear.nd rfl (.inl rfl))) (fun _ _ _ _ _ => pts_nil) (fun _ _ _ _ _ => (pe_call ih_l_linear (hr.mono (by omega)) (by rfl) T.l_linear.m T.l_linear.F.kp T.l_linear.b .nil pass0 (pa_cons (pv 0) (pa_cons (pe_op op_sub (pv 1) pe_int) (pa_cons (pv 2) (pa_cons (pv 3) pa_nil)))))))
          (pss_one (ps_ret (pe_op op_plus (pe_tup (pa_cons (pv 5) (pa_cons (pv 6) pa_nil))) (pe_callTy cl_tup (by rfl) T.b_tuple (by decide +kernel) (pa_cons (pv 8) pa_nil))))))))))))), ?_⟩
    try dsimp only [cx_K, cx_w]
    refine ws_rho (ρ' := [some _, some _, some _, some _, none, none, none, none, none, none]) rfl ?_
    have hlp : LIn := (h, ns, ds)
    have leafs : ∀ (dp c : Int), SrcOk dp seed c → c + 2 ≤ cnt + (cstL h : Int) → WE K (tCall (spG K Drw_leaf) [] E0 (tCons (tVar 0) (tCons (tVar 2) tNil))) [some (.v (.ref p)), some (.d (.int (h : Nat))), some (.d (.lst (ns.map .int))), some (.d (.lst (ds.map .int))), none, none, none, none, none, none] [srcR p dp seed c] (fun a R' => ∃ d, a = .d d ∧ ∃ deep' cnt', R' = [srcR p deep' seed cnt'] ∧ (∃ t, d = encTr t ∧ DT ns ds h t) ∧ SrcOk deep' seed cnt' ∧ cnt' ≤ cnt + (cstL h : Int)) := fun dp c so hc => by
      refine we_drw ?_
      walk_at "go"
      refine ⟨rfl, ns, rfl, ⟨h2, h3⟩, so, by show c + 2 ≤ 1000000; omega, fun d dp2 c2 ⟨t, e, ht⟩ so2 hc2 => ?_⟩
      have hc2 : c2 ≤ c + 2 := hc2
      refine ⟨d, rfl, dp2, c2, rfl, ⟨t, e, ?_⟩, so2, by omega⟩
      rcases ht with rfl | ⟨v, hv, rfl⟩
      · exact .n h
      · exact .num h hv
    walk_at "s1"
    refine ws_if (wt_or (wt_test (we_opc (we_var rfl (we_cI (fEq.i ⟨_, rfl, fun hz => ?_, fun hz => ?_⟩))))))
    · exact ⟨fun _ => ws_ret (leafs deep cnt so (by cases h <;> (simp only [cstL]; omega))), fun e => (by cases e)⟩
    rw [Bool.xor_false] at hz
    have hz : h ≠ 0 := by have := of_decide_eq_false hz; omega
    obtain ⟨h, rfl⟩ : ∃ k, h = k + 1 := ⟨h - 1, by omega⟩
    have hcs : (cstL (h + 1) : Int) = 3 * (cstL h : Int) + 5 := by simp only [cstL]; omega
    rw [hcs] at hb leafs ⊢
    refine wt_test (we_opc (we_drw ?_))
    walk_at "go"
    refine ⟨rfl, 4, rfl, ⟨by decide, by decide⟩, so, by show cnt + 1 ≤ 1000000; omega, fun d dp1 c1 ⟨i1, e1, hi1⟩ so1 hc1 => ?_⟩
    subst e1
    have hc1 : c1 ≤ cnt + 1 := hc1
    walk_at "ge"
    refine ⟨fun _ => ws_ret (leafs dp1 c1 so1 (by omega)), fun _ => ?_⟩
    clear leafs
    walk_at "go"
    refine we_drw ?_
    walk_at "go"
    refine ⟨rfl, 16, rfl, ⟨by decide, by decide⟩, so1, by show c1 + 1 ≤ 1000000; omega, fun d dp2 c2 ⟨i2, e2, hi2⟩ so2 hc2 => ?_⟩
    subst e2
    have hc2 : c2 ≤ c1 + 1 := hc2
    have hl2 : i2 < lws.length := hi2
    refine fIx.l (d := .str (lws[i2]).str) ?_ ?_
    · refine atI_nat (xs := lws.map fun x => D.str x.str) ?_
      rw [List.getElem?_map, List.getElem?_eq_getElem hl2]
      rfl
    generalize lws[i2] = wd
    clear hi2 hl2
    walk_at "ge"
    walk_at "nm"
    refine ws_seq (ws_set (we_drw ?_))
    walk_at "go"
    rw [show ((h + 1 : Nat) : Int) - 1 = ((h : Nat) : Int) by omega]
    refine ⟨rfl, (h, ns, ds), rfl, ⟨by show h < n; omega, h2, h3, h4, h5⟩, so2, by show c2 + (cstL h : Int) ≤ 1000000; omega, fun d dp3 c3 ⟨ta, e3, hta⟩ so3 hc3 => ?_⟩
    subst e3
    have hc3 : c3 ≤ c2 + (cstL h : Int) := hc3
    have hta : DT ns ds h ta := hta
    walk_at "nm"
    cases wd with
    | not =>
      walk_at "go"
      exact ⟨⟨.not ta, rfl, .not hta⟩, so3, by show c3 ≤ cnt + (cstL (h + 1) : Int); omega⟩
    | ite =>
      walk_at "go"
      · walk_at "nm"
        refine we_lc (wi_rng1 ?_)
        walk_at "go"
        rw [show decide (LW.ite.str = ("if" : Str)) = true by decide +kernel]
        refine ⟨by decide, by decide, fun i acc R' => ∃ (ts : List Tr) (dp c : Int), acc = ts.map encTr ∧ ts.length = i ∧ (∀ t ∈ ts, DT ns ds h t) ∧ R' = [srcR p dp seed c] ∧ SrcOk dp seed c ∧ c ≤ c3 + (i : Int) * (cstL h : Int), ⟨[], dp3, c3, rfl, rfl, (fun t ht => by cases ht), rfl, so3, by simp⟩, fun i y acc R' hy hP => ?_, fun acc R' hP => ?_⟩
        · obtain ⟨ts, dp, c, q1, q2, q3, q4, q5, q6⟩ := hP
          subst q1
          subst q4
          obtain ⟨hi, hyi⟩ := upto_get hy
          subst hyi
          have hi2 : i < 2 := hi
          have hc9 : c + (cstL h : Int) ≤ c3 + ((i + 1 : Nat) : Int) * (cstL h : Int) := by
            rw [Int.natCast_add, Int.add_mul]
            omega
          have hc8 : ((i + 1 : Nat) : Int) * (cstL h : Int) ≤ 2 * (cstL h : Int) := Int.mul_le_mul_of_nonneg_right (by omega) (by omega)
          walk_at "nm"
          walk_at "c1"
          walk_at "nm"
          refine wt_yes ⟨fun _ => ?_, fun e => by cases e⟩
          refine we_drw ?_
          walk_at "go"
          rw [show ((h + 1 : Nat) : Int) - 1 = ((h : Nat) : Int) by omega]
          refine ⟨rfl, (h, ns, ds), rfl, ⟨by show h < n; omega, h2, h3, h4, h5⟩, q5, by show c + (cstL h : Int) ≤ 1000000; omega, fun d dp9 c9 ⟨tb, e9, htb⟩ so9 hc9' => ?_⟩
          subst e9
          have hc9' : c9 ≤ c + (cstL h : Int) := hc9'
          refine ⟨_, rfl, by rw [List.length_map]; omega, ts ++ [tb], dp9, c9, by simp, by simp [q2], fun t ht => ?_, rfl, so9, by omega⟩
          rcases List.mem_append.mp ht with hh | hh
          · exact q3 t hh
          · rw [List.mem_singleton.mp hh]; exact htb
        · obtain ⟨ts, dp, c, q1, q2, q3, q4, q5, q6⟩ := hP
          subst q1
          subst q4
          have q2 : ts.length = 2 := q2
          obtain ⟨tb, tc, rfl⟩ : ∃ tb tc, ts = [tb, tc] := by
            rcases ts with _ | ⟨tb, _ | ⟨tc, _ | ⟨_, _⟩⟩⟩
            · cases q2
            · cases q2
            · exact ⟨tb, tc, rfl⟩
            · simp at q2
          walk_at "nm"
          walk_at "go"
          refine fTup.l ?_
          walk_at "go"
          refine fPlus.t (Nat.le_of_ble_eq_true rfl) ?_
          have q6 : c ≤ c3 + 2 * (cstL h : Int) := q6
          have htb := q3 tb (by simp)
          have htc := q3 tc (by simp)
          exact ⟨_, rfl, dp, c, rfl, ⟨.ite ta tb tc, rfl, .ite hta htb htc⟩, q5, by show c ≤ cnt + (cstL (h + 1) : Int); omega⟩
    | o o =>
      have k1 : decide (o.str = ("not" : Str)) = false := (op_str_ne o).2.2.1
      by_cases hdm : o = .div ∨ o = .mod
      · have k2 : inV (V.str o.str) [V.str "/", V.str "mod"] = true := by rcases hdm with rfl | rfl <;> rfl
        walk_at "go"
        rw [Bool.xor_false]
        refine br_f k1 ?_
        walk_at "go"
        refine br_t k2 ?_
        walk_at "go"
        refine we_drw ?_
        walk_at "go"
        rw [List.length_map]
        refine ⟨rfl, ds.length, rfl, ⟨h4, h5⟩, so3, by show c3 + 1 ≤ 1000000; omega, fun d dp4 c4 ⟨i4, e4, hi4⟩ so4 hc4 => ?_⟩
        subst e4
        have hc4 : c4 ≤ c3 + 1 := hc4
        refine fIx.l (getD_int hi4) ?_
        walk_at "go"
        have hin : ds.getD i4 0 ∈ ds := by
          rw [List.getD_eq_getElem?_getD, List.getElem?_eq_getElem hi4]
          exact List.getElem_mem hi4
        exact ⟨⟨.bin o ta (.num (ds.getD i4 0)), rfl, .dm hdm hta hin⟩, so4, by show c4 ≤ cnt + (cstL (h + 1) : Int); omega⟩
      have k2 : inV (V.str o.str) [V.str "/", V.str "mod"] = false := by cases o <;> first | rfl | exact absurd (.inl rfl) hdm | exact absurd (.inr rfl) hdm
      by_cases hm : o = .mul
      · subst hm
        walk_at "go"
        refine we_drw ?_
        walk_at "go"
        rw [List.length_map]
        refine ⟨rfl, ns.length, rfl, ⟨h2, h3⟩, so3, by show c3 + 1 ≤ 1000000; omega, fun d dp4 c4 ⟨i4, e4, hi4⟩ so4 hc4 => ?_⟩
        subst e4
        have hc4 : c4 ≤ c3 + 1 := hc4
        refine fIx.l (getD_int hi4) ?_
        have hin : ns.getD i4 0 ∈ ns := by
          rw [List.getD_eq_getElem?_getD, List.getElem?_eq_getElem hi4]
          exact List.getElem_mem hi4
        generalize ns.getD i4 0 = v at hin
        walk_at "go"
        walk_at "nm"
        refine we_drw ?_
        walk_at "go"
        refine ⟨rfl, 2, rfl, ⟨by decide, by decide⟩, so4, by show c4 + 1 ≤ 1000000; omega, fun d dp5 c5 ⟨i5, e5, hi5⟩ so5 hc5 => ?_⟩
        subst e5
        have hc5 : c5 ≤ c4 + 1 := hc5
        walk_at "go"
        refine ⟨fun _ => ?_, fun _ => ?_⟩
        · walk_at "go"
          exact ⟨⟨.bin .mul ta (.num v), rfl, .mulr hta hin⟩, so5, by show c5 ≤ cnt + (cstL (h + 1) : Int); omega⟩
        · walk_at "go"
          exact ⟨⟨.bin .mul (.num v) ta, rfl, .mull hta hin⟩, so5, by show c5 ≤ cnt + (cstL (h + 1) : Int); omega⟩
      have k3 : decide (o.str = ("*" : Str)) = false := by cases o <;> first | rfl | exact absurd rfl hm
      have k4 : decide (o.str = ("if" : Str)) = false := (op_str_ne o).2.2.2
      walk_at "go"
      rw [Bool.xor_false]
      refine br_f k1 ?_
      walk_at "go"
      refine br_f k2 ?_
      walk_at "go"
      rw [Bool.xor_false]
      refine br_f k3 ?_
      · walk_at "go"
        walk_at "nm"
        refine we_lc (wi_rng1 ?_)
        walk_at "go"
        rw [show decide ((LW.o o).str = ("if" : Str)) = false from k4]
        refine ⟨by decide, by decide, fun i acc R' => ∃ (ts : List Tr) (dp c : Int), acc = ts.map encTr ∧ ts.length = i ∧ (∀ t ∈ ts, DT ns ds h t) ∧ R' = [srcR p dp seed c] ∧ SrcOk dp seed c ∧ c ≤ c3 + (i : Int) * (cstL h : Int), ⟨[], dp3, c3, rfl, rfl, (fun t ht => by cases ht), rfl, so3, by simp⟩, fun i y acc R' hy hP => ?_, fun acc R' hP => ?_⟩
        · obtain ⟨ts, dp, c, q1, q2, q3, q4, q5, q6⟩ := hP
          subst q1
          subst q4
          obtain ⟨hi, hyi⟩ := upto_get hy
          subst hyi
          have hi2 : i < 1 := hi
          have hc9 : c + (cstL h : Int) ≤ c3 + ((i + 1 : Nat) : Int) * (cstL h : Int) := by
            rw [Int.natCast_add, Int.add_mul]
            omega
          have hc8 : ((i + 1 : Nat) : Int) * (cstL h : Int) ≤ 2 * (cstL h : Int) := Int.mul_le_mul_of_nonneg_right (by omega) (by omega)
          walk_at "nm"
          walk_at "c1"
          walk_at "nm"
          refine wt_yes ⟨fun _ => ?_, fun e => by cases e⟩
          refine we_drw ?_
          walk_at "go"
          rw [show ((h + 1 : Nat) : Int) - 1 = ((h : Nat) : Int) by omega]
          refine ⟨rfl, (h, ns, ds), rfl, ⟨by show h < n; omega, h2, h3, h4, h5⟩, q5, by show c + (cstL h : Int) ≤ 1000000; omega, fun d dp9 c9 ⟨tb, e9, htb⟩ so9 hc9' => ?_⟩
          subst e9
          have hc9' : c9 ≤ c + (cstL h : Int) := hc9'
          refine ⟨_, rfl, by rw [List.length_map]; omega, ts ++ [tb], dp9, c9, by simp, by simp [q2], fun t ht => ?_, rfl, so9, by omega⟩
          rcases List.mem_append.mp ht with hh | hh
          · exact q3 t hh
          · rw [List.mem_singleton.mp hh]; exact htb
        · obtain ⟨ts, dp, c, q1, q2, q3, q4, q5, q6⟩ := hP
          subst q1
          subst q4
          have q2 : ts.length = 1 := q2
          obtain ⟨tb, rfl⟩ := List.length_eq_one_iff.mp q2
          walk_at "nm"
          walk_at "go"
          refine fTup.l ?_
          walk_at "go"
          refine fPlus.t (Nat.le_of_ble_eq_true rfl) ?_
          have q6 : c ≤ c3 + 1 * (cstL h : Int) := q6
          have htb := q3 tb (by simp)
          have hne : o ≠ .div ∧ o ≠ .mod := ⟨fun e => hdm (.inl e), fun e => hdm (.inr e)⟩
          exact ⟨_, rfl, dp, c, rfl, ⟨.bin o ta tb, rfl, .bin hm hne.1 hne.2 hta htb⟩, q5, by show c ≤ cnt + (cstL (h + 1) : Int); omega⟩
end
section
/-! ### drawn trees, plain -/
theorem DT.mono {ns ds : List Int} : ∀ {h : Nat} {t : Tr}, DT ns ds h t → DT ns ds (h + 1) t
  | _, _, .n h => .n _
  | _, _, .num h hv => .num _ hv
  | _, _, .not a => .not a.mono
  | _, _, .dm ho a hv => .dm ho a.mono hv
  | _, _, .mulr a hv => .mulr a.mono hv
  | _, _, .mull a hv => .mull a.mono hv
  | _, _, .bin h1 h2 h3 a b => .bin h1 h2 h3 a.mono b.mono
  | _, _, .ite a b c => .ite a.mono b.mono c.mono
theorem DT.ht {ns ds : List Int} : ∀ {h : Nat} {t : Tr}, DT ns ds h t → Ms.ht t ≤ h
  | _, _, .n h => Nat.zero_le _
  | _, _, .num h hv => Nat.zero_le _
  | _, _, .not a => Nat.succ_le_succ a.ht
  | _, _, .dm ho a hv => by have := a.ht; simp only [Ms.ht]; omega
  | _, _, .mulr a hv => by have := a.ht; simp only [Ms.ht]; omega
  | _, _, .mull a hv => by have := a.ht; simp only [Ms.ht]; omega
  | _, _, .bin h1 h2 h3 a b => by have := a.ht; have := b.ht; simp only [Ms.ht]; omega
  | _, _, .ite a b c => by have := a.ht; have := b.ht; have := c.ht; simp only [Ms.ht]; omega
theorem DT.lin {ns ds : List Int} (hn : ∀ v ∈ ns, 0 ≤ v) (hd : ∀ v ∈ ds, 0 < v) : ∀ {h : Nat} {t : Tr}, DT ns ds h t → linM t = true
  | _, _, .n h => rfl
  | _, _, .num h hv => decide_eq_true (hn _ hv)
  | _, _, .not a => a.lin hn hd
  | _, _, .dm (v := v) ho a hv => by
    have h1 := a.lin hn hd
    have h2 : 0 < v := hd _ hv
    rcases ho with rfl | rfl <;> simp [linM, h1, Tr.isNum, Tr.num?, h2]
  | _, _, .mulr a hv => by
    have h1 := a.lin hn hd
    simp [linM, h1, Tr.isNum, hn _ hv]
  | _, _, .mull a hv => by
    have h1 := a.lin hn hd
    simp [linM, h1, Tr.isNum, hn _ hv]
  | _, _, .bin (o := o) h1 h2 h3 a b => by
    have q1 := a.lin hn hd
    have q2 := b.lin hn hd
    cases o <;> first | exact absurd rfl h1 | exact absurd rfl h2 | exact absurd rfl h3 | simp [linM, q1, q2]
  | _, _, .ite a b c => by
    have q1 := a.lin hn hd
    have q2 := b.lin hn hd
    have q3 := c.lin hn hd
    simp [linM, q1, q2, q3]
def cB : Nat → Nat
  | 0 => 1
  | h + 1 => 6 * (cB h * cB h)
theorem cB_lo : ∀ h, 1 ≤ cB h
  | 0 => Nat.le_refl _
  | h + 1 => by
    have := Nat.mul_pos (cB_lo h) (cB_lo h)
    unfold cB
    omega
theorem DT.szC {ns ds : List Int} : ∀ {h : Nat} {t : Tr}, DT ns ds h t → Ms.szC t ≤ cB h
  | _, _, .n h => cB_lo h
  | _, _, .num h hv => cB_lo h
  | _, _, .not (h := h) a => by
    have h1 := a.szC
    have h2 := Nat.le_mul_of_pos_right (cB h) (cB_lo h)
    simp only [Ms.szC, cB]
    omega
  | _, _, .dm (h := h) ho a hv => by
    have h1 := a.szC
    have h2 := Nat.le_mul_of_pos_right (cB h) (cB_lo h)
    rcases ho with rfl | rfl <;> (simp only [Ms.szC, cB]; omega)
  | _, _, .mulr (h := h) a hv => by
    have h1 := a.szC
    have h2 := Nat.le_mul_of_pos_right (cB h) (cB_lo h)
    simp only [Ms.szC, cB]
    omega
  | _, _, .mull (h := h) a hv => by
    have h1 := a.szC
    have h2 := Nat.le_mul_of_pos_right (cB h) (cB_lo h)
    simp only [Ms.szC, cB]
    omega
  | _, _, .bin (h := h) (o := o) h1 h2 h3 a b => by
    have q := Nat.mul_le_mul a.szC b.szC
    cases o <;> first | exact absurd rfl h1 | exact absurd rfl h2 | exact absurd rfl h3 | (simp only [Ms.szC, cB]; omega)
  | _, _, .ite (h := h) a b c => by
    have q1 := Nat.mul_le_mul a.szC b.szC
    have q2 := Nat.mul_le_mul a.szC c.szC
    simp only [Ms.szC, cB]
    omega
def eB : Nat → Nat
  | 0 => 112
  | h + 1 => 3 * eB h + 30
theorem DT.szE {ns ds : List Int} (hn : ∀ v ∈ ns, v.natAbs < 2 ^ 101) : ∀ {h : Nat} {t : Tr}, DT ns ds h t → Ms.szE t ≤ eB h
  | _, _, .n h => by
    have : ∀ h, 112 ≤ eB h := fun h => by
      induction h with
      | zero => exact Nat.le_refl _
      | succ h ih => simp only [eB]; omega
    exact Nat.le_trans (by decide) (this h)
  | _, _, .num (v := v) h hv => by
    have : ∀ h, 112 ≤ eB h := fun h => by
      induction h with
      | zero => exact Nat.le_refl _
      | succ h ih => simp only [eB]; omega
    have h1 := this h
    have h2 : v.natAbs.log2 < 101 := Bd.log (hn v hv) (by omega)
    simp only [Ms.szE]
    omega
  | _, _, .not a => by have := a.szE hn; simp only [Ms.szE, eB]; omega
  | _, _, .dm ho a hv => by have := a.szE hn; rcases ho with rfl | rfl <;> (simp only [Ms.szE, eB]; omega)
  | _, _, .mulr (v := v) (h := h) a hv => by
    have := a.szE hn
    have h2 : v.natAbs.log2 < 101 := Bd.log (hn v hv) (by omega)
    have h3 := szE_lo
    have : ∀ h, 112 ≤ eB h := fun h => by
      induction h with
      | zero => exact Nat.le_refl _
      | succ h ih => simp only [eB]; omega
    have := this h
    simp only [Ms.szE, eB]
    omega
  | _, _, .mull (v := v) (h := h) a hv => by
    have := a.szE hn
    have h2 : v.natAbs.log2 < 101 := Bd.log (hn v hv) (by omega)
    have : ∀ h, 112 ≤ eB h := fun h => by
      induction h with
      | zero => exact Nat.le_refl _
      | succ h ih => simp only [eB]; omega
    have := this h
    simp only [Ms.szE, eB]
    omega
  | _, _, .bin (o := o) h1 h2 h3 a b => by
    have q1 := a.szE hn
    have q2 := b.szE hn
    cases o <;> first | exact absurd rfl h1 | exact absurd rfl h2 | exact absurd rfl h3 | (simp only [Ms.szE, eB]; omega)
  | _, _, .ite a b c => by
    have q1 := a.szE hn
    have q2 := b.szE hn
    have q3 := c.szE hn
    simp only [Ms.szE, eB]
    omega
theorem DT.nnum {ns ds : List Int} (hn : ∀ v ∈ ns, 0 ≤ v) (hd : ∀ v ∈ ds, 0 < v) : ∀ {h : Nat} {t : Tr}, DT ns ds h t → Ms.nnum t = true
  | _, _, .n h => rfl
  | _, _, .num h hv => decide_eq_true (hn _ hv)
  | _, _, .not a => a.nnum hn hd
  | _, _, .dm (v := v) ho a hv => by
    have h2 : 0 ≤ v := by have := hd _ hv; omega
    simp [Ms.nnum, a.nnum hn hd, h2]
  | _, _, .mulr a hv => by simp [Ms.nnum, a.nnum hn hd, hn _ hv]
  | _, _, .mull a hv => by simp [Ms.nnum, a.nnum hn hd, hn _ hv]
  | _, _, .bin h1 h2 h3 a b => by simp [Ms.nnum, a.nnum hn hd, b.nnum hn hd]
  | _, _, .ite a b c => by simp [Ms.nnum, a.nnum hn hd, b.nnum hn hd, c.nnum hn hd]
end
section
variable {P : Program} {w : World} {K : PySem.W.Frag} {mg : Str → Option Value} {base : Heap}
/-! rank -/
def rkS (o : Op) : Int := opRank o
abbrev Det_l_rank : FT := Det (fun z : Tr => [.str (hdS z)]) (fun _ => True) (fun z => .int (rk z : Nat))
theorem ok_l_rank (T : Txt K w mg) : FnOk P w K mg base CX0 1 T.l_rank.f T.l_rank.fd P_l_rank (spG K Det_l_rank) := by
  refine okDet T.l_rank.F sc_l_rank (fun x => rfl) fun cdv A outer s H E z hr pre => ?_
  have hu := hu_of hr
  refine ⟨_, (pss_cons (ps_set (i := 1) sc_l_rank.nd rfl (.inl rfl) (pe_disp (pps_cons pe_str pe_int (pps_cons pe_str pe_int (pps_cons pe_str pe_int (pps_cons pe_str pe_int (pps_cons pe_str pe_int (pps_cons pe_str pe_int (pps_cons pe_str pe_int (pps_cons pe_str pe_int (pps_cons pe_str pe_int (pps_cons pe_str pe_int (pps_cons pe_str pe_int pps_nil))))))))))) (by rfl) (by rfl) (fun z => by cases z) (by decide)))
        (pss_one (ps_ret (pe_dget2 hu (pv 1) (pv 0) (pe_ifExp (pt_cmpR op_in_seq (pv 0) (pe_tup (pa_cons pe_str (pa_cons pe_str (pa_cons pe_str pa_nil)))) (by with_unfolding_all rfl)) pe_int (pe_ifExp (pt_cmpR op_eq (pv 0) pe_str (nomark _)) pe_int pe_int)) ⟨rfl, rfl, rfl, rfl⟩)))), ?_⟩
  try dsimp only [cx_K, cx_w]
  refine ws_rho (ρ' := [some _, none]) rfl ?_
  refine ws_seq (ws_set (we_disp fun p => ?_))
  walk_at "go"
  refine ⟨List.mem_singleton.mpr rfl, [(.inr "if", .int 0), (.inr "or", .int 1), (.inr "and", .int 2), (.inr "==", .int 3), (.inr "!=", .int 3), (.inr "<", .int 4), (.inr ">", .int 4), (.inr "<=", .int 4), (.inr ">=", .int 4), (.inr "+", .int 5), (.inr "-", .int 5)], rfl, Nat.le_of_ble_eq_true rfl, ?_⟩
  rw [setR_here, setR_nil]
  refine ws_ret (WE.sub (Ψ := fun a R' => a = .d (.int (rk z : Nat))) ?_ fun a R' e => ⟨[], List.nil_sublist _, e, rfl⟩)
  walk_at "nm"
  refine we_dget2 (we_var rfl ⟨p, _, rfl, List.mem_singleton.mpr rfl, we_var rfl ?_⟩)
  cases z with
  | bin o a b =>
    cases o <;> (walk_at "go"; exact ⟨.inr _, rfl, List.mem_singleton.mpr rfl, rfl⟩)
  | _ => walk_at "go"; exact ⟨.inr _, rfl, List.mem_singleton.mpr rfl, rfl⟩
end
section
variable {P : Program} {w : World} {K : PySem.W.Frag} {mg : Str → Option Value} {base : Heap}
abbrev Det_l_compare : FT := Det (fun z : Op × Int × Int => [.str z.1.str, .int z.2.1, .int z.2.2]) (fun z => z.1.isCmp = true) (fun z => .int (b2i (cmpM z.1 z.2.1 z.2.2)))
theorem ok_l_compare (T : Txt K w mg) : FnOk P w K mg base CX0 1 T.l_compare.f T.l_compare.fd P_l_compare (spG K Det_l_compare) := by
  refine okDet T.l_compare.F sc_l_compare (fun x => rfl) fun cdv A outer s H E z hr pre => ?_
  obtain ⟨o, x, y⟩ := z
  have hu := hu_of hr
  refine ⟨_, (pss_cons (ps_set (i := 3) sc_l_compare.nd rfl (.inl rfl) (pe_disp (pps_cons pe_str (pe_cmpR op_eq (pv 1) (pv 2) (nomark _)) (pps_cons pe_str (pe_cmpR op_ne (pv 1) (pv 2) (nomark _)) (pps_cons pe_str (pe_cmpR op_lt (pv 1) (pv 2) (nomark _)) (pps_cons pe_str (pe_cmpR op_gt (pv 1) (pv 2) (nomark _)) pps_nil)))) (by rfl) (by rfl) (fun z => by cases z) (by decide)))
        (pss_cons (ps_dput hu (pv 3) pe_str (pe_not (pe_cmpR op_gt (pv 1) (pv 2) (nomark _))) rfl)
        (pss_cons (ps_dput hu (pv 3) pe_str (pe_not (pe_cmpR op_lt (pv 1) (pv 2) (nomark _))) rfl)
        (pss_one (ps_ret (pe_callTy cl_int (by rfl) T.b_int (by decide +kernel) (pa_cons (pe_dget hu (pv 3) (pv 0) (fun _ _ => rfl)) pa_nil))))))), ?_⟩
  try dsimp only [cx_K, cx_w]
  refine ws_rho (ρ' := [some _, some _, some _, none]) rfl ?_
  refine ws_seq (ws_set (we_disp fun p => ?_))
  walk_at "go"
  refine ⟨List.mem_singleton.mpr rfl, [(.inr "==", .bl (decide (x = y) ^^ false)), (.inr "!=", .bl (decide (x = y) ^^ true)), (.inr "<", .bl (decide (x < y))), (.inr ">", .bl (decide (y < x)))], rfl, Nat.le_of_ble_eq_true rfl, ?_⟩
  rw [setR_here, setR_nil]
  walk_at "nm"
  walk_at "s1"
  refine ws_dput ?_
  walk_at "go"
  refine ⟨p, _, .inr "<=", .bl (!decide (y < x)), rfl, rfl, rfl, List.mem_singleton.mpr rfl, Nat.le_of_ble_eq_true rfl, ?_⟩
  rw [setR_here, setR_nil]
  walk_at "s1"
  refine ws_dput ?_
  walk_at "go"
  refine ⟨p, _, .inr ">=", .bl (!decide (x < y)), rfl, rfl, rfl, List.mem_singleton.mpr rfl, Nat.le_of_ble_eq_true rfl, ?_⟩
  rw [setR_here, setR_nil]
  refine ws_ret (WE.sub (Ψ := fun a R' => a = .d (.int (b2i (cmpM o x y)))) ?_ fun a R' e => ⟨[], List.nil_sublist _, e, rfl⟩)
  walk_at "s1"
  walk_at "s1"
  refine we_dget (we_var rfl (we_var rfl ⟨p, _, .inr o.str, .bl (cmpM o x y), rfl, rfl, List.mem_singleton.mpr rfl, ?_, ?_⟩))
  · have pre : o.isCmp = true := pre
    cases o <;> first | (cases pre; done) | (simp only [cmpM, Bool.xor_false, Bool.xor_true]; rfl)
  walk_at "go"
  cases cmpM o x y <;> rfl
end
section
variable {P : Program} {w : World} {K : PySem.W.Frag} {mg : Str → Option Value} {base : Heap}
theorem ok_l_divisor (T : Txt K w mg) : FnOk P w K mg base CX0 1 T.l_divisor.f T.l_divisor.fd P_l_divisor (spG K Det_common_divisor) := by
  refine okDet T.l_divisor.F sc_l_divisor (fun x => rfl) fun cdv A outer s H E z hr _ => ?_
  obtain ⟨x, y⟩ := z
  have hu := hu_of hr
  refine ⟨_, (pss_cons (ps_while PassesOwn.never (pt_cmpR op_gt (pv 1) pe_int (nomark _)) (pss_one (ps_par (i := 0) (j := 1) (by rfl) sc_l_divisor.nd rfl rfl (by decide) rfl rfl (pa_cons (pv 1) (pa_cons (pe_op op_mod (pe_callTy cl_int (by rfl) T.b_int (by decide +kernel) (pa_cons (pv 0) pa_nil)) (pv 1)) pa_nil)) (by rfl))))
        (pss_one (ps_ret (pv 0)))), ?_⟩
  try dsimp only [cx_K, cx_w]
  refine ws_rho (ρ' := [some _, some _]) rfl ?_
  refine ws_seq ?_
  refine ws_while (fun m ρ' R' => ∃ a b : Nat, m = b ∧ ρ' = [some (.d (.int (a : Nat))), some (.d (.int (b : Nat)))] ∧ R' = [] ∧ Nat.gcd a b = Nat.gcd x y) y ⟨x, y, rfl, rfl, rfl, rfl⟩ fun m ρ' R' ⟨a, b, e1, e2, e3, e4⟩ => ?_
  subst e1
  subst e2
  subst e3
  walk_at "go"
  refine ⟨fun hb => ?_, fun hb => ?_⟩
  · have hb : 0 < m := by have := of_decide_eq_true hb; omega
    walk_at "go"
    refine fI2c.i (show (0 : Int) < (m : Nat) by omega) ?_
    walk_at "go"
    exact ⟨a % m, _, Nat.mod_lt a hb, Le.refl _, m, a % m, rfl, rfl, rfl, by rw [← e4, gcd_turn a m]⟩
  · have hb : m = 0 := by have := of_decide_eq_false hb; omega
    walk_at "go"
    refine ⟨?_, rfl⟩
    subst hb
    rw [← e4, Nat.gcd_zero_right]
theorem ok_l_multiple (T : Txt K w mg) : FnOk P w K mg base CX0 2 T.l_multiple.f T.l_multiple.fd P_l_multiple (spG K Det_common_multiple) := by
  refine okDet T.l_multiple.F sc_l_multiple (fun x => rfl) fun cdv A outer s H E z hr pre => ?_
  obtain ⟨hz1, hz2⟩ := pre
  have hu := hu_of hr
  refine ⟨_, (pss_cons (ps_set (i := 1) sc_l_multiple.nd rfl (.inl rfl) pe_int)
        (pss_cons (ps_for PassesOwn.never rfl (pi_seq (pv 0)) (pg_name (i := 2) sc_l_multiple.nd rfl (.inl rfl)) (pss_one (ps_set (i := 1) sc_l_multiple.nd rfl (.inl rfl) (pe_op op_fdivW (pe_op op_mulW (pv 1) (pv 2)) (pe_call (ok_l_divisor T) (hr.mono (by omega)) (by rfl) T.l_divisor.m T.l_divisor.F.kp T.l_divisor.b .nil pass0 (pa_cons (pv 1) (pa_cons (pv 2) pa_nil)))))))
        (pss_one (ps_ret (pv 1))))), ?_⟩
  try dsimp only [cx_K, cx_w]
  refine ws_rho (ρ' := [some _, none, none]) rfl ?_
  walk_at "go"
  refine ws_forB z (fun n => .int (n : Nat)) Nat.lcm 1 [2] (fun b => [some (.d (.lst (z.map fun n => .int (n : Nat)))), some (.d (.int (b : Nat))), none]) (fun _ => []) ?_ rfl (fun pre2 x post b e1 e2 => ?_) ?_
  · refine wi_seq ?_
    walk_at "go"
    exact ⟨_, fSeq.l, rfl, rfl⟩
  · have hx := hz2 x (by rw [e1]; simp)
    have hb := lcm_fold_bd pre2 1 (by omega) fun n hn => hz2 n (by rw [e1]; simp [hn])
    rw [← e2] at hb
    have hp : pre2.length ≤ 7 := by
      rw [e1] at hz1
      simp only [List.length_append, List.length_cons] at hz1
      omega
    have hb2 : b ≤ 1000 ^ 7 := by
      have h7 : 1000 ^ pre2.length ≤ 1000 ^ 7 := Nat.pow_le_pow_right (by omega) hp
      have h8 := hb.2
      rw [Nat.one_mul] at h8
      exact Nat.le_trans h8 h7
    have hbd : Bd 100 (b : Int) := by unfold Bd; rw [Int.natAbs_natCast]; exact Nat.lt_of_le_of_lt hb2 (by decide)
    have hxd : Bd 100 (x : Int) := by unfold Bd; rw [Int.natAbs_natCast]; exact Nat.lt_of_le_of_lt hx.2 (by decide)
    have hgp : 0 < Nat.gcd b x := Nat.gcd_pos_of_pos_left _ hb.1
    have hgd : Bd 100 ((Nat.gcd b x : Nat) : Int) := by
      unfold Bd; rw [Int.natAbs_natCast]
      exact Nat.lt_of_le_of_lt (Nat.le_trans (Nat.gcd_le_left _ hb.1) hb2) (by decide)
    walk_at "g1"
    walk_at "nm"
    walk_at "go"
    refine fI2c.i (mulOk hbd hxd (by omega) (by omega) (by omega)) ?_
    walk_at "go"
    refine ⟨(b, x), rfl, trivial, ?_⟩
    walk_at "go"
    refine fI2c.i (divOk hgd (show (0 : Int) < ((Nat.gcd b x : Nat) : Int) by omega) (by omega) (by omega)) ?_
    walk_at "go"
    refine ⟨?_, rfl⟩
    walk_at "nm"
    rfl
  · walk_at "nm"
    walk_at "go"
    exact ⟨rfl, rfl⟩
end
section
variable {P : Program} {w : World} {K : PySem.W.Frag} {mg : Str → Option Value} {base : Heap}
def isLeafT : Tr → Bool
  | .n => true
  | .num _ => true
  | _ => false
theorem isLeaf_in (t : Tr) : inV (V.str (hdS t)) [V.str "n", V.str "number"] = isLeafT t := by
  cases t with
  | bin o a b => cases o <;> rfl
  | _ => rfl
theorem cut_one {t : Tr} (h : isLeafT t = false) : ∃ x, encTr t = .tup (x :: (parts t).map encTr) := by
  cases t with
  | n => cases h
  | num v => cases h
  | _ => exact ⟨_, rfl⟩
theorem cut_tail (x : D) (l : List D) : Ab.cutD (x :: l) (some 1) none = l := by
  unfold Ab.cutD
  have h1 : HT.sIx (x :: l).length 0 (some 1) = 1 := by
    show (if (1 : Int) < 0 then ((1 : Int) + ((x :: l).length : Nat)).toNat else min (1 : Int).toNat (x :: l).length) = 1
    rw [if_neg (by decide), List.length_cons]
    exact Nat.min_eq_left (by show 1 ≤ _; omega)
  rw [h1, HT.sIx_none]
  simp
theorem rc_l_span (T : Txt K w mg) : ∀ h, FnOk P w K mg base CX0 (h + 4) T.l_span.f T.l_span.fd P_l_span (spG K (Det_tree_spanH h)) := by
  intro h
  induction h with
  | zero => exact okDet T.l_span.F sc_l_span (fun x => rfl) fun cdv A outer s H E z hr pre => absurd pre.2.2 (Nat.not_lt_zero _)
  | succ h ih_l_span =>
    refine okDet T.l_span.F sc_l_span (fun x => rfl) fun cdv A outer s H E z hr pre => ?_
    obtain ⟨hz1, hz3, hz2⟩ := pre
    have hu := hu_of hr
    have hsp := span_pos z hz1
    have hpb : ∀ x ∈ parts z, linM x = true ∧ 0 < spanM x ∧ spanM x ≤ 1000 ∧ ht x < h := fun x hx => by
      have h1 := lin_parts hz1 x hx
      refine ⟨h1, span_pos x h1, Nat.le_trans (Nat.le_of_dvd hsp (span_dvd hz1 x hx)) hz3, by have := ht_parts x hx; omega⟩
    have hpre : ((parts z).map spanM).length ≤ 8 ∧ ∀ n ∈ (parts z).map spanM, 0 < n ∧ n ≤ 1000 := by
      refine ⟨by cases z <;> simp [parts], fun n hn => ?_⟩
      obtain ⟨x, hx, rfl⟩ := List.mem_map.mp hn
      obtain ⟨p1, p2, p3, p4⟩ := hpb x hx
      exact ⟨p2, p3⟩
    refine ⟨_, (pss_cons (ps_if (pt_cmpR op_in_seq (pe_ix ix_seq (pv 0) pe_int (fun _ _ => rfl)) (pe_tup (pa_cons pe_str (pa_cons pe_str pa_nil))) (by with_unfolding_all rfl)) (pss_one (ps_ret pe_int)) pss_nil)
          (pss_cons (ps_if (pt_cmpR op_in_seq (pe_ix ix_seq (pv 0) pe_int (fun _ _ => rfl)) (pe_tup (pa_cons pe_str (pa_cons pe_str pa_nil))) (by with_unfolding_all rfl)) (pss_one (ps_ret (pe_op op_mulW (pe_call ih_l_span (hr.mono (by omega)) (by rfl) T.l_span.m T.l_span.F.kp T.l_span.b .nil pass0 (pa_cons (pe_ix ix_seq (pv 0) pe_int (fun _ _ => rfl)) pa_nil)) (pe_ix ix_seq (pe_ix ix_seq (pv 0) pe_int (fun _ _ => rfl)) pe_int (fun _ _ => rfl))))) pss_nil)
          (pss_one (ps_ret (pe_call (ok_l_multiple T) (hr.mono (by omega)) (by rfl) T.l_multiple.m T.l_multiple.F.kp T.l_multiple.b .nil pass0 (pa_cons (pe_lc (own := [("_law_part", 1)]) (by rfl) sc_l_span.nd (pi_seq (pe_slice sl_any (pv 0) (po_some pe_int) po_none)) (blkOk_by (own := [("_law_part", 1)]) (N := N_l_span) (sc := defScope s_l_span) (by decide +kernel)) (fun _ _ _ _ _ => (pg_name (i := 1) sc_l_span.nd rfl (.inl rfl))) (fun _ _ _ _ _ => pts_nil) (fun _ _ _ _ _ => (pe_call ih_l_span (hr.mono (by omega)) (by rfl) T.l_span.m T.l_span.F.kp T.l_span.b .nil pass0 (pa_cons (pv 1) pa_nil)))) pa_nil)))))), ?_⟩
    try dsimp only [cx_K, cx_w]
    refine ws_rho (ρ' := [some _, none]) rfl ?_
    walk_at "go"
    rw [isLeaf_in]
    cases hl : isLeafT z with
    | true =>
      walk_at "go"
      refine ⟨?_, rfl⟩
      cases z <;> first | rfl | cases hl
    | false =>
      walk_at "go"
      rw [isDM_in]
      cases hd : isDM z with
      | true =>
        obtain ⟨a, v, o, rfl, hv, hs, ho⟩ := isDM_form hd hz1
        obtain ⟨p1, p2, p3, p4⟩ := hpb a (by simp [parts])
        have hv2 : v.toNat ≤ 1000 := Nat.le_trans (Nat.le_of_dvd hsp (by rw [hs]; exact Nat.dvd_mul_left _ _)) hz3
        have hbv : Bd 10 v := by unfold Bd; omega
        have hba : Bd 10 (spanM a : Int) := by unfold Bd; rw [Int.natAbs_natCast]; omega
        walk_at "go"
        refine ⟨⟨p1, p3, p4⟩, ?_⟩
        walk_at "go"
        refine fI2c.i (mulOk hba hbv (by omega) (by omega) (by omega)) ?_
        refine ⟨?_, rfl⟩
        rw [hs, Int.natCast_mul, Int.toNat_of_nonneg (by omega)]
      | false =>
        obtain ⟨x0, hx0⟩ := cut_one hl
        walk_at "go"
        walk_at "nm"
        refine we_cut (.d (.lst (((parts z).map spanM).map fun n => .int (n : Nat)))) ?_ ?_
        · refine we_lcM (parts z) encTr (fun x => .int (spanM x : Nat)) (by cases z <;> simp [parts]) (wi_seq ?_)
          rw [hx0]
          walk_at "go"
          rw [show Ab.cutD (x0 :: (parts z).map encTr) (some 1) none = _ from cut_tail _ _]
          refine ⟨_, fSeq.t, rfl, fun x hx => ?_, ?_⟩
          · walk_at "nm"
            walk_at "c1"
            walk_at "nm"
            refine wt_yes ⟨rfl, ?_⟩
            walk_at "go"
            obtain ⟨p1, p2, p3, p4⟩ := hpb x hx
            exact ⟨⟨p1, p3, p4⟩, rfl, rfl⟩
          · rw [List.map_map]
            exact ⟨rfl, rfl⟩
        walk_at "go"
        refine ⟨hpre, ?_⟩
        rw [span_fold hd]
        exact ⟨rfl, rfl⟩
abbrev Det_l_span : FT := Det_tree_spanH 9
theorem ok_l_span (T : Txt K w mg) : FnOk P w K mg base CX0 13 T.l_span.f T.l_span.fd P_l_span (spG K Det_l_span) := rc_l_span T 9
end
section
/-! ### how far a value goes, plain -/
theorem dm_small {t : Tr} (hl : linM t = true) (hs : spanM t ≤ 1000) {o : Op} {a : Tr} {v : Int} (e : t = .bin o a (.num v)) (ho : o = .div ∨ o = .mod) : 0 < v ∧ Bd 10 v := by
  subst e
  have hv : 0 < v := by rcases ho with rfl | rfl <;> (simp only [linM, Bool.and_eq_true, decide_eq_true_eq] at hl; exact hl.2)
  have hsp := span_pos _ hl
  have e : spanM (.bin o a (.num v)) = spanM a * v.toNat := by rcases ho with rfl | rfl <;> rfl
  have h2 : v.toNat ≤ 1000 := Nat.le_trans (Nat.le_of_dvd hsp (by rw [e]; exact Nat.dvd_mul_left _ _)) hs
  exact ⟨hv, by unfold Bd; omega⟩
theorem val_bd {k : Nat} {n : Int} (hn : Bd k n) : ∀ t : Tr, linM t = true → spanM t ≤ 1000 → Bd (szE t + k) (valM t n)
  | .n, _, _ => hn.mono (by omega)
  | .num v, _, _ => (nb_bd v).mono (by simp only [szE]; omega)
  | .not a, _, _ => Bd.b2i (by simp only [szE]; omega) _
  | .ite a b c, hl, hs => by
    have sp := span_pos _ hl
    have pb : ∀ x ∈ parts (.ite a b c), linM x = true ∧ spanM x ≤ 1000 := fun x hx => ⟨lin_parts hl x hx, Nat.le_trans (Nat.le_of_dvd sp (span_dvd hl x hx)) hs⟩
    have h2 := val_bd hn b (pb b (by simp [parts])).1 (pb b (by simp [parts])).2
    have h3 := val_bd hn c (pb c (by simp [parts])).1 (pb c (by simp [parts])).2
    simp only [valM]
    split
    · exact h3.mono (by simp only [szE]; omega)
    · exact h2.mono (by simp only [szE]; omega)
  | .bin o a b, hl, hs => by
    have sp := span_pos _ hl
    have pb : ∀ x ∈ parts (.bin o a b), linM x = true ∧ spanM x ≤ 1000 := fun x hx => ⟨lin_parts hl x hx, Nat.le_trans (Nat.le_of_dvd sp (span_dvd hl x hx)) hs⟩
    have h1 := val_bd hn a (pb a (by simp [parts])).1 (pb a (by simp [parts])).2
    have h2 := val_bd hn b (pb b (by simp [parts])).1 (pb b (by simp [parts])).2
    have e1 := szE_lo a
    have e2 := szE_lo b
    have m1 : Bd (szE a + szE b + k) (valM a n) := h1.mono (by omega)
    have m2 : Bd (szE a + szE b + k) (valM b n) := h2.mono (by omega)
    cases o with
    | add => exact (m1.add m2).mono (by simp only [szE]; omega)
    | sub => exact (m1.sub m2).mono (by simp only [szE]; omega)
    | mul =>
      have hx : a.isNum = true ∨ b.isNum = true := by
        simp only [linM, Bool.and_eq_true, Bool.or_eq_true] at hl
        exact hl.1.1
      rcases hx with hx | hx
      · cases a with
        | num v => exact ((nb_bd v).mul h2).mono (by simp only [szE]; omega)
        | _ => cases hx
      · cases b with
        | num v => exact (h1.mul (nb_bd v)).mono (by simp only [szE]; omega)
        | _ => cases hx
    | div =>
      obtain ⟨a', v, o', e, hv, _, ho⟩ := isDM_form (t := .bin .div a b) rfl hl
      cases e
      exact (h1.div hv).mono (by simp only [szE]; omega)
    | mod =>
      obtain ⟨a', v, o', e, hv, _, ho⟩ := isDM_form (t := .bin .mod a b) rfl hl
      cases e
      exact (Bd.mod (dm_small hl hs rfl (.inr rfl)).2 hv).mono (by simp only [szE]; omega)
    | and =>
      simp only [valM]
      split
      · exact Bd.zero
      · exact m2.mono (by simp only [szE]; omega)
    | or =>
      simp only [valM]
      split
      · exact m2.mono (by simp only [szE]; omega)
      · exact m1.mono (by simp only [szE]; omega)
    | _ => exact Bd.b2i (by simp only [szE]; omega) _
end
end Ms
set_option linter.all false
namespace Ms
open Ab
/-! ### first numbers -/
def Least (P : Int → Prop) (o : Option Int) : Prop := match o with
  | none => ∀ n, 0 ≤ n → ¬ P n
  | some x => 0 ≤ x ∧ P x ∧ ∀ n, 0 ≤ n → P n → x ≤ n
theorem Least.cong {P Q : Int → Prop} {o : Option Int} (h : Least P o) (e : ∀ n, 0 ≤ n → (P n ↔ Q n)) : Least Q o := by
  cases o with
  | none => exact fun n hn q => h n hn ((e n hn).mpr q)
  | some x => exact ⟨h.1, (e x h.1).mp h.2.1, fun n hn q => h.2.2 n hn ((e n hn).mpr q)⟩
theorem Least.uniq {P : Int → Prop} {o o' : Option Int} (h : Least P o) (h' : Least P o') : o = o' := by
  cases o with
  | none =>
    cases o' with
    | none => rfl
    | some y => exact (h y h'.1 h'.2.1).elim
  | some x =>
    cases o' with
    | none => exact (h' x h.1 h.2.1).elim
    | some y =>
      have := h.2.2 y h'.1 h'.2.1
      have := h'.2.2 x h.1 h.2.1
      congr 1
      omega
theorem least_min {P : Int → Prop} {ns : List Int} (h1 : ∀ n ∈ ns, 0 ≤ n ∧ P n) (h2 : ∀ n, 0 ≤ n → P n → ∃ x ∈ ns, x ≤ n) : Least P ns.min? := by
  cases hm : ns.min? with
  | none =>
    intro n hn hp
    obtain ⟨x, hx, _⟩ := h2 n hn hp
    rw [List.min?_eq_none_iff.mp hm] at hx
    cases hx
  | some x =>
    obtain ⟨m1, m2⟩ := List.min?_eq_some_iff.mp hm
    refine ⟨(h1 x m1).1, (h1 x m1).2, fun n hn hp => ?_⟩
    obtain ⟨y, hy, hl⟩ := h2 n hn hp
    have := m2 y hy
    omega
theorem idx_at {cs : List (List Piece)} {q : List Piece × Nat} (h : q ∈ cs.zipIdx) : q.2 < cs.length ∧ q.1 = cs.getD q.2 [] := by
  have h := List.mem_zipIdx h
  refine ⟨by omega, ?_⟩
  rw [List.getD_eq_getElem?_getD, List.getElem?_eq_getElem (by omega)]
  simpa using h.2.2
theorem idx_in {cs : List (List Piece)} {r : Nat} (h : r < cs.length) : (cs.getD r [], r) ∈ cs.zipIdx := by
  rw [List.getD_eq_getElem?_getD, List.getElem?_eq_getElem h]
  exact List.mk_mem_zipIdx_iff_getElem?.mpr (List.getElem?_eq_getElem h)
/-- where a number stands -/
theorem split_n {s : Nat} (hs : 0 < s) {n : Int} (hn : 0 ≤ n) : ∃ (r : Nat) (m : Int), r < s ∧ 0 ≤ m ∧ n = (r : Int) + (s : Int) * m := by
  have h1 := Int.emod_add_mul_ediv n s
  have h2 := Int.emod_nonneg n (show (s : Int) ≠ 0 by omega)
  have h3 := Int.emod_lt_of_pos n (show (0 : Int) < s by omega)
  exact ⟨(n % s).toNat, n / s, by omega, Int.ediv_nonneg hn (by omega), by omega⟩
theorem stand {t : Tr} {s : Nat} {cs : List (List Piece)} (hs : 0 < s) (h : CRep cs s t) {n : Int} (hn : 0 ≤ n) : ∃ q ∈ cs.zipIdx, ∃ st ∈ stretchesM q.1, ∃ m : Int, 0 ≤ m ∧ n = (q.2 : Int) + (s : Int) * m ∧ inS st.1 st.2.1 m ∧ st.2.2.1 + st.2.2.2 * m = valM t n := by
  obtain ⟨r, m, hr, hm, e⟩ := split_n hs hn
  obtain ⟨h1, h2⟩ := h
  have hc := h2 r hr
  obtain ⟨st, hst, hi⟩ := hc.ch.find hm
  exact ⟨_, idx_in (by omega), st, hst, m, hm, e, hi, by rw [e]; exact hc.val st hst m hi⟩
theorem stand_val {t : Tr} {s : Nat} {cs : List (List Piece)} (h : CRep cs s t) {q : List Piece × Nat} (hq : q ∈ cs.zipIdx) {st : Str4} (hst : st ∈ stretchesM q.1) : 0 ≤ st.1 ∧ okHL st.1 st.2.1 = true ∧ ∀ m, inS st.1 st.2.1 m → st.2.2.1 + st.2.2.2 * m = valM t ((q.2 : Int) + (s : Int) * m) := by
  obtain ⟨h1, h2⟩ := h
  obtain ⟨q1, q2⟩ := idx_at hq
  have hc := h2 q.2 (by omega)
  rw [← q2] at hc
  exact ⟨(hc.ch.mem st hst).1, (hc.ch.mem st hst).2, fun m hm => hc.val st hst m hm⟩
theorem fs_least {t : Tr} (hl : linM t = true) (value : Int) (signs : List Int) : Least (fun n => sgI (valM t n - value) ∈ signs) (fsM t value signs).min? := by
  have hs := spn_pos t hl
  have hc := classes_rep t hl (spanM t) hs (Nat.dvd_refl _)
  refine least_min (fun n hn => ?_) fun n hn hp => ?_
  · unfold fsM at hn
    obtain ⟨q, hq, hn⟩ := List.mem_flatMap.mp hn
    obtain ⟨st, hst, hn⟩ := List.mem_flatMap.mp hn
    obtain ⟨g, hg, hn⟩ := List.mem_flatMap.mp hn
    unfold fsG at hn
    obtain ⟨s0, s1, s2⟩ := stand_val hc hq hst
    obtain ⟨k1, k2⟩ := signed_chain (st.2.2.1 - value) st.2.2.2 s1
    obtain ⟨k3, k4⟩ := k1.mem g hg
    obtain ⟨k5, k6⟩ := k2 g hg g.1 (inS_start k4)
    have k3 : st.1 ≤ g.1 := k3
    split at hn
    · rename_i hsg
      rw [List.mem_singleton.mp hn]
      have hsg := of_decide_eq_true hsg
      have v := s2 g.1 k6
      refine ⟨?_, ?_⟩
      · have := Int.mul_nonneg (Int.natCast_nonneg (spanM t)) (show 0 ≤ g.1 by omega)
        omega
      · rw [← v, show st.2.2.1 + st.2.2.2 * g.1 - value = st.2.2.1 - value + st.2.2.2 * g.1 by omega, ← k5]
        exact hsg
    · cases hn
  · obtain ⟨q, hq, st, hst, m, hm, e, hi, v⟩ := stand hs hc hn
    obtain ⟨s0, s1, s2⟩ := stand_val hc hq hst
    obtain ⟨k1, k2⟩ := signed_chain (st.2.2.1 - value) st.2.2.2 s1
    obtain ⟨g, hg, hj⟩ := k1.findE hi
    obtain ⟨k5, k6⟩ := k2 g hg m hj
    refine ⟨(q.2 : Int) + (spanM t : Int) * g.1, ?_, ?_⟩
    · unfold fsM
      refine List.mem_flatMap.mpr ⟨q, hq, List.mem_flatMap.mpr ⟨st, hst, List.mem_flatMap.mpr ⟨g, hg, ?_⟩⟩⟩
      unfold fsG
      rw [if_pos]
      · exact List.mem_singleton.mpr rfl
      · refine decide_eq_true ?_
        rw [k5, show st.2.2.1 - value + st.2.2.2 * m = st.2.2.1 + st.2.2.2 * m - value by omega, v]
        exact hp
    · rw [e]
      have := Int.mul_le_mul_of_nonneg_left (show g.1 ≤ m from hj.1) (Int.natCast_nonneg (spanM t))
      omega
theorem fn_least {t : Tr} (hl : linM t = true) (value : Int) : Least (fun n => valM t n = value) (fsM t value [0]).min? :=
  (fs_least hl value [0]).cong fun n _ => by
    rw [List.mem_singleton, sgI_eq0]
    omega
def outV (many v : Int) : Prop := v < 0 ∨ many ≤ v
theorem fo_least {t : Tr} (hl : linM t = true) (many : Int) : Least (fun n => outV many (valM t n)) (foM t many) := by
  have h1 : Least (fun n => valM t n < 0) (fsM t 0 [-1]).min? := (fs_least hl 0 [-1]).cong fun n _ => by
    rw [List.mem_singleton]
    rcases Int.lt_trichotomy (valM t n - 0) 0 with h | h | h
    · rw [sgI_neg h]; omega
    · rw [h, sgI_zero]; omega
    · rw [sgI_pos h]; omega
  have h2 : Least (fun n => many ≤ valM t n) (fsM t many [0, 1]).min? := (fs_least hl many [0, 1]).cong fun n _ => by
    simp only [List.mem_cons, List.not_mem_nil, or_false]
    rcases Int.lt_trichotomy (valM t n - many) 0 with h | h | h
    · rw [sgI_neg h]; omega
    · rw [h, sgI_zero]; omega
    · rw [sgI_pos h]; omega
  unfold foM
  generalize (fsM t 0 [-1]).min? = x at h1
  generalize (fsM t many [0, 1]).min? = y at h2
  refine least_min (fun n hn => ?_) fun n hn hp => ?_
  · simp only [List.mem_filterMap, List.mem_cons, List.not_mem_nil, or_false, id] at hn
    obtain ⟨o, ho, e⟩ := hn
    subst e
    rcases ho with rfl | rfl
    · exact ⟨h1.1, .inl h1.2.1⟩
    · exact ⟨h2.1, .inr h2.2.1⟩
  · rcases hp with hp | hp
    · cases x with
      | none => exact (h1 n hn hp).elim
      | some x => exact ⟨x, by simp, h1.2.2 n hn hp⟩
    · cases y with
      | none => exact (h2 n hn hp).elim
      | some y => exact ⟨y, by simp, h2.2.2 n hn hp⟩
end Ms
set_option linter.all false
namespace Ms
open Ab
/-! ### first values -/
structure FV (t : Tr) (ps : List (Int × Int)) : Prop where
  le9 : ps.length ≤ 9
  val : ∀ p ∈ ps, 0 ≤ p.2 ∧ p.1 = valM t p.2
  asc : ps.Pairwise fun p q => p.2 < q.2
  dis : ps.Pairwise fun p q => p.1 ≠ q.1
  cov : ∀ n, 0 ≤ n → (∃ p ∈ ps, p.1 = valM t n ∧ p.2 ≤ n) ∨ (ps.length = 9 ∧ ∀ p ∈ ps, p.2 < n)
def cnd1 (s : Nat) (q : List Piece × Nat) (st : Str4) (i : Nat) : Int × Int := (st.2.2.1 + st.2.2.2 * (st.1 + (i : Int)), (q.2 : Int) + (s : Int) * (st.1 + (i : Int)))
def cnd (s : Nat) (cs : List (List Piece)) : List (Int × Int) := cs.zipIdx.flatMap fun q => (stretchesM q.1).flatMap fun st => (List.range (manyM st).toNat).map (cnd1 s q st)
def putC (ps : List (Int × Int)) (c : Int × Int) : List (Int × Int) := kput ps c.1 (min c.2 ((kget ps c.1).getD c.2))
theorem fvK_eq (t : Tr) : fvK t = (cnd (spanM t) (classesM t (spanM t))).foldl putC [] := by
  unfold fvK cnd
  rw [List.foldl_flatMap]
  congr 1
  funext ps q
  show (stretchesM q.1).foldl (fvS (spanM t) q.2) ps = _
  rw [List.foldl_flatMap]
  congr 1
  funext ps st
  show (List.range (manyM st).toNat).foldl (fvT (spanM t) q.2 st) ps = _
  rw [List.foldl_map]
  rfl
structure KInv (ps cs : List (Int × Int)) : Prop where
  nd : ps.Pairwise fun p q => p.1 ≠ q.1
  sub : ∀ p ∈ ps, p ∈ cs
  all : ∀ c ∈ cs, ∃ p ∈ ps, p.1 = c.1 ∧ p.2 ≤ c.2
theorem pw_uniq {ps : List (Int × Int)} (h : ps.Pairwise fun p q => p.1 ≠ q.1) : ∀ p ∈ ps, ∀ q ∈ ps, p.1 = q.1 → p = q := by
  induction h with
  | nil => intro p hp; cases hp
  | cons h1 _ ih =>
    intro p hp q hq e
    rcases List.mem_cons.mp hp with e1 | hp
    · rcases List.mem_cons.mp hq with e2 | hq
      · rw [e1, e2]
      · rw [e1] at e
        exact (h1 q hq e).elim
    · rcases List.mem_cons.mp hq with e2 | hq
      · rw [e2] at e
        exact (h1 p hp e.symm).elim
      · exact ih p hp q hq e
theorem KInv.put {ps cs : List (Int × Int)} (h : KInv ps cs) (c : Int × Int) : KInv (putC ps c) (cs ++ [c]) := by
  obtain ⟨k, v⟩ := c
  unfold putC kput kget
  cases hf : ps.find? fun p => decide (p.1 = k) with
  | none =>
    have hno : ∀ p ∈ ps, p.1 ≠ k := fun p hp e => by
      have := List.find?_eq_none.mp hf p hp
      simp [e] at this
    rw [if_neg (by rw [List.any_eq_true]; rintro ⟨p, hp, e⟩; exact hno p hp (of_decide_eq_true e))]
    show KInv (ps ++ [(k, min v v)]) _
    rw [show min v v = v by omega]
    refine ⟨List.pairwise_append.mpr ⟨h.nd, List.pairwise_singleton _ _, fun p hp q hq => ?_⟩, fun p hp => ?_, fun c hc => ?_⟩
    · rw [List.mem_singleton.mp hq]
      exact hno p hp
    · rcases List.mem_append.mp hp with hp | hp
      · exact List.mem_append.mpr (.inl (h.sub p hp))
      · exact List.mem_append.mpr (.inr hp)
    · rcases List.mem_append.mp hc with hc | hc
      · obtain ⟨p, hp, e⟩ := h.all c hc
        exact ⟨p, List.mem_append.mpr (.inl hp), e⟩
      · exact ⟨c, List.mem_append.mpr (.inr hc), rfl, Int.le_refl _⟩
  | some p0 =>
    have h0 : p0 ∈ ps := List.mem_of_find?_eq_some hf
    have hk : p0.1 = k := by
      have := List.find?_some hf
      simpa using this
    rw [if_pos (by rw [List.any_eq_true]; exact ⟨p0, h0, decide_eq_true hk⟩)]
    show KInv (ps.map fun p => if p.1 = k then (p.1, min v p0.2) else p) _
    have keyf : ∀ p : Int × Int, (if p.1 = k then (p.1, min v p0.2) else p).1 = p.1 := fun p => by split <;> rfl
    refine ⟨List.pairwise_map.mpr (h.nd.imp fun {a b} e => by rw [keyf, keyf]; exact e), fun p hp => ?_, fun c hc => ?_⟩
    · obtain ⟨p1, hp1, rfl⟩ := List.mem_map.mp hp
      split
      · rename_i e
        have e2 := pw_uniq h.nd p1 hp1 p0 h0 (by rw [e, hk])
        rcases Int.le_total v p0.2 with q | q
        · rw [Int.min_eq_left q, e]
          exact List.mem_append.mpr (.inr (List.mem_singleton.mpr rfl))
        · rw [Int.min_eq_right q, e2]
          exact List.mem_append.mpr (.inl (h.sub _ h0))
      · exact List.mem_append.mpr (.inl (h.sub _ hp1))
    · rcases List.mem_append.mp hc with hc | hc
      · obtain ⟨p, hp, e1, e2⟩ := h.all c hc
        refine ⟨_, List.mem_map.mpr ⟨p, hp, rfl⟩, by rw [keyf]; exact e1, ?_⟩
        split
        · rename_i e
          have e3 := pw_uniq h.nd p hp p0 h0 (by rw [e, hk])
          rw [e3] at e2
          show min v p0.2 ≤ _
          omega
        · exact e2
      · rw [List.mem_singleton.mp hc]
        refine ⟨_, List.mem_map.mpr ⟨p0, h0, rfl⟩, by rw [keyf]; exact hk, ?_⟩
        rw [if_pos hk]
        show min v p0.2 ≤ v
        omega
theorem KInv.fold : ∀ (cs ds ps : List (Int × Int)), KInv ps ds → KInv (cs.foldl putC ps) (ds ++ cs)
  | [], ds, ps, h => by rw [List.append_nil]; exact h
  | c :: cs, ds, ps, h => by
    rw [List.foldl_cons, show ds ++ c :: cs = (ds ++ [c]) ++ cs by simp]
    exact KInv.fold cs (ds ++ [c]) (putC ps c) (h.put c)
theorem top9 {R : List (Int × Int)} {n : Int} {k : Nat} (hs : R.Pairwise fun p q => p.2 < q.2) (hF : k ≤ (R.filter fun p => decide (p.2 < n)).length) : ∀ p ∈ R.take k, p.2 < n := by
  intro p hp
  by_cases h : p.2 < n
  · exact h
  · exfalso
    have e := List.take_append_drop k R
    have hs2 := hs
    rw [← e] at hs2
    have hcross := (List.pairwise_append.mp hs2).2.2
    have h1 : (R.filter fun p => decide (p.2 < n)) = ((R.take k).filter fun p => decide (p.2 < n)) ++ ((R.drop k).filter fun p => decide (p.2 < n)) := by rw [← List.filter_append, e]
    have h2 : ((R.drop k).filter fun p => decide (p.2 < n)) = [] := by
      refine List.filter_eq_nil_iff.mpr fun q hq hh => ?_
      have := hcross p hp q hq
      have := of_decide_eq_true hh
      omega
    have h3 : ((R.take k).filter fun p => decide (p.2 < n)).length < (R.take k).length := List.length_filter_lt_length_iff_exists.mpr ⟨p, hp, by simpa using h⟩
    rw [h1, h2, List.append_nil] at hF
    have h4 := List.length_take_le k R
    omega
theorem fv_ok {t : Tr} (hl : linM t = true) : FV t (fvR t) := by
  have hs := spn_pos t hl
  have hc := classes_rep t hl (spanM t) hs (Nat.dvd_refl _)
  have hK : KInv (fvK t) (cnd (spanM t) (classesM t (spanM t))) := by
    rw [fvK_eq]
    have := KInv.fold (cnd (spanM t) (classesM t (spanM t))) [] [] ⟨List.Pairwise.nil, fun p hp => (by cases hp), fun c hc => (by cases hc)⟩
    rw [List.nil_append] at this
    exact this
  -- candidates
  have c1 : ∀ c ∈ cnd (spanM t) (classesM t (spanM t)), 0 ≤ c.2 ∧ c.1 = valM t c.2 := fun c hcm => by
    obtain ⟨q, hq, hcm⟩ := List.mem_flatMap.mp hcm
    obtain ⟨st, hst, hcm⟩ := List.mem_flatMap.mp hcm
    obtain ⟨i, hi, rfl⟩ := List.mem_map.mp hcm
    have hi := List.mem_range.mp hi
    obtain ⟨s0, s1, s2⟩ := stand_val hc hq hst
    have hin : inS st.1 st.2.1 (st.1 + (i : Int)) := ⟨by omega, fun e he => by
      unfold manyM at hi
      rw [he] at hi
      simp only at hi
      split at hi <;> omega⟩
    refine ⟨?_, s2 _ hin⟩
    have := Int.mul_nonneg (Int.natCast_nonneg (spanM t)) (show 0 ≤ st.1 + (i : Int) by omega)
    show 0 ≤ (q.2 : Int) + (spanM t : Int) * (st.1 + (i : Int))
    omega
  have c2 : ∀ q ∈ (classesM t (spanM t)).zipIdx, ∀ st ∈ stretchesM q.1, ∀ i : Nat, (i : Int) < manyM st → cnd1 (spanM t) q st i ∈ cnd (spanM t) (classesM t (spanM t)) := fun q hq st hst i hi =>
    List.mem_flatMap.mpr ⟨q, hq, List.mem_flatMap.mpr ⟨st, hst, List.mem_map.mpr ⟨i, List.mem_range.mpr (by omega), rfl⟩⟩⟩
  -- the sorted list
  have hR : ∃ R : List (Int × Int), fvR t = R.take 9 ∧ R.Perm (fvK t) ∧ R.Pairwise fun p q => p.2 ≤ q.2 := by
    have hp := List.mergeSort_perm ((fvK t).map fun p => [p.2, p.1]) leL
    have hq := List.pairwise_mergeSort leL_trans leL_total ((fvK t).map fun p => [p.2, p.1])
    refine ⟨(fvL t).map fun l => (l.getD 1 0, l.getD 0 0), ?_, ?_, ?_⟩
    · unfold fvR
      rw [List.map_take]
    · have := hp.map fun l => (l.getD 1 0, l.getD 0 0)
      rw [List.map_map] at this
      have e : ((fun l : List Int => (l.getD 1 0, l.getD 0 0)) ∘ fun p : Int × Int => [p.2, p.1]) = id := rfl
      rw [e, List.map_id] at this
      exact this
    · refine List.pairwise_map.mpr (List.Pairwise.imp_of_mem (fun {a b} h1 h2 h => ?_) hq)
      obtain ⟨x, _, rfl⟩ := List.mem_map.mp (hp.mem_iff.mp h1)
      obtain ⟨y, _, rfl⟩ := List.mem_map.mp (hp.mem_iff.mp h2)
      have h : [x.2, x.1] ≤ [y.2, y.1] := of_decide_eq_true h
      show x.2 ≤ y.2
      rcases List.cons_le_cons_iff.mp h with h | h <;> omega
  obtain ⟨R, eR, pR, sR⟩ := hR
  have dR : R.Pairwise fun p q => p.1 ≠ q.1 := (pR.pairwise_iff (fun {x y} h => Ne.symm h)).mpr hK.nd
  have vR : ∀ p ∈ R, 0 ≤ p.2 ∧ p.1 = valM t p.2 := fun p hp => c1 p (hK.sub p (pR.mem_iff.mp hp))
  have aR : R.Pairwise fun p q => p.2 < q.2 := List.Pairwise.imp_of_mem (fun {a b} h1 h2 h => by
    obtain ⟨k1, k2⟩ := h
    have : a.2 ≠ b.2 := fun e => k2 (by rw [(vR a h1).2, (vR b h2).2, e])
    omega) (sR.and dR)
  have allR : ∀ c ∈ cnd (spanM t) (classesM t (spanM t)), ∃ p ∈ R, p.1 = c.1 ∧ p.2 ≤ c.2 := fun c hcm => by
    obtain ⟨p, hp, e⟩ := hK.all c hcm
    exact ⟨p, pR.mem_iff.mpr hp, e⟩
  rw [eR]
  have sub : (R.take 9).Sublist R := List.take_sublist _ _
  refine ⟨List.length_take_le _ _, fun p hp => vR p (sub.subset hp), aR.sublist sub, dR.sublist sub, fun n hn => ?_⟩
  have near : ∀ p ∈ R, p.1 = valM t n → p.2 ≤ n → (∃ p ∈ R.take 9, p.1 = valM t n ∧ p.2 ≤ n) ∨ ((R.take 9).length = 9 ∧ ∀ p ∈ R.take 9, p.2 < n) := fun p hp e1 e2 => by
    have e := List.take_append_drop 9 R
    have hp2 := hp
    rw [← e] at hp2
    rcases List.mem_append.mp hp2 with h | h
    · exact .inl ⟨p, h, e1, e2⟩
    · refine .inr ⟨?_, fun q hq => ?_⟩
      · have := List.length_pos_of_mem h
        rw [List.length_drop] at this
        rw [List.length_take]
        omega
      · rw [← e] at aR
        have := (List.pairwise_append.mp aR).2.2 q hq p h
        omega
  obtain ⟨q, hq, st, hst, m, hm, e, hi, v⟩ := stand hs hc hn
  obtain ⟨i, hii⟩ : ∃ i : Nat, m = st.1 + (i : Int) := ⟨(m - st.1).toNat, by have := hi.1; omega⟩
  by_cases hlt : (i : Int) < manyM st
  · obtain ⟨p, hp, p1, p2⟩ := allR _ (c2 q hq st hst i hlt)
    have p1 : p.1 = st.2.2.1 + st.2.2.2 * (st.1 + (i : Int)) := p1
    have p2 : p.2 ≤ (q.2 : Int) + (spanM t : Int) * (st.1 + (i : Int)) := p2
    rw [← hii] at p1 p2
    exact near p hp (p1.trans v) (by omega)
  · by_cases hb : st.2.2.2 = 0
    · have h1 : (0 : Int) < manyM st := by
        unfold manyM
        have := hi.2
        cases he : st.2.1 with
        | none => simp [hb]
        | some e => simp only [hb]; have := hi.2 e he; have := hi.1; simp; omega
      obtain ⟨p, hp, p1, p2⟩ := allR _ (c2 q hq st hst 0 h1)
      have p1 : p.1 = st.2.2.1 + st.2.2.2 * (st.1 + ((0 : Nat) : Int)) := p1
      have p2 : p.2 ≤ (q.2 : Int) + (spanM t : Int) * (st.1 + ((0 : Nat) : Int)) := p2
      rw [hb] at p1 v
      refine near p hp (by rw [p1, ← v]; omega) ?_
      rw [e, hii]
      have := Int.mul_le_mul_of_nonneg_left (show st.1 + ((0 : Nat) : Int) ≤ st.1 + (i : Int) by omega) (Int.natCast_nonneg (spanM t))
      omega
    · have h9 : manyM st = 9 ∧ 9 ≤ i := by
        unfold manyM at hlt ⊢
        cases he : st.2.1 with
        | none =>
          rw [he] at hlt
          simp only [if_neg hb] at hlt ⊢
          exact ⟨trivial, by omega⟩
        | some e =>
          rw [he] at hlt
          have := hi.2 e he
          have := hi.1
          simp only [if_neg hb] at hlt ⊢
          omega
      have hval : ∀ j : Nat, j < 9 → ∃ p ∈ R.filter (fun p => decide (p.2 < n)), p.1 = st.2.2.1 + st.2.2.2 * (st.1 + (j : Int)) := fun j hj => by
        obtain ⟨p, hp, p1, p2⟩ := allR _ (c2 q hq st hst j (by omega))
        refine ⟨p, List.mem_filter.mpr ⟨hp, decide_eq_true ?_⟩, p1⟩
        have p2 : p.2 ≤ (q.2 : Int) + (spanM t : Int) * (st.1 + (j : Int)) := p2
        have := Int.mul_lt_mul_of_pos_left (show st.1 + (j : Int) < m by omega) (show (0 : Int) < (spanM t : Int) by omega)
        omega
      have hlen : 9 ≤ (R.filter fun p => decide (p.2 < n)).length := by
        have nd : ((List.range 9).map fun j : Nat => st.2.2.1 + st.2.2.2 * (st.1 + (j : Int))).Nodup := by
          refine List.pairwise_map.mpr (List.Pairwise.imp (fun {a b} h e => ?_) (List.nodup_range (n := 9)))
          have e2 : st.2.2.2 * (st.1 + (a : Int)) = st.2.2.2 * (st.1 + (b : Int)) := by omega
          have := Int.eq_of_mul_eq_mul_left hb e2
          exact h (by omega)
        have := nd.length_le_of_subset (l₂ := (R.filter fun p => decide (p.2 < n)).map (·.1)) fun x hx => by
          obtain ⟨j, hj, rfl⟩ := List.mem_map.mp hx
          obtain ⟨p, hp, e⟩ := hval j (List.mem_range.mp hj)
          exact List.mem_map.mpr ⟨p, hp, e⟩
        rw [List.length_map, List.length_map, List.length_range] at this
        exact this
      refine .inr ⟨?_, top9 aR hlen⟩
      have := List.length_filter_le (fun p : Int × Int => decide (p.2 < n)) R
      rw [List.length_take]
      omega
theorem FV.ne {t : Tr} {ps : List (Int × Int)} (h : FV t ps) : ∃ r, ps = (valM t 0, 0) :: r := by
  rcases h.cov 0 (Int.le_refl _) with ⟨p, hp, e1, e2⟩ | ⟨h1, h2⟩
  · have h0 := (h.val p hp).1
    cases ps with
    | nil => cases hp
    | cons q r =>
      have hq := h.val q List.mem_cons_self
      have e : q = p := by
        rcases List.mem_cons.mp hp with e | hp
        · exact e.symm
        · have := (List.pairwise_cons.mp h.asc).1 p hp
          omega
      refine ⟨r, ?_⟩
      rw [e]
      have : p.2 = 0 := by omega
      rw [← e1, ← this]
  · cases ps with
    | nil => cases h1
    | cons q r =>
      have := h2 q List.mem_cons_self
      have := (h.val q List.mem_cons_self).1
      omega
/-- a value's number is the first one with it -/
theorem FV.first {t : Tr} {ps : List (Int × Int)} (h : FV t ps) : ∀ p ∈ ps, Least (fun n => valM t n = p.1) (some p.2) := fun p hp => by
  obtain ⟨h1, h2⟩ := h.val p hp
  refine ⟨h1, h2.symm, fun n hn e => ?_⟩
  rcases h.cov n hn with ⟨q, hq, e1, e2⟩ | ⟨_, h4⟩
  · have := pw_uniq h.dis q hq p hp (by rw [e1, e])
    rw [this] at e2
    exact e2
  · have := h4 p hp
    omega
/-- all values are known, or there are nine -/
theorem FV.know {t : Tr} {ps : List (Int × Int)} (h : FV t ps) (h9 : ps.length < 9) (n : Int) (hn : 0 ≤ n) : valM t n ∈ ps.map (·.1) := by
  rcases h.cov n hn with ⟨q, hq, e1, e2⟩ | ⟨h1, _⟩
  · exact List.mem_map.mpr ⟨q, hq, e1⟩
  · omega
end Ms
set_option linter.all false
namespace Ms
open Ab
/-! ### the rest -/
theorem str_last : ∀ ps : List Piece, ps ≠ [] → stretchesM ps = (stretchesM ps).dropLast ++ [((lastP ps).1, none, (lastP ps).2)]
  | [], h => absurd rfl h
  | [p], _ => rfl
  | p :: q :: r, _ => by
    have ih := str_last (q :: r) (by simp)
    have e1 : stretchesM (p :: q :: r) = (p.1, some q.1, p.2.1, p.2.2) :: stretchesM (q :: r) := rfl
    have e2 : lastP (p :: q :: r) = lastP (q :: r) := by unfold lastP; rw [List.getLast?_cons_cons]
    rw [e1, e2, List.dropLast_cons_of_ne_nil (by intro e; rw [e] at ih; simp at ih), List.cons_append, ← ih]
theorem Chn.split {α : Type} {iv : α → Int × Option Int} {x : α} : ∀ {lo : Int} {b : Option Int} {xs : List α}, Chn iv (some lo) b (xs ++ [x]) → Chn iv (some lo) (some (iv x).1) xs
  | lo, b, [], ⟨h1, _, _⟩ => by rw [h1]; rfl
  | lo, b, y :: ys, ⟨h1, h2, h3⟩ => by
    refine ⟨h1, h2, ?_⟩
    cases hy : (iv y).2 with
    | none => rw [hy] at h3; have := h3.none.1; simp at this
    | some e => rw [hy] at h3; exact Chn.split h3
def LInv (F : Int → Int) (tail lo f : Int) : Prop := (f = -1 ∧ ∀ m, 0 ≤ m → m < lo → F m = tail) ∨ (0 ≤ f ∧ f < lo ∧ F f ≠ tail ∧ ∀ m, f < m → m < lo → F m = tail)
theorem lu_step {F : Int → Int} {tail st e a b f : Int} (h0 : 0 ≤ st) (he : st < e) (hv : ∀ m, st ≤ m → m < e → a + b * m = F m) (hI : LInv F tail st f) : LInv F tail e (luStep tail f (st, some e, a, b)) := by
  show LInv F tail e (luOne tail (st, some e, a, b) (luOne tail (st, some e, a, b) f (e - 2)) (e - 1))
  have one : ∀ f m, luOne tail (st, some e, a, b) f m = if st ≤ m ∧ a + b * m ≠ tail then m else f := fun f m => by
    unfold luOne
    by_cases h1 : st ≤ m
    · by_cases h2 : a + b * m = tail
      · rw [if_pos (decide_eq_true h1), if_pos (decide_eq_true h2), if_neg (fun h => h.2 h2)]
      · rw [if_pos (decide_eq_true h1), if_neg (fun h => h2 (of_decide_eq_true h)), if_pos ⟨h1, h2⟩]
    · rw [if_neg (fun h => h1 (of_decide_eq_true h)), if_neg (fun h => h1 h.1)]
  rw [one, one]
  by_cases h1 : st ≤ e - 1 ∧ a + b * (e - 1) ≠ tail
  · rw [if_pos h1]
    refine .inr ⟨by omega, by omega, ?_, fun m _ _ => by omega⟩
    rw [← hv (e - 1) h1.1 (by omega)]
    exact h1.2
  · rw [if_neg h1]
    have e1 : a + b * (e - 1) = tail := by
      by_cases q : a + b * (e - 1) = tail
      · exact q
      · exact (h1 ⟨by omega, q⟩).elim
    by_cases h2 : st ≤ e - 2 ∧ a + b * (e - 2) ≠ tail
    · rw [if_pos h2]
      refine .inr ⟨by omega, by omega, ?_, fun m m1 m2 => ?_⟩
      · rw [← hv (e - 2) h2.1 (by omega)]
        exact h2.2
      · have : m = e - 1 := by omega
        rw [this, ← hv (e - 1) (by omega) (by omega)]
        exact e1
    · rw [if_neg h2]
      have all : ∀ m, st ≤ m → m < e → F m = tail := fun m m1 m2 => by
        by_cases q : m = e - 1
        · rw [q, ← hv (e - 1) (by omega) (by omega)]
          exact e1
        · have e2 : a + b * (e - 2) = tail := by
            by_cases q : a + b * (e - 2) = tail
            · exact q
            · exact (h2 ⟨by omega, q⟩).elim
          have e3 : b = 0 := by
            rw [Int.mul_sub] at e1 e2
            omega
          rw [← hv m m1 m2]
          rw [e3] at e1 ⊢
          omega
      rcases hI with ⟨i1, i2⟩ | ⟨i1, i2, i3, i4⟩
      · refine .inl ⟨i1, fun m m1 m2 => ?_⟩
        by_cases q : m < st
        · exact i2 m m1 q
        · exact all m (by omega) m2
      · refine .inr ⟨i1, by omega, i3, fun m m1 m2 => ?_⟩
        by_cases q : m < st
        · exact i4 m m1 q
        · exact all m (by omega) m2
theorem lu_fold {F : Int → Int} {tail : Int} : ∀ (xs : List Str4) (lo hi f : Int), 0 ≤ lo → Chn iv4 (some lo) (some hi) xs → (∀ s ∈ xs, ∀ m, inS s.1 s.2.1 m → s.2.2.1 + s.2.2.2 * m = F m) → LInv F tail lo f → LInv F tail hi (xs.foldl (luStep tail) f)
  | [], lo, hi, f, _, h, _, hI => by cases h; exact hI
  | s :: xs, lo, hi, f, h0, ⟨h1, h2, h3⟩, hv, hI => by
    obtain ⟨s1, s2, s3, s4⟩ := s
    have h1 : s1 = lo := h1
    subst h1
    have h2 : okHL s1 s2 = true := h2
    have h3 : Chn iv4 s2 (some hi) xs := h3
    cases s2 with
    | none => cases h3.none.2
    | some e =>
      have h2 := okHL_some.mp h2
      rw [List.foldl_cons]
      refine lu_fold xs e hi _ (by omega) h3 (fun s hs => hv s (List.mem_cons_of_mem _ hs)) ?_
      exact lu_step h0 h2 (fun m m1 m2 => hv _ List.mem_cons_self m ⟨m1, fun x hx => by cases hx; exact m2⟩) hI
theorem rep_ne {lo : Int} {ps : List Piece} {F : Int → Int} (h : RepF lo ps F) : ps ≠ [] := fun e => by
  subst e
  cases h.ch
theorem last_val {ps : List Piece} {F : Int → Int} (h : Rep ps F) : 0 ≤ (lastP ps).1 ∧ ∀ m, (lastP ps).1 ≤ m → (lastP ps).2.1 + (lastP ps).2.2 * m = F m := by
  have e := str_last ps (rep_ne h)
  have hm : ((lastP ps).1, none, (lastP ps).2) ∈ stretchesM ps := by rw [e]; simp
  exact ⟨(h.ch.mem _ hm).1, fun m hm2 => h.val _ hm m ⟨hm2, fun x hx => by cases hx⟩⟩
theorem lu_ok {ps : List Piece} {F : Int → Int} (h : Rep ps F) (hz : (lastP ps).2.2 = 0) : (luM ps (lastP ps).2.1 = -1 ∧ ∀ m, 0 ≤ m → F m = (lastP ps).2.1) ∨ (0 ≤ luM ps (lastP ps).2.1 ∧ F (luM ps (lastP ps).2.1) ≠ (lastP ps).2.1 ∧ ∀ m, luM ps (lastP ps).2.1 < m → F m = (lastP ps).2.1) := by
  have e := str_last ps (rep_ne h)
  have hc := h.ch
  have hv := h.val
  obtain ⟨l1, l2⟩ := last_val h
  rw [e] at hc hv
  have hI := lu_fold (tail := (lastP ps).2.1) (stretchesM ps).dropLast 0 (lastP ps).1 (-1) (Int.le_refl _) hc.split (fun s hs => hv s (List.mem_append.mpr (.inl hs))) (.inl ⟨rfl, fun m m1 m2 => by omega⟩)
  have hI : LInv F (lastP ps).2.1 (lastP ps).1 (luM ps (lastP ps).2.1) := hI
  have far : ∀ m, (lastP ps).1 ≤ m → F m = (lastP ps).2.1 := fun m hm => by
    rw [← l2 m hm, hz]
    omega
  generalize luM ps (lastP ps).2.1 = l at hI
  rcases hI with ⟨i1, i2⟩ | ⟨i1, i2, i3, i4⟩
  · refine .inl ⟨i1, fun m m1 => ?_⟩
    by_cases q : m < (lastP ps).1
    · exact i2 m m1 q
    · exact far m (by omega)
  · refine .inr ⟨i1, i3, fun m m1 => ?_⟩
    by_cases q : m < (lastP ps).1
    · exact i4 m m1 q
    · exact far m (by omega)
/-! size and start -/
theorem sz_spec {tl : List Int} {span many : Nat} : szTest tl span many = true ↔ span % many = 0 ∧ ∀ r, r < span → tl.getD r 0 = tl.getD (r % many) 0 := by
  unfold szTest
  rw [Bool.and_eq_true, decide_eq_true_eq, List.all_eq_true]
  refine and_congr_right fun _ => ⟨fun h r hr => of_decide_eq_true (h r (List.mem_range.mpr hr)), fun h r hr => decide_eq_true (h r (List.mem_range.mp hr))⟩
theorem size_ok {tl : List Int} {span : Nat} (hs : 0 < span) : 0 < sizeM tl span ∧ szTest tl span (sizeM tl span) = true ∧ ∀ k, 0 < k → k < sizeM tl span → szTest tl span k = false := by
  have inv : ∀ j, j ≤ span → 0 < (List.range j).foldl (szStep tl span) span ∧ szTest tl span ((List.range j).foldl (szStep tl span) span) = true ∧ ∀ k, span - j < k → k < (List.range j).foldl (szStep tl span) span → szTest tl span k = false := by
    intro j
    induction j with
    | zero =>
      intro _
      refine ⟨hs, sz_spec.mpr ⟨Nat.mod_self _, fun r hr => (by show tl.getD r 0 = tl.getD (r % span) 0; rw [Nat.mod_eq_of_lt hr])⟩, fun k h1 h2 => ?_⟩
      have h2 : k < span := h2
      omega
    | succ j ih =>
      intro hj
      obtain ⟨i1, i2, i3⟩ := ih (by omega)
      rw [List.range_succ, List.foldl_append]
      generalize (List.range j).foldl (szStep tl span) span = z at i1 i2 i3
      show 0 < szStep tl span z j ∧ szTest tl span (szStep tl span z j) = true ∧ ∀ k, span - (j + 1) < k → k < szStep tl span z j → szTest tl span k = false
      unfold szStep
      by_cases h : szTest tl span (span - j) = true
      · rw [if_pos h]
        exact ⟨by omega, h, fun k k1 k2 => by omega⟩
      · rw [if_neg h]
        refine ⟨i1, i2, fun k k1 k2 => ?_⟩
        by_cases e : k = span - j
        · rw [e]; exact Bool.eq_false_iff.mpr h
        · exact i3 k (by omega) k2
  obtain ⟨h1, h2, h3⟩ := inv span (Nat.le_refl _)
  exact ⟨h1, h2, fun k k1 k2 => h3 k (by omega) k2⟩
theorem st_fold (tl : List Int) (span : Nat) : ∀ (xs : List (List Piece × Nat)) (s0 : Int), s0 ≤ xs.foldl (stStep tl span) s0 ∧ (∀ q ∈ xs, 0 ≤ luM q.1 (tl.getD q.2 0) → (q.2 : Int) + (span : Int) * luM q.1 (tl.getD q.2 0) + 1 ≤ xs.foldl (stStep tl span) s0) ∧ (xs.foldl (stStep tl span) s0 = s0 ∨ ∃ q ∈ xs, 0 ≤ luM q.1 (tl.getD q.2 0) ∧ xs.foldl (stStep tl span) s0 = (q.2 : Int) + (span : Int) * luM q.1 (tl.getD q.2 0) + 1)
  | [], s0 => ⟨Int.le_refl _, fun q hq => (by cases hq), .inl rfl⟩
  | q :: xs, s0 => by
    obtain ⟨i1, i2, i3⟩ := st_fold tl span xs (stStep tl span s0 q)
    rw [List.foldl_cons]
    have hs : stStep tl span s0 q = if 0 ≤ luM q.1 (tl.getD q.2 0) then max s0 ((q.2 : Int) + (span : Int) * luM q.1 (tl.getD q.2 0) + 1) else s0 := by
      unfold stStep
      by_cases h : 0 ≤ luM q.1 (tl.getD q.2 0)
      · rw [if_pos h, if_pos (decide_eq_true h)]
      · rw [if_neg h, if_neg (fun e => h (of_decide_eq_true e))]
    generalize stStep tl span s0 q = s1 at i1 i2 i3 hs
    generalize hr : xs.foldl (stStep tl span) s1 = r at i1 i2 i3
    have c1 : s0 ≤ s1 := by rw [hs]; split <;> omega
    refine ⟨by omega, fun x hx hx0 => ?_, ?_⟩
    · rcases List.mem_cons.mp hx with e | hx
      · rw [e] at hx0 ⊢
        rw [if_pos hx0] at hs
        omega
      · exact i2 x hx hx0
    · rcases i3 with i3 | ⟨x, hx, h1, h2⟩
      · by_cases h : 0 ≤ luM q.1 (tl.getD q.2 0)
        · rw [if_pos h] at hs
          by_cases h2 : s0 ≤ (q.2 : Int) + (span : Int) * luM q.1 (tl.getD q.2 0) + 1
          · exact .inr ⟨q, List.mem_cons_self, h, by omega⟩
          · exact .inl (by omega)
        · rw [if_neg h] at hs
          exact .inl (by omega)
      · exact .inr ⟨x, List.mem_cons_of_mem _ hx, h1, h2⟩
/-- what rest_of tells -/
structure ROk (t : Tr) (start : Int) (pat : List Int) : Prop where
  s0 : 0 ≤ start
  ne : 0 < pat.length
  far : ∀ n, start ≤ n → valM t n = pat.getD (n % (pat.length : Int)).toNat 0
  unl : 0 < start → valM t (start - 1) ≠ pat.getD ((start - 1) % (pat.length : Int)).toNat 0
  min : ∀ k, 0 < k → k < pat.length → ∃ j, j < pat.length ∧ pat.getD j 0 ≠ pat.getD ((j + k) % pat.length) 0
def Grow (t : Tr) : Prop := ∃ (r : Nat) (a b m0 : Int), r < spanM t ∧ b ≠ 0 ∧ 0 ≤ m0 ∧ ∀ m, m0 ≤ m → valM t ((r : Int) + (spanM t : Int) * m) = a + b * m
theorem shift_many {p : List Int} {z k : Nat} (hz : 0 < z) (h : ∀ j, j < z → p.getD j 0 = p.getD ((j + k) % z) 0) (j : Nat) : ∀ i : Nat, p.getD (j % z) 0 = p.getD ((j + i * k) % z) 0
  | 0 => by rw [Nat.zero_mul, Nat.add_zero]
  | i + 1 => by
    rw [shift_many hz h j i, h _ (Nat.mod_lt _ hz), Nat.mod_add_mod]
    congr 2
    rw [Nat.add_mul, Nat.one_mul, Nat.add_assoc]
theorem no_shift {tl : List Int} {span z : Nat} (hs : 0 < span) (hl : tl.length = span) (hz : 0 < z) (h1 : szTest tl span z = true) (h2 : ∀ k, 0 < k → k < z → szTest tl span k = false) : ∀ k, 0 < k → k < z → (∀ j, j < z → (tl.take z).getD j 0 = (tl.take z).getD ((j + k) % z) 0) → False := by
  have hg : ∀ j, j < z → (tl.take z).getD j 0 = tl.getD j 0 := fun j hj => by
    rw [List.getD_eq_getElem?_getD, List.getElem?_take_of_lt hj, List.getD_eq_getElem?_getD]
  obtain ⟨g1, g2⟩ := sz_spec.mp h1
  intro k
  induction k using Nat.strongRecOn with
  | ind k ih =>
    intro k0 kz hk
    have hmod : z = k * (z / k) + z % k := (Nat.div_add_mod z k).symm
    by_cases hr : z % k = 0
    · have hd : k ∣ z := Nat.dvd_of_mod_eq_zero hr
      have t : szTest tl span k = true := by
        refine sz_spec.mpr ⟨Nat.mod_eq_zero_of_dvd (Nat.dvd_trans hd (Nat.dvd_of_mod_eq_zero g1)), fun r hr2 => ?_⟩
        rw [g2 r hr2, ← hg _ (Nat.mod_lt _ hz), ← hg _ (Nat.lt_trans (Nat.mod_lt r k0) kz)]
        have e := shift_many hz hk (r % z % k) (r % z / k)
        rw [show r % z % k + r % z / k * k = r % z by rw [Nat.mul_comm]; exact Nat.mod_add_div _ _, Nat.mod_mod] at e
        rw [← e, Nat.mod_eq_of_lt (Nat.lt_trans (Nat.mod_lt _ k0) kz), Nat.mod_mod_of_dvd _ hd]
      rw [h2 k k0 kz] at t
      cases t
    · refine ih (z % k) (Nat.mod_lt _ k0) (by omega) (Nat.lt_trans (Nat.mod_lt _ k0) kz) fun j hj => ?_
      have e := shift_many hz hk (j + z % k) (z / k)
      rw [e, show j + z % k + z / k * k = j + z by rw [Nat.mul_comm (z / k) k]; omega, Nat.add_mod_right, Nat.mod_eq_of_lt hj]
theorem rest_ok {t : Tr} (hl : linM t = true) : match restM t with
    | none => Grow t
    | some (start, pat) => ROk t start pat := by
  have hs := spn_pos t hl
  obtain ⟨c1, c2⟩ := classes_rep t hl (spanM t) hs (Nat.dvd_refl _)
  unfold restM
  by_cases hf : flatB t = true
  · rw [if_pos hf]
    show ROk t _ _
    have hz : ∀ ps ∈ classesM t (spanM t), (lastP ps).2.2 = 0 := fun ps hps => by
      unfold flatB at hf
      exact of_decide_eq_true (List.all_eq_true.mp hf ps hps)
    have htl : (tlsM t).length = spanM t := by unfold tlsM; rw [List.length_map, c1]
    have tlr : ∀ r, r < spanM t → (tlsM t).getD r 0 = (lastP ((classesM t (spanM t)).getD r [])).2.1 := fun r hr => by
      unfold tlsM
      rw [List.getD_eq_getElem?_getD, List.getElem?_map, List.getD_eq_getElem?_getD, List.getElem?_eq_getElem (by omega)]
      rfl
    have lus : ∀ r, r < spanM t → _ := fun r hr => lu_ok (c2 r hr) (hz _ (by
      rw [List.getD_eq_getElem?_getD, List.getElem?_eq_getElem (by omega)]
      exact List.getElem_mem _))
    obtain ⟨z1, z2, z3⟩ := size_ok (tl := tlsM t) hs
    obtain ⟨f1, f2, f3⟩ := st_fold (tlsM t) (spanM t) (classesM t (spanM t)).zipIdx 0
    have no := no_shift hs htl z1 z2 z3
    obtain ⟨g1, g2⟩ := sz_spec.mp z2
    have hst : startM (classesM t (spanM t)) (tlsM t) (spanM t) = (classesM t (spanM t)).zipIdx.foldl (stStep (tlsM t) (spanM t)) 0 := rfl
    rw [hst]
    generalize (classesM t (spanM t)).zipIdx.foldl (stStep (tlsM t) (spanM t)) 0 = start at f1 f2 f3
    generalize sizeM (tlsM t) (spanM t) = z at z1 z2 z3 no g1 g2
    have hzs : z ≤ spanM t := Nat.le_of_dvd hs (Nat.dvd_of_mod_eq_zero g1)
    have hpl : ((tlsM t).take z).length = z := by rw [List.length_take]; omega
    have pat : ∀ r (n m : Int), r < spanM t → n = (r : Int) + (spanM t : Int) * m → ((tlsM t).take z).getD (n % (z : Int)).toNat 0 = (tlsM t).getD r 0 := fun r n m hr e => by
      obtain ⟨w, hw⟩ := Nat.dvd_of_mod_eq_zero g1
      have e2 : n % (z : Int) = ((r % z : Nat) : Int) := by
        rw [e, hw, Int.natCast_mul, Int.mul_assoc, Int.add_mul_emod_self_left]
        rfl
      rw [e2, Int.toNat_natCast, List.getD_eq_getElem?_getD, List.getElem?_take_of_lt (Nat.mod_lt _ z1), ← List.getD_eq_getElem?_getD, ← g2 r hr]
    refine ⟨f1, by rw [hpl]; exact z1, fun n hn => ?_, fun h0 => ?_, fun k k0 kz => ?_⟩
    · obtain ⟨r, m, hr, hm, e⟩ := split_n hs (show 0 ≤ n by omega)
      rw [hpl, pat r n m hr e, tlr r hr, e]
      have := f2 _ (idx_in (show r < (classesM t (spanM t)).length by omega))
      simp only [tlr r hr] at this
      rcases lus r hr with ⟨l1, l2⟩ | ⟨l1, l2, l3⟩
      · exact l2 m hm
      · refine l3 m ?_
        have := this l1
        by_cases q : luM ((classesM t (spanM t)).getD r []) (lastP ((classesM t (spanM t)).getD r [])).2.1 < m
        · exact q
        · have := Int.mul_le_mul_of_nonneg_left (show m ≤ luM ((classesM t (spanM t)).getD r []) (lastP ((classesM t (spanM t)).getD r [])).2.1 by omega) (Int.natCast_nonneg (spanM t))
          omega
    · rcases f3 with f3 | ⟨q, hq, l1, l2⟩
      · omega
      · obtain ⟨q1, q2⟩ := idx_at hq
        have hr : q.2 < spanM t := by omega
        rw [q2, tlr _ hr] at l1 l2
        rw [hpl, pat q.2 (start - 1) (luM ((classesM t (spanM t)).getD q.2 []) (lastP ((classesM t (spanM t)).getD q.2 [])).2.1) hr (by omega), tlr _ hr, show start - 1 = (q.2 : Int) + (spanM t : Int) * luM ((classesM t (spanM t)).getD q.2 []) (lastP ((classesM t (spanM t)).getD q.2 [])).2.1 by omega]
        rcases lus q.2 hr with ⟨l3, l4⟩ | ⟨l3, l4, l5⟩
        · omega
        · exact l4
    · rw [hpl] at kz ⊢
      by_cases q : ∃ j, j < z ∧ ((tlsM t).take z).getD j 0 ≠ ((tlsM t).take z).getD ((j + k) % z) 0
      · exact q
      · refine (no k k0 kz fun j hj => ?_).elim
        by_cases e : ((tlsM t).take z).getD j 0 = ((tlsM t).take z).getD ((j + k) % z) 0
        · exact e
        · exact (q ⟨j, hj, e⟩).elim
  · rw [if_neg hf]
    show Grow t
    have : ∃ ps ∈ classesM t (spanM t), (lastP ps).2.2 ≠ 0 := by
      have h : ¬ ∀ ps ∈ classesM t (spanM t), (lastP ps).2.2 = 0 := fun h => hf (List.all_eq_true.mpr fun ps hps => decide_eq_true (h ps hps))
      exact Classical.byContradiction fun q => h fun ps hps => Classical.byContradiction fun w => q ⟨ps, hps, w⟩
    obtain ⟨ps, hps, hb⟩ := this
    obtain ⟨r, hr, e⟩ := List.getElem_of_mem hps
    have hcr := c2 r (by omega)
    rw [List.getD_eq_getElem?_getD, List.getElem?_eq_getElem hr, e] at hcr
    obtain ⟨l1, l2⟩ := last_val hcr
    exact ⟨r, (lastP ps).2.1, (lastP ps).2.2, (lastP ps).1, by omega, hb, l1, fun m hm => (l2 m hm).symm⟩
theorem rest_ne {t : Tr} (hl : linM t = true) : ∀ ps ∈ classesM t (spanM t), ps ≠ [] := fun ps hps => by
  have hs := spn_pos t hl
  obtain ⟨c1, c2⟩ := classes_rep t hl (spanM t) hs (Nat.dvd_refl _)
  obtain ⟨r, hr, e⟩ := List.getElem_of_mem hps
  have hcr := c2 r (by omega)
  rw [List.getD_eq_getElem?_getD, List.getElem?_eq_getElem hr, e] at hcr
  exact rep_ne hcr
theorem grow_nine {t : Tr} {ps : List (Int × Int)} (h : FV t ps) (g : Grow t) : ps.length = 9 := by
  by_cases h9 : ps.length < 9
  · exfalso
    obtain ⟨r, a, b, m0, hr, hb, hm, hv⟩ := g
    have nd : ((List.range 9).map fun j : Nat => a + b * (m0 + (j : Int))).Nodup := by
      refine List.pairwise_map.mpr (List.Pairwise.imp (fun {x y} h e => ?_) (List.nodup_range (n := 9)))
      have e2 : b * (m0 + (x : Int)) = b * (m0 + (y : Int)) := by omega
      have := Int.eq_of_mul_eq_mul_left hb e2
      exact h (by omega)
    have := nd.length_le_of_subset (l₂ := ps.map (·.1)) fun x hx => by
      obtain ⟨j, hj, rfl⟩ := List.mem_map.mp hx
      rw [← hv (m0 + (j : Int)) (by omega)]
      refine h.know h9 _ ?_
      have := Int.mul_nonneg (Int.natCast_nonneg (spanM t)) (show 0 ≤ m0 + (j : Int) by omega)
      omega
    rw [List.length_map, List.length_map, List.length_range] at this
    omega
  · have := h.le9
    omega
end Ms
set_option linter.all false
namespace Ms
open Ab
/-! ### where the end has begun -/
def endM : Tr → Int × Int × Int
  | .n => (0, 0, 1)
  | .num v => (0, v, 1)
  | .not a => (max (endM a).1 ((endM a).2.1 * (endM a).2.2 + 1), 1, 1)
  | .ite a b c => (max (max (max (endM a).1 (endM b).1) (endM c).1) ((endM a).2.1 * (endM a).2.2 + 1), max (endM b).2.1 (endM c).2.1, (endM b).2.2 * (endM c).2.2)
  | .bin .div a b => (max (endM a).1 (endM b).1, (endM a).2.1 / b.num? + 2, (endM a).2.2 * b.num?)
  | .bin .mod a b => (max (endM a).1 (endM b).1, b.num?, 1)
  | .bin .and a b => (max (max (endM a).1 (endM b).1) ((endM a).2.1 * (endM a).2.2 + 1), max (endM a).2.1 (endM b).2.1, (endM a).2.2 * (endM b).2.2)
  | .bin .or a b => (max (max (endM a).1 (endM b).1) ((endM a).2.1 * (endM a).2.2 + 1), max (endM a).2.1 (endM b).2.1, (endM a).2.2 * (endM b).2.2)
  | .bin .mul a b => (max (endM a).1 (endM b).1, (endM a).2.1 * (endM b).2.1, (endM a).2.2 * (endM b).2.2)
  | .bin .add a b => (max (endM a).1 (endM b).1, (endM a).2.1 + (endM b).2.1, (endM a).2.2 * (endM b).2.2)
  | .bin .sub a b => (max (endM a).1 (endM b).1, (endM a).2.1 + (endM b).2.1, (endM a).2.2 * (endM b).2.2)
  | .bin _ a b => (max (max (endM a).1 (endM b).1) (((endM a).2.1 + (endM b).2.1) * (endM a).2.2 * (endM b).2.2 + 1), 1, 1)
def Aff (F : Int → Int) (s r : Nat) (first away lot : Int) : Prop := ∃ q A B : Int, 0 < q ∧ q ≤ lot ∧ -(away * q) ≤ B ∧ B ≤ away * q ∧ ∀ n : Int, first ≤ n → n % (s : Int) = (r : Int) → q * F n = A * n + B
theorem Aff.late {F : Int → Int} {s r : Nat} {first first' away lot : Int} (h : Aff F s r first away lot) (hf : first ≤ first') : Aff F s r first' away lot := by
  obtain ⟨q, A, B, h1, h2, h3, h4, h5⟩ := h
  exact ⟨q, A, B, h1, h2, h3, h4, fun n hn => h5 n (by omega)⟩
theorem Aff.wide {F : Int → Int} {s r : Nat} {first away away' lot lot' : Int} (h : Aff F s r first away lot) (ha : away ≤ away') (hl : lot ≤ lot') : Aff F s r first away' lot' := by
  obtain ⟨q, A, B, h1, h2, h3, h4, h5⟩ := h
  have := Int.mul_le_mul_of_nonneg_right ha (Int.le_of_lt h1)
  exact ⟨q, A, B, h1, by omega, by omega, by omega, h5⟩
theorem Aff.cong {F G : Int → Int} {s r : Nat} {first away lot : Int} (h : Aff F s r first away lot) (e : ∀ n, first ≤ n → n % (s : Int) = (r : Int) → F n = G n) : Aff G s r first away lot := by
  obtain ⟨q, A, B, h1, h2, h3, h4, h5⟩ := h
  exact ⟨q, A, B, h1, h2, h3, h4, fun n hn hr => by rw [← e n hn hr]; exact h5 n hn hr⟩
theorem Aff.const {F : Int → Int} {s r : Nat} {first away c : Int} (h1 : -away ≤ c) (h2 : c ≤ away) (e : ∀ n, first ≤ n → n % (s : Int) = (r : Int) → F n = c) : Aff F s r first away 1 :=
  ⟨1, 0, c, by omega, by omega, by omega, by omega, fun n hn hr => by rw [e n hn hr]; omega⟩
theorem sgI_mul {q x : Int} (hq : 0 < q) : sgI (q * x) = sgI x := by
  rcases Int.lt_trichotomy x 0 with h | h | h
  · rw [sgI_neg h, sgI_neg (Int.mul_neg_of_pos_of_neg hq h)]
  · rw [h, Int.mul_zero]
  · rw [sgI_pos h, sgI_pos (Int.mul_pos hq h)]
theorem Aff.sign {F : Int → Int} {s r : Nat} {first away lot : Int} (h : Aff F s r first away lot) (ha : 0 ≤ away) (hf : away * lot + 1 ≤ first) (hl : 1 ≤ lot) : ∃ σ, ∀ n : Int, first ≤ n → n % (s : Int) = (r : Int) → sgI (F n) = σ := by
  obtain ⟨q, A, B, h1, h2, h3, h4, h5⟩ := h
  have hal : 0 ≤ away * lot := Int.mul_nonneg ha (by omega)
  have haq := Int.mul_le_mul_of_nonneg_left h2 ha
  rcases Int.lt_trichotomy A 0 with hA | hA | hA
  · refine ⟨-1, fun n hn hr => ?_⟩
    rw [← sgI_mul h1, h5 n hn hr]
    have := Int.mul_nonneg (show 0 ≤ -A - 1 by omega) (show 0 ≤ n by omega)
    rw [Int.sub_mul, Int.neg_mul, Int.one_mul] at this
    exact sgI_neg (by omega)
  · refine ⟨sgI B, fun n hn hr => ?_⟩
    rw [← sgI_mul h1, h5 n hn hr, hA, Int.zero_mul, Int.zero_add]
  · refine ⟨1, fun n hn hr => ?_⟩
    rw [← sgI_mul h1, h5 n hn hr]
    have := Int.mul_nonneg (show 0 ≤ A - 1 by omega) (show 0 ≤ n by omega)
    rw [Int.sub_mul, Int.one_mul] at this
    exact sgI_pos (by omega)
theorem Aff.lin {F G : Int → Int} {s r : Nat} {first a1 l1 a2 l2 : Int} (h : Aff F s r first a1 l1) (g : Aff G s r first a2 l2) (e : Int) (he : e = 1 ∨ e = -1) : Aff (fun n => F n + e * G n) s r first (a1 + a2) (l1 * l2) := by
  obtain ⟨q, A, B, h1, h2, h3, h4, h5⟩ := h
  obtain ⟨p, C, D, g1, g2, g3, g4, g5⟩ := g
  have p1 := Int.mul_le_mul_of_nonneg_left h3 (Int.le_of_lt g1)
  have p2 := Int.mul_le_mul_of_nonneg_left h4 (Int.le_of_lt g1)
  have p3 := Int.mul_le_mul_of_nonneg_left g3 (Int.le_of_lt h1)
  have p4 := Int.mul_le_mul_of_nonneg_left g4 (Int.le_of_lt h1)
  have e1 : p * (a1 * q) = a1 * (q * p) := by rw [Int.mul_left_comm, Int.mul_comm p q]
  have e2 : q * (a2 * p) = a2 * (q * p) := by rw [Int.mul_left_comm]
  rw [Int.mul_neg] at p1 p3
  rw [e1] at p1 p2
  rw [e2] at p3 p4
  have e3 : (a1 + a2) * (q * p) = a1 * (q * p) + a2 * (q * p) := Int.add_mul _ _ _
  refine ⟨q * p, p * A + e * (q * C), p * B + e * (q * D), Int.mul_pos h1 g1, Int.mul_le_mul h2 g2 (Int.le_of_lt g1) (by omega), ?_, ?_, fun n hn hr => ?_⟩
  · rcases he with rfl | rfl <;> omega
  · rcases he with rfl | rfl <;> omega
  · have k1 := h5 n hn hr
    have k2 := g5 n hn hr
    have k3 : q * p * F n = p * (A * n + B) := by rw [Int.mul_comm q p, Int.mul_assoc, k1]
    have k4 : q * p * G n = q * (C * n + D) := by rw [Int.mul_assoc, k2]
    show q * p * (F n + e * G n) = _
    rw [Int.mul_add, k3, Int.mul_left_comm, k4, Int.mul_add, Int.mul_add, Int.mul_add, Int.add_mul, Int.mul_assoc p A n, Int.mul_assoc e, Int.mul_assoc q C n]
    omega
theorem Aff.scale {F : Int → Int} {s r : Nat} {first away lot c : Int} (h : Aff F s r first away lot) (hc : 0 ≤ c) : Aff (fun n => c * F n) s r first (c * away) lot := by
  obtain ⟨q, A, B, h1, h2, h3, h4, h5⟩ := h
  have p1 := Int.mul_le_mul_of_nonneg_left h3 hc
  have p2 := Int.mul_le_mul_of_nonneg_left h4 hc
  rw [Int.mul_neg, ← Int.mul_assoc] at p1
  rw [← Int.mul_assoc] at p2
  refine ⟨q, c * A, c * B, h1, h2, p1, p2, fun n hn hr => ?_⟩
  show q * (c * F n) = _
  rw [Int.mul_left_comm, h5 n hn hr, Int.mul_add, Int.mul_assoc]
/-- in a class of a span, the values modulo d are one and the same, where the span is d spans -/
theorem Aff.mods {F : Int → Int} {s' r d : Nat} {first away lot : Int} (hs : 0 < s') (hd : 0 < d) (h : Aff F s' (r % s') first away lot) : ∃ ρ, ∀ n : Int, first ≤ n → n % ((s' * d : Nat) : Int) = (r : Int) → F n % (d : Int) = ρ := by
  obtain ⟨q, A, B, h1, h2, h3, h4, h5⟩ := h
  have hS : (0 : Int) < ((s' * d : Nat) : Int) := by have := Nat.mul_pos hs hd; omega
  have cls : ∀ n : Int, n % ((s' * d : Nat) : Int) = (r : Int) → n % (s' : Int) = ((r % s' : Nat) : Int) := fun n hr => by
    rw [show ((r % s' : Nat) : Int) = (r : Int) % (s' : Int) from rfl, ← hr]
    exact (Int.emod_emod_of_dvd n (by rw [Int.natCast_mul]; exact Int.dvd_mul_right _ _)).symm
  have stp : ∀ n : Int, first ≤ n → n % ((s' * d : Nat) : Int) = (r : Int) → ∃ c, F (n + ((s' * d : Nat) : Int)) = F n + (d : Int) * c := fun n hn hr => by
    have k0 := h5 n hn (cls n hr)
    have k1 := h5 (n + (s' : Int)) (by omega) (by rw [Int.add_emod_right]; exact cls n hr)
    have k2 := h5 (n + ((s' * d : Nat) : Int)) (by omega) (cls _ (by rw [Int.add_emod_right]; exact hr))
    refine ⟨F (n + (s' : Int)) - F n, ?_⟩
    have e1 : q * (F (n + (s' : Int)) - F n) = A * (s' : Int) := by rw [Int.mul_sub, k0, k1, Int.mul_add]; omega
    have e2 : q * (F (n + ((s' * d : Nat) : Int)) - F n) = A * (s' : Int) * (d : Int) := by rw [Int.mul_sub, k0, k2, Int.mul_add, Int.natCast_mul, ← Int.mul_assoc]; omega
    have e3 : q * (F (n + ((s' * d : Nat) : Int)) - F n) = q * ((d : Int) * (F (n + (s' : Int)) - F n)) := by
      rw [e2, Int.mul_left_comm, e1, Int.mul_comm]
    have := Int.eq_of_mul_eq_mul_left (by omega) e3
    omega
  -- all numbers of the class from the first one on
  by_cases hex : ∃ n0 : Int, first ≤ n0 ∧ n0 % ((s' * d : Nat) : Int) = (r : Int)
  · obtain ⟨n1, g1, g2⟩ := hex
    have hstep : ∀ (k : Nat) (n : Int), first ≤ n → n % ((s' * d : Nat) : Int) = (r : Int) → F (n + (k : Int) * ((s' * d : Nat) : Int)) % (d : Int) = F n % (d : Int) := by
      intro k
      induction k with
      | zero => intro n _ _; rw [show n + ((0 : Nat) : Int) * ((s' * d : Nat) : Int) = n by omega]
      | succ k ih =>
        intro n hn hr
        have hk : 0 ≤ (k : Int) * ((s' * d : Nat) : Int) := Int.mul_nonneg (by omega) (by omega)
        obtain ⟨c, hc⟩ := stp (n + (k : Int) * ((s' * d : Nat) : Int)) (by omega) (by rw [Int.add_mul_emod_self_right]; exact hr)
        have e : n + ((k + 1 : Nat) : Int) * ((s' * d : Nat) : Int) = n + (k : Int) * ((s' * d : Nat) : Int) + ((s' * d : Nat) : Int) := by
          rw [Int.natCast_add, Int.add_mul]; omega
        rw [e, hc, Int.add_mul_emod_self_left, ih n hn hr]
    refine ⟨F n1 % (d : Int), fun n hn hr => ?_⟩
    generalize ((s' * d : Nat) : Int) = S at hS g2 hr hstep
    have w1 := Int.emod_add_mul_ediv n S
    have w2 := Int.emod_add_mul_ediv n1 S
    rcases Int.le_total n n1 with hle | hle
    · have hq : n / S ≤ n1 / S := Int.ediv_le_ediv hS hle
      have := hstep (n1 / S - n / S).toNat n hn hr
      rw [Int.toNat_of_nonneg (by omega), Int.sub_mul, Int.mul_comm _ S, Int.mul_comm (n / S) S, show n + (S * (n1 / S) - S * (n / S)) = n1 by omega] at this
      exact this.symm
    · have hq : n1 / S ≤ n / S := Int.ediv_le_ediv hS hle
      have := hstep (n / S - n1 / S).toNat n1 g1 g2
      rw [Int.toNat_of_nonneg (by omega), Int.sub_mul, Int.mul_comm _ S, Int.mul_comm (n1 / S) S, show n1 + (S * (n / S) - S * (n1 / S)) = n by omega] at this
      exact this
  · exact ⟨0, fun n hn hr => (hex ⟨n, hn, hr⟩).elim⟩
theorem Aff.div {F : Int → Int} {s r : Nat} {first away lot d ρ : Int} (h : Aff F s r first away lot) (hd : 0 < d) (hρ : ∀ n : Int, first ≤ n → n % (s : Int) = (r : Int) → F n % d = ρ) : Aff (fun n => F n / d) s r first (away / d + 2) (lot * d) := by
  obtain ⟨q, A, B, h1, h2, h3, h4, h5⟩ := h
  by_cases hex : ∃ n0 : Int, first ≤ n0 ∧ n0 % (s : Int) = (r : Int)
  · obtain ⟨n1, g1, g2⟩ := hex
    have r0 : 0 ≤ ρ := by rw [← hρ n1 g1 g2]; exact Int.emod_nonneg _ (by omega)
    have r1 : ρ < d := by rw [← hρ n1 g1 g2]; exact Int.emod_lt_of_pos _ hd
    have p1 := Int.mul_le_mul_of_nonneg_left (Int.le_of_lt r1) (Int.le_of_lt h1)
    have p2 := Int.mul_nonneg (Int.le_of_lt h1) r0
    have p3 : away ≤ (away / d + 1) * d := by
      have := Int.emod_add_mul_ediv away d
      have := Int.emod_lt_of_pos away hd
      rw [Int.add_mul, Int.one_mul, Int.mul_comm]
      omega
    have p4 := Int.mul_le_mul_of_nonneg_right p3 (Int.le_of_lt h1)
    have e1 : (away / d + 2) * (q * d) = (away / d + 1) * d * q + q * d := by
      rw [show away / d + 2 = (away / d + 1) + 1 by omega, Int.add_mul (away / d + 1) 1, Int.one_mul, Int.mul_assoc, Int.mul_comm d q]
    refine ⟨q * d, A, B - q * ρ, Int.mul_pos h1 hd, Int.mul_le_mul_of_nonneg_right h2 (Int.le_of_lt hd), by omega, by omega, fun n hn hr => ?_⟩
    have k := h5 n hn hr
    have w := Int.emod_add_mul_ediv (F n) d
    rw [hρ n hn hr] at w
    rw [← w, Int.mul_add] at k
    show q * d * (F n / d) = _
    rw [Int.mul_assoc]
    omega
  · have := Int.mul_le_mul_of_nonneg_right h2 (Int.le_of_lt hd)
    have hq := Int.mul_pos h1 hd
    refine ⟨q * d, 0, (away / d + 2) * (q * d), hq, this, ?_, Int.le_refl _, fun n hn hr => (hex ⟨n, hn, hr⟩).elim⟩
    have h6 : 0 ≤ away := by
      by_cases z : 0 ≤ away
      · exact z
      · have := Int.mul_lt_mul_of_pos_right (show away < 0 by omega) h1
        omega
    have := Int.mul_nonneg (show 0 ≤ away / d + 2 by have := Int.ediv_nonneg h6 (Int.le_of_lt hd); omega) (Int.le_of_lt hq)
    omega
structure EOk (t : Tr) : Prop where
  f0 : 0 ≤ (endM t).1
  a0 : 0 ≤ (endM t).2.1
  l0 : 1 ≤ (endM t).2.2
  aff : ∀ s : Nat, 0 < s → spanM t ∣ s → ∀ r : Nat, r < s → Aff (valM t) s r (endM t).1 (endM t).2.1 (endM t).2.2
theorem b2i_bd (b : Bool) : -1 ≤ b2i b ∧ b2i b ≤ 1 := by cases b <;> decide
theorem le_mul_l {a b : Int} (ha : 1 ≤ a) (hb : 1 ≤ b) : a ≤ a * b ∧ b ≤ a * b ∧ 1 ≤ a * b := by
  have h1 := Int.mul_nonneg (show 0 ≤ a by omega) (show 0 ≤ b - 1 by omega)
  have h2 := Int.mul_nonneg (show 0 ≤ a - 1 by omega) (show 0 ≤ b by omega)
  rw [Int.mul_sub, Int.mul_one] at h1
  rw [Int.sub_mul, Int.one_mul] at h2
  omega
theorem end_ok : ∀ t : Tr, linM t = true → EOk t
  | .n, _ => ⟨Int.le_refl _, Int.le_refl _, Int.le_refl _, fun s hs hd r hr => ⟨1, 1, 0, by decide, Int.le_refl _, by decide, by decide, fun n _ _ => by show 1 * n = _; omega⟩⟩
  | .num v, h => by
    have h0 : 0 ≤ v := by simpa [linM] using h
    exact ⟨Int.le_refl _, h0, Int.le_refl _, fun s hs hd r hr => Aff.const (c := v) (by show -v ≤ v; omega) (Int.le_refl _) fun n _ _ => rfl⟩
  | .not a, h => by
    obtain ⟨f0, a0, l0, aff⟩ := end_ok a h
    have hm := Int.mul_nonneg a0 (show 0 ≤ (endM a).2.2 by omega)
    refine ⟨by simp only [endM]; omega, by simp only [endM]; omega, by simp only [endM]; omega, fun s hs hd r hr => ?_⟩
    simp only [endM]
    obtain ⟨σ, hσ⟩ := ((aff s hs (Nat.dvd_trans (Nat.dvd_lcm_right 1 _) hd) r hr).late (first' := max (endM a).1 ((endM a).2.1 * (endM a).2.2 + 1)) (by omega)).sign a0 (by omega) l0
    refine Aff.const (c := b2i (decide (σ = 0))) (b2i_bd _).1 (b2i_bd _).2 fun n hn hrr => ?_
    show b2i (decide (valM a n = 0)) = _
    congr 1
    refine decide_eq_decide.mpr ?_
    rw [← hσ n hn hrr, sgI_eq0]
  | .ite a b c, h => by
    simp only [linM, Bool.and_eq_true] at h
    obtain ⟨f0, a0, l0, aff⟩ := end_ok a h.1.1
    obtain ⟨f1, a1, l1, aff1⟩ := end_ok b h.1.2
    obtain ⟨f2, a2, l2, aff2⟩ := end_ok c h.2
    have hm := Int.mul_nonneg a0 (show 0 ≤ (endM a).2.2 by omega)
    have hl := le_mul_l l1 l2
    refine ⟨by simp only [endM]; omega, by simp only [endM]; omega, by simp only [endM]; omega, fun s hs hd r hr => ?_⟩
    have d1 : Nat.lcm (Nat.lcm 1 (spanM a)) (spanM b) ∣ s := Nat.dvd_trans (Nat.dvd_lcm_left _ _) hd
    simp only [endM]
    generalize hff : max (max (max (endM a).1 (endM b).1) (endM c).1) ((endM a).2.1 * (endM a).2.2 + 1) = ff
    obtain ⟨σ, hσ⟩ := ((aff s hs (Nat.dvd_trans (lcm1 _ _).1 d1) r hr).late (first' := ff) (by omega)).sign a0 (by omega) l0
    have b1 := (aff1 s hs (Nat.dvd_trans (lcm1 _ _).2 d1) r hr).late (first' := ff) (by omega)
    have b2 := (aff2 s hs (Nat.dvd_trans (Nat.dvd_lcm_right _ _) hd) r hr).late (first' := ff) (by omega)
    by_cases hz : σ = 0
    · refine (b2.cong fun n hn hrr => ?_).wide (by omega) (by omega)
      show _ = (if valM a n = 0 then valM c n else valM b n)
      rw [if_pos (sgI_eq0.mp ((hσ n hn hrr).trans hz))]
    · refine (b1.cong fun n hn hrr => ?_).wide (by omega) (by omega)
      show _ = (if valM a n = 0 then valM c n else valM b n)
      rw [if_neg]
      intro e
      exact hz ((hσ n hn hrr).symm.trans (sgI_eq0.mpr e))
  | .bin o a b, h => by
    have dm : o = .div ∨ o = .mod → linM a = true → b.isNum = true → 0 < b.num? → EOk (.bin o a b) := fun ho h1 h2 h3 => by
      obtain ⟨f0, a0, l0, aff⟩ := end_ok a h1
      obtain ⟨v, rfl⟩ : ∃ v, b = .num v := by cases b <;> first | exact ⟨_, rfl⟩ | cases h2
      have h3 : 0 < v := h3
      have hdv : ∃ d : Nat, v = (d : Int) ∧ 0 < d := ⟨v.toNat, by omega, by omega⟩
      obtain ⟨d, rfl, hd0⟩ := hdv
      have hsp := spn_pos a h1
      have res : ∀ s : Nat, 0 < s → spanM a * d ∣ s → ∀ r : Nat, r < s → Aff (valM a) s r (endM a).1 (endM a).2.1 (endM a).2.2 ∧ ∃ ρ, ∀ n : Int, (endM a).1 ≤ n → n % (s : Int) = (r : Int) → valM a n % (d : Int) = ρ := fun s hs hd r hr => by
        refine ⟨aff s hs (Nat.dvd_trans (Nat.dvd_mul_right _ _) hd) r hr, ?_⟩
        obtain ⟨k, rfl⟩ := hd
        have e : spanM a * d * k = spanM a * k * d := by rw [Nat.mul_assoc, Nat.mul_comm d k, Nat.mul_assoc]
        rw [e] at hs hr ⊢
        have hk : 0 < spanM a * k := Nat.pos_of_mul_pos_right hs
        exact Aff.mods hk hd0 (aff (spanM a * k) hk (Nat.dvd_mul_right _ _) (r % (spanM a * k)) (Nat.mod_lt _ hk))
      have hdiv0 := Int.ediv_nonneg a0 (Int.le_of_lt h3)
      have hlm := le_mul_l l0 (show (1 : Int) ≤ (d : Int) by omega)
      have hnum : (Tr.num (d : Int)).num? = (d : Int) := rfl
      have hend : endM (.num (d : Int)) = (0, (d : Int), 1) := rfl
      rcases ho with rfl | rfl
      · refine ⟨by simp only [endM, hnum]; omega, by simp only [endM, hnum]; omega, by simp only [endM, hnum]; omega, fun s hs hd r hr => ?_⟩
        obtain ⟨k1, ρ, k2⟩ := res s hs (by simpa [spanM, hnum] using hd) r hr
        simp only [endM, hnum]
        exact (k1.div h3 k2).late (by omega)
      · refine ⟨by simp only [endM, hnum]; omega, by simp only [endM, hnum]; omega, by simp only [endM, hnum]; omega, fun s hs hd r hr => ?_⟩
        obtain ⟨k1, ρ, k2⟩ := res s hs (by simpa [spanM, hnum] using hd) r hr
        simp only [endM, hnum]
        by_cases hex : ∃ n0 : Int, (endM a).1 ≤ n0 ∧ n0 % (s : Int) = (r : Int)
        · obtain ⟨n1, g1, g2⟩ := hex
          have r0 : 0 ≤ ρ := by rw [← k2 n1 g1 g2]; exact Int.emod_nonneg _ (by omega)
          have r1 : ρ < d := by rw [← k2 n1 g1 g2]; exact Int.emod_lt_of_pos _ h3
          exact Aff.const (c := ρ) (by omega) (by omega) fun n hn hrr => k2 n (by omega) hrr
        · exact Aff.const (c := 0) (by omega) (by omega) fun n hn hrr => (hex ⟨n, by omega, hrr⟩).elim
    have cmp : isCmpO o = true → linM a = true → linM b = true → spanM (.bin o a b) = Nat.lcm (Nat.lcm 1 (spanM a)) (spanM b) → endM (.bin o a b) = (max (max (endM a).1 (endM b).1) (((endM a).2.1 + (endM b).2.1) * (endM a).2.2 * (endM b).2.2 + 1), 1, 1) → EOk (.bin o a b) := fun ho h1 h2 hs2 he => by
      obtain ⟨f0, a0, l0, aff⟩ := end_ok a h1
      obtain ⟨f1, a1, l1, aff1⟩ := end_ok b h2
      have hl := le_mul_l l0 l1
      have hm := Int.mul_nonneg (show 0 ≤ (endM a).2.1 + (endM b).2.1 by omega) (show 0 ≤ (endM a).2.2 * (endM b).2.2 by omega)
      refine ⟨by rw [he]; show 0 ≤ max _ _; omega, by rw [he]; exact (by decide : (0 : Int) ≤ 1), by rw [he]; exact Int.le_refl _, fun s hs hd r hr => ?_⟩
      rw [hs2] at hd
      rw [he]
      show Aff _ s r (max _ _) 1 1
      rw [Int.mul_assoc]
      generalize hff : max (max (endM a).1 (endM b).1) (((endM a).2.1 + (endM b).2.1) * ((endM a).2.2 * (endM b).2.2) + 1) = ff
      have b1 := (aff s hs (Nat.dvd_trans (lcm1 _ _).1 hd) r hr).late (first' := ff) (by omega)
      have b2 := (aff1 s hs (Nat.dvd_trans (lcm1 _ _).2 hd) r hr).late (first' := ff) (by omega)
      obtain ⟨σ, hσ⟩ := (b1.lin b2 (-1) (.inr rfl)).sign (by omega) (by omega) hl.2.2
      refine Aff.const (c := b2i (signsOf o σ)) (b2i_bd _).1 (b2i_bd _).2 fun n hn hrr => ?_
      rw [← hσ n hn hrr, valM_bin, show valM a n + -1 * valM b n = valM a n - valM b n by omega, signs_cmp o ho]
      cases o <;> first | (cases ho; done) | rfl
    cases o with
    | div =>
      simp only [linM, Bool.and_eq_true, decide_eq_true_eq] at h
      exact dm (.inl rfl) h.1.1 h.1.2 h.2
    | mod =>
      simp only [linM, Bool.and_eq_true, decide_eq_true_eq] at h
      exact dm (.inr rfl) h.1.1 h.1.2 h.2
    | mul =>
      simp only [linM, Bool.and_eq_true, Bool.or_eq_true] at h
      obtain ⟨f0, a0, l0, aff⟩ := end_ok a h.1.2
      obtain ⟨f1, a1, l1, aff1⟩ := end_ok b h.2
      have hl := le_mul_l l0 l1
      refine ⟨by simp only [endM]; omega, by simp only [endM]; exact Int.mul_nonneg a0 a1, by simp only [endM]; omega, fun s hs hd r hr => ?_⟩
      have b1 := aff s hs (Nat.dvd_trans (lcm1 _ _).1 hd) r hr
      have b2 := aff1 s hs (Nat.dvd_trans (lcm1 _ _).2 hd) r hr
      simp only [endM]
      rcases h.1.1 with hn | hn
      · obtain ⟨v, rfl⟩ : ∃ v, a = .num v := by cases a <;> first | exact ⟨_, rfl⟩ | cases hn
        have := ((b2.scale (c := v) a0).late (first' := max (endM (.num v)).1 (endM b).1) (by omega)).wide (away' := (endM (.num v)).2.1 * (endM b).2.1) (lot' := (endM (.num v)).2.2 * (endM b).2.2) (Int.le_refl _) hl.2.1
        exact this
      · obtain ⟨v, rfl⟩ : ∃ v, b = .num v := by cases b <;> first | exact ⟨_, rfl⟩ | cases hn
        have := ((b1.scale (c := v) a1).late (first' := max (endM a).1 (endM (.num v)).1) (by omega)).wide (away' := (endM a).2.1 * (endM (.num v)).2.1) (lot' := (endM a).2.2 * (endM (.num v)).2.2) (by show v * _ ≤ _ * v; rw [Int.mul_comm]; exact Int.le_refl _) hl.1
        refine this.cong fun n _ _ => ?_
        show v * valM a n = valM a n * v
        exact Int.mul_comm _ _
    | add =>
      simp only [linM, Bool.and_eq_true] at h
      obtain ⟨f0, a0, l0, aff⟩ := end_ok a h.1
      obtain ⟨f1, a1, l1, aff1⟩ := end_ok b h.2
      have hl := le_mul_l l0 l1
      refine ⟨by simp only [endM]; omega, by simp only [endM]; omega, by simp only [endM]; omega, fun s hs hd r hr => ?_⟩
      simp only [endM]
      have b1 := (aff s hs (Nat.dvd_trans (lcm1 _ _).1 hd) r hr).late (first' := max (endM a).1 (endM b).1) (by omega)
      have b2 := (aff1 s hs (Nat.dvd_trans (lcm1 _ _).2 hd) r hr).late (first' := max (endM a).1 (endM b).1) (by omega)
      exact (b1.lin b2 1 (.inl rfl)).cong fun n _ _ => by show valM a n + 1 * valM b n = valM a n + valM b n; omega
    | sub =>
      simp only [linM, Bool.and_eq_true] at h
      obtain ⟨f0, a0, l0, aff⟩ := end_ok a h.1
      obtain ⟨f1, a1, l1, aff1⟩ := end_ok b h.2
      have hl := le_mul_l l0 l1
      refine ⟨by simp only [endM]; omega, by simp only [endM]; omega, by simp only [endM]; omega, fun s hs hd r hr => ?_⟩
      simp only [endM]
      have b1 := (aff s hs (Nat.dvd_trans (lcm1 _ _).1 hd) r hr).late (first' := max (endM a).1 (endM b).1) (by omega)
      have b2 := (aff1 s hs (Nat.dvd_trans (lcm1 _ _).2 hd) r hr).late (first' := max (endM a).1 (endM b).1) (by omega)
      exact (b1.lin b2 (-1) (.inr rfl)).cong fun n _ _ => by show valM a n + -1 * valM b n = valM a n - valM b n; omega
    | and =>
      simp only [linM, Bool.and_eq_true] at h
      obtain ⟨f0, a0, l0, aff⟩ := end_ok a h.1
      obtain ⟨f1, a1, l1, aff1⟩ := end_ok b h.2
      have hl := le_mul_l l0 l1
      have hm := Int.mul_nonneg a0 (show 0 ≤ (endM a).2.2 by omega)
      refine ⟨by simp only [endM]; omega, by simp only [endM]; omega, by simp only [endM]; omega, fun s hs hd r hr => ?_⟩
      simp only [endM]
      generalize hff : max (max (endM a).1 (endM b).1) ((endM a).2.1 * (endM a).2.2 + 1) = ff
      have b1 := (aff s hs (Nat.dvd_trans (lcm1 _ _).1 hd) r hr).late (first' := ff) (by omega)
      have b2 := (aff1 s hs (Nat.dvd_trans (lcm1 _ _).2 hd) r hr).late (first' := ff) (by omega)
      obtain ⟨σ, hσ⟩ := b1.sign a0 (by omega) l0
      by_cases hz : σ = 0
      · refine (b1.cong fun n hn hrr => ?_).wide (by omega) (by omega)
        have e := sgI_eq0.mp ((hσ n hn hrr).trans hz)
        show _ = (if valM a n = 0 then 0 else valM b n)
        rw [if_pos e, e]
      · refine (b2.cong fun n hn hrr => ?_).wide (by omega) (by omega)
        show _ = (if valM a n = 0 then 0 else valM b n)
        rw [if_neg]
        intro e
        exact hz ((hσ n hn hrr).symm.trans (sgI_eq0.mpr e))
    | or =>
      simp only [linM, Bool.and_eq_true] at h
      obtain ⟨f0, a0, l0, aff⟩ := end_ok a h.1
      obtain ⟨f1, a1, l1, aff1⟩ := end_ok b h.2
      have hl := le_mul_l l0 l1
      have hm := Int.mul_nonneg a0 (show 0 ≤ (endM a).2.2 by omega)
      refine ⟨by simp only [endM]; omega, by simp only [endM]; omega, by simp only [endM]; omega, fun s hs hd r hr => ?_⟩
      simp only [endM]
      generalize hff : max (max (endM a).1 (endM b).1) ((endM a).2.1 * (endM a).2.2 + 1) = ff
      have b1 := (aff s hs (Nat.dvd_trans (lcm1 _ _).1 hd) r hr).late (first' := ff) (by omega)
      have b2 := (aff1 s hs (Nat.dvd_trans (lcm1 _ _).2 hd) r hr).late (first' := ff) (by omega)
      obtain ⟨σ, hσ⟩ := b1.sign a0 (by omega) l0
      by_cases hz : σ = 0
      · refine (b2.cong fun n hn hrr => ?_).wide (by omega) (by omega)
        show _ = (if valM a n = 0 then valM b n else valM a n)
        rw [if_pos (sgI_eq0.mp ((hσ n hn hrr).trans hz))]
      · refine (b1.cong fun n hn hrr => ?_).wide (by omega) (by omega)
        show _ = (if valM a n = 0 then valM b n else valM a n)
        rw [if_neg]
        intro e
        exact hz ((hσ n hn hrr).symm.trans (sgI_eq0.mpr e))
    | _ =>
      simp only [linM, Bool.and_eq_true] at h
      exact cmp rfl h.1 h.2 rfl rfl
/-- where values grow, they differ from one span to the next, once the end has begun -/
theorem grow_tails {t : Tr} (hl : linM t = true) (g : Grow t) : ∃ k : Nat, k < spanM t ∧ valM t (((endM t).1 / (spanM t : Int) + 1) * (spanM t : Int) + (k : Int)) ≠ valM t (((endM t).1 / (spanM t : Int) + 1) * (spanM t : Int) + (spanM t : Int) + (k : Int)) := by
  obtain ⟨f0, a0, l0, aff⟩ := end_ok t hl
  have hs := spn_pos t hl
  obtain ⟨r, a, b, m0, hr, hb, hm0, hv⟩ := g
  obtain ⟨q, A, B, h1, h2, h3, h4, h5⟩ := aff (spanM t) hs (Nat.dvd_refl _) r hr
  generalize (endM t).1 = first at *
  generalize spanM t = s at *
  have hS : (0 : Int) < (s : Int) := by omega
  have hmod : ∀ m : Int, ((r : Int) + (s : Int) * m) % (s : Int) = (r : Int) := fun m => by
    rw [Int.add_mul_emod_self_left]
    exact Int.emod_eq_of_lt (by omega) (by omega)
  have big : ∀ m : Int, first ≤ m → 0 ≤ m → first ≤ (r : Int) + (s : Int) * m := fun m hm h0 => by
    have := Int.mul_nonneg (show 0 ≤ (s : Int) - 1 by omega) h0
    rw [Int.sub_mul, Int.one_mul] at this
    omega
  have k1 := h5 _ (big (max m0 first) (by omega) (by omega)) (hmod _)
  have k2 := h5 _ (big (max m0 first + 1) (by omega) (by omega)) (hmod _)
  rw [hv _ (by omega)] at k1 k2
  have e1 : q * b = A * (s : Int) := by
    generalize max m0 first = m at k1 k2
    simp only [Int.mul_add, Int.mul_one] at k1 k2
    omega
  have e2 : A * (s : Int) ≠ 0 := by
    rw [← e1]
    exact Int.mul_ne_zero (by omega) hb
  refine ⟨r, hr, fun e => e2 ?_⟩
  have hbeg : first ≤ (first / (s : Int) + 1) * (s : Int) := by
    have := Int.emod_add_mul_ediv first (s : Int)
    have := Int.emod_lt_of_pos first hS
    rw [Int.add_mul, Int.one_mul, Int.mul_comm]
    omega
  generalize first / (s : Int) + 1 = z at e hbeg
  have j1 := h5 (z * (s : Int) + (r : Int)) (by omega) (by rw [Int.add_comm, Int.mul_comm]; exact hmod _)
  have j2 := h5 (z * (s : Int) + (s : Int) + (r : Int)) (by omega) (by
    rw [show z * (s : Int) + (s : Int) + (r : Int) = (r : Int) + (s : Int) * (z + 1) by rw [Int.mul_add, Int.mul_one, Int.mul_comm z]; omega]
    exact hmod _)
  rw [e] at j1
  rw [j1] at j2
  simp only [Int.mul_add] at j2
  omega
end Ms
set_option Elab.async false
set_option linter.all false
set_option maxRecDepth 100000
set_option maxHeartbeats 4000000
namespace Ms
open PySem PySem.Spec L2 Ab
open PyProof.Rows hiding St
local macro_rules | `(tactic| walk_at "e1") => `(tactic| first
  | ((with_reducible refine' we_var ?hv ?_); case hv => rfl)
  | (with_reducible refine we_cI ?_)
  | (with_reducible refine we_cS ?_)
  | (with_reducible refine we_cB ?_)
  | (with_reducible refine we_cN ?_)
  | ((with_reducible refine' we_ixJ ?hv ?hw ?_); (case hv => rfl); (case hw => rfl))
  | (with_reducible refine we_opc ?_)
  | (with_reducible refine we_cbc ?_)
  | (with_reducible refine wa_cons ?_)
  | (with_reducible refine wa_nil ?_)
  | (with_reducible refine wt_test ?_)
  | (with_reducible refine we_if ?_)
  | (with_reducible refine wt_B ?_)
  | (with_reducible refine wt_not ?_)
  | (with_reducible refine wt_and ?_)
  | (with_reducible refine wt_or ?_)
  | (with_reducible refine we_tupS ?_)
  | (with_reducible refine we_lstS ?_)
  | (with_reducible refine we_andV ?_)
  | (with_reducible refine we_orV ?_)
  | (with_reducible refine we_notV ?_)
  | (with_reducible refine we_chainc ?_)
  | (with_reducible refine we_callD ?_)
  | (with_reducible refine we_un au_neg ?_)
  | refine fI2.i ?_
  | refine fPlus.i ?_
  | refine fEq.i ?_
  | refine fEq.s ?_
  | refine fC2.i ?_
  | refine fMax3.i ?_
  | refine fInt.i ?_
  | refine fInt.b ?_
  | refine fLen.l ?_
  | refine fLen.t ?_
  | refine fNo.i ?_
  | refine ix_hd ?_
  | refine fIx.t rfl ?_
  | refine fIx.l rfl ?_
  | refine fEq.b ?_
  | refine fIn.t rfl rfl ?_
  | refine fIn.l rfl rfl ?_
  | refine fSl.t ?_
  | refine fSl.l ?_
  | (with_reducible refine we_sl ?_)
  | (with_reducible refine wp_cons ?_)
  | (with_reducible refine wp_nil ?_)
  | refine we_fld1 rfl (by with_reducible assumption) (by with_reducible assumption) rfl ?_
  | (with_reducible refine wo_none ?_)
  | (with_reducible refine wo_some ?_)
  | refine fNeg.i ?_
  | refine fDs.mk rfl (Nat.le_of_ble_eq_true rfl) ?_
  | ((with_reducible refine br_t ?hv ?_); case hv => rfl)
  | ((with_reducible refine br_f ?hv ?_); case hv => rfl)
  | ((with_reducible refine' Exists.intro _ (And.intro ?hv ?_)); case hv => rfl)
  | ((with_reducible refine' Exists.intro _ (Exists.intro _ (And.intro ?hv ?_))); case hv => rfl)
  | ((with_reducible refine' Exists.intro _ (Exists.intro _ (Exists.intro _ (And.intro ?hv ?_)))); case hv => rfl))
local macro_rules | `(tactic| walk_at "t1") => `(tactic| first
  | (with_reducible refine ws_seq ?_)
  | (with_reducible refine ws_newL ?_)
  | (with_reducible refine ws_newD ?_)
  | (with_reducible refine ws_set ?_)
  | (with_reducible refine ws_if ?_)
  | (with_reducible refine ws_ret ?_)
  | (with_reducible refine ws_next ?_)
  | (with_reducible refine ws_par ?_)
  | (with_reducible refine ws_par3 ?_)
  | (with_reducible refine ws_drop ?_)
  | (with_reducible refine ws_retN ?_))
local macro_rules | `(tactic| walk_at "f1") => `(tactic| refine ws_fld1 rfl (by with_reducible assumption) (by with_reducible assumption) (Nat.le_of_ble_eq_true rfl) ?_)
local macro_rules | `(tactic| walk_at "s1") => `(tactic| first | walk_at "e1" | walk_at "t1")
local macro_rules | `(tactic| walk_at "ge") => `(tactic| repeat walk_at "e1")
local macro_rules | `(tactic| walk_at "go") => `(tactic| repeat walk_at "s1")
local macro_rules | `(tactic| walk_at "g1") => `(tactic| refine Exists.intro _ (Exists.intro _ (And.intro g_name ?_)))
local macro_rules | `(tactic| walk_at "g2") => `(tactic| refine Exists.intro _ (Exists.intro _ (And.intro (g_tup rfl (gs_cons g_name (gs_cons g_name gs_nil))) ?_)))
local macro_rules | `(tactic| walk_at "g3") => `(tactic| refine Exists.intro _ (Exists.intro _ (And.intro (g_tup rfl (gs_cons g_name (gs_cons g_name (gs_cons g_name gs_nil)))) ?_)))
local macro_rules | `(tactic| walk_at "g4") => `(tactic| refine Exists.intro _ (Exists.intro _ (And.intro (g_tup rfl (gs_cons g_name (gs_cons g_name (gs_cons g_name (gs_cons g_name gs_nil))))) ?_)))
local macro_rules | `(tactic| walk_at "g6") => `(tactic| refine Exists.intro _ (Exists.intro _ (And.intro (g_tup rfl (gs_cons g_name (gs_cons g_name (gs_cons g_name (gs_cons g_name (gs_cons g_name (gs_cons g_name gs_nil))))))) ?_)))
local macro_rules | `(tactic| walk_at "g13") => `(tactic| refine Exists.intro _ (Exists.intro _ (And.intro (g_tup rfl (gs_cons g_name (gs_cons (g_tup rfl (gs_cons g_name (gs_cons g_name (gs_cons g_name gs_nil)))) gs_nil))) ?_)))
local macro_rules | `(tactic| walk_at "nm") => `(tactic| try dsimp only [awipe, List.set_cons_succ, List.set_cons_zero, List.map])
local macro_rules | `(tactic| walk_at "c1") => `(tactic| refine Exists.intro _ (Exists.intro _ (And.intro g_name (And.intro (by decide) ?_))))
local macro_rules | `(tactic| walk_at "c3") => `(tactic| refine Exists.intro _ (Exists.intro _ (And.intro (g_tup rfl (gs_cons g_name (gs_cons g_name (gs_cons g_name gs_nil)))) (And.intro (by decide) ?_))))
local macro_rules | `(tactic| walk_at "c2") => `(tactic| refine Exists.intro _ (Exists.intro _ (And.intro (g_tup rfl (gs_cons g_name (gs_cons g_name gs_nil))) (And.intro (by decide) ?_))))
section
variable {P : Program} {w : World} {K : PySem.W.Frag} {mg : Str → Option Value} {base : Heap}
/-! ### the law's value -/
abbrev Det_l_valueH (h : Nat) : FT := Det (fun z : Tr × Int => [encTr z.1, .int z.2]) (fun z => linM z.1 = true ∧ spanM z.1 ≤ 1000 ∧ szE z.1 ≤ 4000 ∧ Bd 20000 z.2 ∧ ht z.1 < h) (fun z => .int (valM z.1 z.2))
theorem rc_l_value (T : Txt K w mg) : ∀ h, FnOk P w K mg base CX0 (h + 2) T.l_value.f T.l_value.fd P_l_value (spG K (Det_l_valueH h)) := by
  intro h
  induction h with
  | zero => exact okDet T.l_value.F sc_l_value (fun x => rfl) fun cdv A outer s H E z hr pre => absurd pre.2.2.2.2 (Nat.not_lt_zero _)
  | succ h ih_l_value =>
    refine okDet T.l_value.F sc_l_value (fun x => rfl) fun cdv A outer s H E z hr pre => ?_
    obtain ⟨t, n⟩ := z
    obtain ⟨hl, hs, hz, hn, hh⟩ := pre
    have hl : linM t = true := hl
    have hs : spanM t ≤ 1000 := hs
    have hz : szE t ≤ 4000 := hz
    have hn : Bd 20000 n := hn
    have hh : ht t < h + 1 := hh
    have hu := hu_of hr
    have sp := span_pos t hl
    have hpt : ∀ x ∈ parts t, linM x = true ∧ spanM x ≤ 1000 ∧ ht x < h := fun x hx => ⟨lin_parts hl x hx, Nat.le_trans (Nat.le_of_dvd sp (span_dvd hl x hx)) hs, by have := ht_parts x hx; omega⟩
    have hvb : ∀ x, linM x = true → spanM x ≤ 1000 → szE x ≤ 4000 → Bd 24000 (valM x n) := fun x h1 h2 h3 => (val_bd hn x h1 h2).mono (by omega)
    refine ⟨_, (pss_cons (ps_set (i := 2) sc_l_value.nd rfl (.inl rfl) (pe_ix ix_seq (pv 0) pe_int (fun _ _ => rfl)))
          (pss_cons (ps_if (pt_cmpR op_in_seq (pv 2) (pe_tup (pa_cons pe_str (pa_cons pe_str pa_nil))) (by with_unfolding_all rfl)) (pss_one (ps_ret (pe_ifExp (pt_cmpR op_eq (pv 2) pe_str (nomark _)) (pv 1) (pe_ix ix_seq (pv 0) pe_int (fun _ _ => rfl))))) pss_nil)
          (pss_cons (ps_set (i := 3) sc_l_value.nd rfl (.inl rfl) (pe_call ih_l_value (hr.mono (by omega)) (by rfl) T.l_value.m T.l_value.F.kp T.l_value.b .nil pass0 (pa_cons (pe_ix ix_seq (pv 0) pe_int (fun _ _ => rfl)) (pa_cons (pv 1) pa_nil))))
          (pss_cons (ps_if (PW.pt (pw_or (pt_cmpR op_isNo (pv 3) pe_non (nomark _)) (pw_or1 (pt_cmpR op_eq (pv 2) pe_str (nomark _))))) (pss_one (ps_ret (pe_ifExp (pt_cmpR op_isNo (pv 3) pe_non (nomark _)) pe_non (pe_callTy cl_int (by rfl) T.b_int (by decide +kernel) (pa_cons (pe_cmpR op_eq (pv 3) pe_int (nomark _)) pa_nil))))) pss_nil)
          (pss_cons (ps_if (pt_cmpR op_in_seq (pv 2) (pe_tup (pa_cons pe_str (pa_cons pe_str pa_nil))) (by with_unfolding_all rfl)) (pss_one (ps_ret (pe_ifExp (pt_cmpR op_eq (pe_cmpR op_eq (pv 3) pe_int (nomark _)) (pe_cmpR op_eq (pv 2) pe_str (nomark _)) (nomark _)) (pv 3) (pe_call ih_l_value (hr.mono (by omega)) (by rfl) T.l_value.m T.l_value.F.kp T.l_value.b .nil pass0 (pa_cons (pe_ix ix_seq (pv 0) pe_int (fun _ _ => rfl)) (pa_cons (pv 1) pa_nil)))))) pss_nil)
          (pss_cons (ps_if (pt_cmpR op_eq (pv 2) pe_str (nomark _)) (pss_one (ps_ret (pe_call ih_l_value (hr.mono (by omega)) (by rfl) T.l_value.m T.l_value.F.kp T.l_value.b .nil pass0 (pa_cons (pe_ix ix_seq (pv 0) (pe_op op_sub pe_int (pe_callTy cl_int (by rfl) T.b_int (by decide +kernel) (pa_cons (pe_cmpR op_ne (pv 3) pe_int (nomark _)) pa_nil))) (fun _ _ => rfl)) (pa_cons (pv 1) pa_nil))))) pss_nil)
          (pss_cons (ps_set (i := 4) sc_l_value.nd rfl (.inl rfl) (pe_call ih_l_value (hr.mono (by omega)) (by rfl) T.l_value.m T.l_value.F.kp T.l_value.b .nil pass0 (pa_cons (pe_ix ix_seq (pv 0) pe_int (fun _ _ => rfl)) (pa_cons (pv 1) pa_nil))))
          (pss_cons (ps_if (PW.pt (pw_or (pt_cmpR op_isNo (pv 4) pe_non (nomark _)) (pw_or1 (PW.pt (pw_and (pt_cmpR op_in_seq (pv 2) (pe_tup (pa_cons pe_str (pa_cons pe_str pa_nil))) (by with_unfolding_all rfl)) (pw_and1 (pt_cmpR op_eq (pv 4) pe_int (nomark _)))))))) (pss_one (ps_ret pe_non)) pss_nil)
          (pss_cons (ps_if (pt_cmpR op_in_seq (pv 2) (pe_tup (pa_cons pe_str (pa_cons pe_str (pa_cons pe_str pa_nil)))) (by with_unfolding_all rfl)) (pss_one (ps_ret (pe_ifExp (pt_cmpR op_eq (pv 2) pe_str (nomark _)) (pe_op op_mulW (pv 3) (pv 4)) (pe_op op_plus (pv 3) (pe_op op_mulW (pv 4) (pe_op op_sub pe_int (pe_op op_mulW pe_int (pe_callTy cl_int (by rfl) T.b_int (by decide +kernel) (pa_cons (pe_cmpR op_eq (pv 2) pe_str (nomark _)) pa_nil))))))))) pss_nil)
          (pss_cons (ps_if (pt_cmpR op_in_seq (pv 2) (pe_tup (pa_cons pe_str (pa_cons pe_str pa_nil))) (by with_unfolding_all rfl)) (pss_cons (ps_set (i := 5) sc_l_value.nd rfl (.inl rfl) (pe_op op_fdivW (pv 3) (pv 4)))
          (pss_one (ps_ret (pe_ifExp (pt_cmpR op_eq (pv 2) pe_str (nomark _)) (pv 5) (pe_op op_sub (pv 3) (pe_op op_mulW (pv 5) (pv 4))))))) pss_nil)
          (pss_one (ps_ret (pe_call (ok_l_compare T) (hr.mono (by omega)) (by rfl) T.l_compare.m T.l_compare.F.kp T.l_compare.b .nil pass0 (pa_cons (pv 2) (pa_cons (pv 3) (pa_cons (pv 4) pa_nil)))))))))))))))), ?_⟩
    try dsimp only [cx_K, cx_w]
    refine ws_rho (ρ' := [some _, some _, none, none, none, none]) rfl ?_
    cases t with
    | n =>
      walk_at "go"
      exact ⟨rfl, rfl⟩
    | num v =>
      walk_at "go"
      exact ⟨rfl, rfl⟩
    | not a =>
      obtain ⟨p1, p2, p3⟩ := hpt a (by simp [parts])
      have pz : szE a ≤ 4000 := by simp only [szE] at hz; omega
      walk_at "go"
      refine ⟨(a, n), rfl, ⟨p1, p2, pz, hn, p3⟩, ?_⟩
      walk_at "go"
      refine ⟨?_, rfl⟩
      rw [Bool.xor_false]
      show AV.d (.int (if decide (valM a n = 0) = true then 1 else 0)) = AV.d (.int (b2i (decide (valM a n = 0))))
      cases decide (valM a n = 0) <;> rfl
    | ite a b c =>
      obtain ⟨p1, p2, p3⟩ := hpt a (by simp [parts])
      obtain ⟨q1, q2, q3⟩ := hpt b (by simp [parts])
      obtain ⟨r1, r2, r3⟩ := hpt c (by simp [parts])
      have pz : szE a ≤ 4000 ∧ szE b ≤ 4000 ∧ szE c ≤ 4000 := by simp only [szE] at hz; omega
      walk_at "go"
      refine ⟨(a, n), rfl, ⟨p1, p2, pz.1, hn, p3⟩, ?_⟩
      walk_at "go"
      have e : valM (.ite a b c) n = if valM a n = 0 then valM c n else valM b n := rfl
      rw [e]
      by_cases h0 : valM a n = 0
      · rw [if_pos h0]
        rw [show decide (valM (a, n).1 (a, n).2 = 0) = true from decide_eq_true h0]
        walk_at "go"
        exact ⟨(c, n), rfl, ⟨r1, r2, pz.2.2, hn, r3⟩, rfl, rfl⟩
      · rw [if_neg h0]
        rw [show decide (valM (a, n).1 (a, n).2 = 0) = false from decide_eq_false h0]
        walk_at "go"
        exact ⟨(b, n), rfl, ⟨q1, q2, pz.2.1, hn, q3⟩, rfl, rfl⟩
    | bin o a b =>
      obtain ⟨p1, p2, p3⟩ := hpt a (by simp [parts])
      obtain ⟨q1, q2, q3⟩ := hpt b (by simp [parts])
      have pz : szE a ≤ 4000 := by cases o <;> (simp only [szE] at hz; omega)
      have dmv : o = .div ∨ o = .mod → ∃ v, b = .num v ∧ 0 < v ∧ Bd 10 v := fun ho => by
        obtain ⟨a', v, o', e, hv, _, _⟩ := isDM_form (t := .bin o a b) (by rcases ho with rfl | rfl <;> rfl) hl
        cases e
        exact ⟨v, rfl, hv, (dm_small hl hs rfl ho).2⟩
      have qz : szE b ≤ 4000 := by
        by_cases ho : o = .div ∨ o = .mod
        · obtain ⟨v, rfl, _, hv⟩ := dmv ho
          have := hv.log (by omega)
          simp only [szE]
          omega
        · cases o <;> first | exact absurd (.inl rfl) ho | exact absurd (.inr rfl) ho | (simp only [szE] at hz; omega)
      have va := hvb a p1 p2 pz
      have vb := hvb b q1 q2 qz
      have ew : valM (.bin o a b) n = opV o (valM a n) (valM b n) := valM_bin o a b n
      have k1 : inV (V.str o.str) [V.str "n", V.str "number"] = false := op_in_nn o
      have k2 : decide (o.str = ("not" : Str)) = false := (op_str_ne o).2.2.1
      have k3 : decide (o.str = ("if" : Str)) = false := (op_str_ne o).2.2.2
      walk_at "go"
      refine br_f k1 ?_
      walk_at "go"
      refine ⟨(a, n), rfl, ⟨p1, p2, pz, hn, p3⟩, ?_⟩
      walk_at "go"
      rw [Bool.xor_false]
      refine br_f k2 ?_
      have ec : ∀ x y, o.isCmp = true → b2i (cmpM o x y) = opV o x y := fun x y ho => by cases o <;> first | (cases ho; done) | rfl
      rw [show valM (a, n).1 (a, n).2 = valM a n from rfl, ew]
      generalize valM a n = x at va
      walk_at "nm"
      by_cases hao : o = .and ∨ o = .or
      · rcases hao with rfl | rfl
        · walk_at "go"
          by_cases h0 : x = 0
          · rw [decide_eq_true h0]
            walk_at "go"
            rw [show opV .and x (valM b n) = 0 from if_pos h0, h0]
            exact ⟨rfl, rfl⟩
          · rw [decide_eq_false h0]
            walk_at "go"
            rw [show opV .and x (valM b n) = valM b n from if_neg h0]
            exact ⟨(b, n), rfl, ⟨q1, q2, qz, hn, q3⟩, rfl, rfl⟩
        · walk_at "go"
          by_cases h0 : x = 0
          · rw [decide_eq_true h0]
            walk_at "go"
            rw [show opV .or x (valM b n) = valM b n from if_pos h0]
            exact ⟨(b, n), rfl, ⟨q1, q2, qz, hn, q3⟩, rfl, rfl⟩
          · rw [decide_eq_false h0]
            walk_at "go"
            rw [show opV .or x (valM b n) = x from if_neg h0]
            exact ⟨rfl, rfl⟩
      have k4 : inV (V.str o.str) [V.str "and", V.str "or"] = false := by cases o <;> first | rfl | exact absurd (.inl rfl) hao | exact absurd (.inr rfl) hao
      walk_at "go"
      refine br_f k4 ?_
      walk_at "go"
      rw [Bool.xor_false]
      refine br_f k3 ?_
      walk_at "go"
      refine ⟨(b, n), rfl, ⟨q1, q2, qz, hn, q3⟩, ?_⟩
      rw [show valM (b, n).1 (b, n).2 = valM b n from rfl]
      by_cases hdm : o = .div ∨ o = .mod
      · obtain ⟨v, rfl, v0, v1⟩ := dmv hdm
        rw [show valM (.num v) n = v from rfl]
        have hv0 : (decide (v = 0) ^^ false) = false := by rw [Bool.xor_false]; exact decide_eq_false (by omega)
        rcases hdm with rfl | rfl
        · walk_at "go"
          rw [hv0]
          walk_at "go"
          refine fI2c.i (divOk v1 v0 (by omega) (by omega)) ?_
          walk_at "go"
          exact ⟨rfl, rfl⟩
        · walk_at "go"
          rw [hv0]
          walk_at "go"
          refine fI2c.i (divOk v1 v0 (by omega) (by omega)) ?_
          walk_at "go"
          refine fI2c.i (mulOk (va.div v0) v1 (by omega) (by omega) (by omega)) ?_
          walk_at "go"
          refine ⟨?_, rfl⟩
          show AV.d (.int (x - x / v * v)) = AV.d (.int (x % v))
          rw [Int.emod_def, Int.mul_comm v]
      generalize valM b n = y at vb
      have k5 : inV (V.str o.str) [V.str "/", V.str "mod"] = false := by cases o <;> first | rfl | exact absurd (.inl rfl) hdm | exact absurd (.inr rfl) hdm
      walk_at "go"
      refine br_f k5 ?_
      by_cases hpm : o = .add ∨ o = .sub ∨ o = .mul
      · rcases hpm with rfl | rfl | rfl
        · walk_at "go"
          refine fI2c.i (mulOk (k := 4) (l := 4) (show (2 : Int).natAbs < 2 ^ 4 by decide) (show (0 : Int).natAbs < 2 ^ 4 by decide) (by omega) (by omega) (by omega)) ?_
          walk_at "go"
          refine fI2c.i (mulOk (l := 4) vb (show (1 : Int).natAbs < 2 ^ 4 by decide) (by omega) (by omega) (by omega)) ?_
          walk_at "go"
          refine ⟨?_, rfl⟩
          show AV.d (.int (x + y * 1)) = AV.d (.int (x + y))
          rw [Int.mul_one]
        · walk_at "go"
          refine fI2c.i (mulOk (k := 4) (l := 4) (show (2 : Int).natAbs < 2 ^ 4 by decide) (show (1 : Int).natAbs < 2 ^ 4 by decide) (by omega) (by omega) (by omega)) ?_
          walk_at "go"
          refine fI2c.i (mulOk (l := 4) vb (show (-1 : Int).natAbs < 2 ^ 4 by decide) (by omega) (by omega) (by omega)) ?_
          walk_at "go"
          refine ⟨?_, rfl⟩
          show AV.d (.int (x + y * -1)) = AV.d (.int (x - y))
          rw [Int.mul_neg, Int.mul_one, ← Int.sub_eq_add_neg]
        · walk_at "go"
          refine fI2c.i (mulOk va vb (by omega) (by omega) (by omega)) ?_
          exact ⟨rfl, rfl⟩
      have k6 : inV (V.str o.str) [V.str "+", V.str "-", V.str "*"] = false := by cases o <;> first | rfl | exact absurd (.inl rfl) hpm | exact absurd (.inr (.inl rfl)) hpm | exact absurd (.inr (.inr rfl)) hpm
      have hc : o.isCmp = true := by cases o <;> first | rfl | exact absurd (.inl rfl) hao | exact absurd (.inr rfl) hao | exact absurd (.inl rfl) hdm | exact absurd (.inr rfl) hdm | exact absurd (.inl rfl) hpm | exact absurd (.inr (.inl rfl)) hpm | exact absurd (.inr (.inr rfl)) hpm
      walk_at "go"
      refine br_f k6 ?_
      walk_at "go"
      refine br_f k5 ?_
      walk_at "go"
      refine ⟨(o, x, y), rfl, hc, ?_, rfl⟩
      rw [← ec x y hc]
abbrev Det_l_value : FT := Det_l_valueH 9
theorem ok_l_value (T : Txt K w mg) : FnOk P w K mg base CX0 11 T.l_value.f T.l_value.fd P_l_value (spG K Det_l_value) := rc_l_value T 9
end
section
/-! ### the law's text of a tree, plain -/
def brS (l r : Nat) (cs : List Nat) : List Nat := if l ≤ r then cs else 40 :: (cs ++ [41])
def wrS (sp : List Nat) : Tr → List Nat
  | .n => [110]
  | .num v => dg v.toNat
  | .not a => 33 :: brS 7 (rk a) (wrS sp a)
  | .ite a b c => brS 1 (rk a) (wrS sp a) ++ (sp ++ [63] ++ sp) ++ brS 0 (rk b) (wrS sp b) ++ (sp ++ [58] ++ sp) ++ brS 0 (rk c) (wrS sp c)
  | .bin o a b => brS (opRank o) (rk a) (wrS sp a) ++ sp ++ opCodes o ++ sp ++ brS (opRank o + 1) (rk b) (wrS sp b)
def nbT : Tr → Bool
  | .n => true
  | .num v => decide (0 ≤ v) && decide (v.natAbs < 2 ^ 101)
  | .not a => nbT a
  | .ite a b c => nbT a && nbT b && nbT c
  | .bin _ a b => nbT a && nbT b
theorem nbT_parts {t : Tr} (h : nbT t = true) : ∀ x ∈ parts t, nbT x = true := by
  cases t <;> simp_all [nbT, parts]
theorem brS_len (l r : Nat) (cs : List Nat) : cs.length ≤ (brS l r cs).length := by
  unfold brS
  split
  · omega
  · simp only [List.length_cons, List.length_append]; omega
theorem wrS_parts {sp : List Nat} {t : Tr} : ∀ x ∈ parts t, (wrS sp x).length + 2 ≤ (wrS sp t).length + 1 := by
  cases t with
  | not a =>
    intro x hx
    simp only [parts, List.mem_singleton] at hx
    subst hx
    have := brS_len 7 (rk x) (wrS sp x)
    simp only [wrS, List.length_cons]
    omega
  | ite a b c =>
    intro x hx
    have h1 := brS_len 1 (rk a) (wrS sp a)
    have h2 := brS_len 0 (rk b) (wrS sp b)
    have h3 := brS_len 0 (rk c) (wrS sp c)
    simp only [parts, List.mem_cons, List.not_mem_nil, or_false] at hx
    simp only [wrS, List.length_append, List.length_cons, List.length_nil]
    rcases hx with rfl | rfl | rfl <;> omega
  | bin o a b =>
    intro x hx
    have h1 := brS_len (opRank o) (rk a) (wrS sp a)
    have h2 := brS_len (opRank o + 1) (rk b) (wrS sp b)
    have h3 : 1 ≤ (opCodes o).length := by cases o <;> decide
    simp only [parts, List.mem_cons, List.not_mem_nil, or_false] at hx
    simp only [wrS, List.length_append]
    rcases hx with rfl | rfl <;> omega
  | _ => simp [parts]
variable {P : Program} {w : World} {K : PySem.W.Frag} {mg : Str → Option Value} {base : Heap}
abbrev Det_wr (n : Nat) : FT := Det (fun z : Tr => [encTr z]) (fun z => nbT z = true ∧ (wrS [32] z).length ≤ 2000 ∧ 2 * ht z < n) (fun z => encC (wrS [32] z))
abbrev Det_wi (n : Nat) : FT := Det (fun z : Tr × Nat => [encTr z.1, .int (z.2 : Nat)]) (fun z => nbT z.1 = true ∧ (wrS [32] z.1).length ≤ 2000 ∧ 2 * ht z.1 + 1 < n) (fun z => encC (brS z.2 (rk z.1) (wrS [32] z.1)))
theorem encC_app (xs ys : List Nat) : (xs.map fun c => D.int (c : Nat)) ++ (ys.map fun c => D.int (c : Nat)) = (xs ++ ys).map fun c => D.int (c : Nat) := List.map_append.symm
theorem tx1 : sCodes (Str.ofString " ? ") = [32, 63, 32] := by decide +kernel
theorem tx2 : sCodes (Str.ofString " : ") = [32, 58, 32] := by decide +kernel
theorem tx3 : sCodes (Str.ofString "n") = [110] := by decide +kernel
theorem rc_within (T : Txt K w mg) (n : Nat) (ih_l_written : FnOk P w K mg base CX0 (n + 2) T.l_written.f T.l_written.fd P_l_written (spG K (Det_wr n))) : FnOk P w K mg base CX0 (n + 1 + 2) T.l_within.f T.l_within.fd P_l_within (spG K (Det_wi (n + 1))) := by
  refine okDet T.l_within.F sc_l_within (fun x => rfl) fun cdv A outer s H E z hr pre => ?_
  obtain ⟨t, l⟩ := z
  obtain ⟨h1, h2, h3⟩ := pre
  have h1 : nbT t = true := h1
  have h2 : (wrS [32] t).length ≤ 2000 := h2
  have h3 : 2 * ht t + 1 < n + 1 := h3
  have hu := hu_of hr
  refine ⟨_, (pss_cons (ps_set (i := 2) sc_l_within.nd rfl (.inl rfl) (pe_call ih_l_written (hr.mono (by omega)) (by rfl) T.l_written.m T.l_written.F.kp T.l_written.b .nil pass0 (pa_cons (pv 0) pa_nil)))
        (pss_one (ps_ret (pe_ifExp (pt_cmpR op_ge (pe_call (ok_l_rank T) (hr.mono (by omega)) (by rfl) T.l_rank.m T.l_rank.F.kp T.l_rank.b .nil pass0 (pa_cons (pe_ix ix_seq (pv 0) pe_int (fun _ _ => rfl)) pa_nil)) (pv 1) (nomark _)) (pv 2) (pe_op op_plus (pe_op op_plus (pe_tup (pa_cons pe_int pa_nil)) (pv 2)) (pe_tup (pa_cons pe_int pa_nil))))))), ?_⟩
  try dsimp only [cx_K, cx_w]
  refine ws_rho (ρ' := [some _, some _, none]) rfl ?_
  walk_at "go"
  refine ⟨⟨h1, h2, by omega⟩, ?_⟩
  walk_at "go"
  refine ⟨trivial, ?_⟩
  walk_at "go"
  refine ⟨fun hd => ?_, fun hd => ?_⟩
  · have hlr : l ≤ rk t := by have := of_decide_eq_true hd; omega
    walk_at "go"
    refine ⟨?_, rfl⟩
    rw [show brS l (rk t) (wrS [32] t) = wrS [32] t from if_pos hlr]
  · have hlr : ¬ l ≤ rk t := by have := of_decide_eq_false hd; omega
    walk_at "go"
    refine fPlus.t (by rw [List.length_map]; show 1 + _ ≤ _; omega) ?_
    walk_at "go"
    refine fPlus.t (by rw [List.length_append, List.length_map]; show 1 + _ + 1 ≤ _; omega) ?_
    refine ⟨?_, rfl⟩
    rw [show brS l (rk t) (wrS [32] t) = 40 :: (wrS [32] t ++ [41]) from if_neg hlr]
    show AV.d (.tup _) = AV.d (.tup _)
    rw [List.map_cons, List.map_append]
    rfl
theorem tx4 : sCodes (Str.ofString "!") = [33] := by decide +kernel
def opSg : Op → Str
  | .or => "||"
  | .and => "&&"
  | o => o.str
theorem opSg_codes (o : Op) (h : o ≠ .mod) : sCodes (opSg o) = opCodes o := by cases o <;> first | exact absurd rfl h | decide +kernel
theorem fPlusC {xs ys : List Nat} {k : AV → Prop} (hl : xs.length + ys.length ≤ 1000000) (h : k (.d (encC (xs ++ ys)))) : fPlus (.d (encC xs)) (.d (encC ys)) k := by
  refine fPlus.t (by rw [List.length_map, List.length_map]; exact hl) ?_
  rw [encC_app]
  exact h
theorem rc_written (T : Txt K w mg) (n : Nat) (ih_l_within : FnOk P w K mg base CX0 (n + 2) T.l_within.f T.l_within.fd P_l_within (spG K (Det_wi n))) : FnOk P w K mg base CX0 (n + 1 + 2) T.l_written.f T.l_written.fd P_l_written (spG K (Det_wr (n + 1))) := by
  refine okDet T.l_written.F sc_l_written (fun x => rfl) fun cdv A outer s H E t hr pre => ?_
  obtain ⟨h1, h2, h3⟩ := pre
  have hu := hu_of hr
  have hpt : ∀ x ∈ parts t, nbT x = true ∧ (wrS [32] x).length ≤ 2000 ∧ 2 * ht x + 1 < n := fun x hx => ⟨nbT_parts h1 x hx, by have := wrS_parts (sp := [32]) x hx; omega, by have := ht_parts x hx; omega⟩
  refine ⟨_, (pss_cons (ps_set (i := 1) sc_l_written.nd rfl (.inl rfl) (pe_ix ix_seq (pv 0) pe_int (fun _ _ => rfl)))
        (pss_cons (ps_if (pt_cmpR op_eq (pv 1) pe_str (nomark _)) (pss_one (ps_ret (pe_call (ok_l_text T) (hr.mono (by omega)) (by rfl) T.l_text.m T.l_text.F.kp T.l_text.b .nil pass0 (pa_cons pe_str pa_nil)))) pss_nil)
        (pss_cons (ps_if (pt_cmpR op_eq (pv 1) pe_str (nomark _)) (pss_one (ps_ret (pe_call (ok_l_text T) (hr.mono (by omega)) (by rfl) T.l_text.m T.l_text.F.kp T.l_text.b .nil pass0 (pa_cons (pe_callTy cl_str (by rfl) T.b_str (by decide +kernel) (pa_cons (pe_ix ix_seq (pv 0) pe_int (fun _ _ => rfl)) pa_nil)) pa_nil)))) pss_nil)
        (pss_cons (ps_if (pt_cmpR op_eq (pv 1) pe_str (nomark _)) (pss_one (ps_ret (pe_op op_plus (pe_call (ok_l_text T) (hr.mono (by omega)) (by rfl) T.l_text.m T.l_text.F.kp T.l_text.b .nil pass0 (pa_cons pe_str pa_nil)) (pe_call ih_l_within (hr.mono (by omega)) (by rfl) T.l_within.m T.l_within.F.kp T.l_within.b .nil pass0 (pa_cons (pe_ix ix_seq (pv 0) pe_int (fun _ _ => rfl)) (pa_cons pe_int pa_nil)))))) pss_nil)
        (pss_cons (ps_if (pt_cmpR op_eq (pv 1) pe_str (nomark _)) (pss_cons (ps_set (i := 2) sc_l_written.nd rfl (.inl rfl) (pe_op op_plus (pe_op op_plus (pe_call ih_l_within (hr.mono (by omega)) (by rfl) T.l_within.m T.l_within.F.kp T.l_within.b .nil pass0 (pa_cons (pe_ix ix_seq (pv 0) pe_int (fun _ _ => rfl)) (pa_cons pe_int pa_nil))) (pe_call (ok_l_text T) (hr.mono (by omega)) (by rfl) T.l_text.m T.l_text.F.kp T.l_text.b .nil pass0 (pa_cons pe_str pa_nil))) (pe_call ih_l_within (hr.mono (by omega)) (by rfl) T.l_within.m T.l_within.F.kp T.l_within.b .nil pass0 (pa_cons (pe_ix ix_seq (pv 0) pe_int (fun _ _ => rfl)) (pa_cons pe_int pa_nil)))))
        (pss_one (ps_ret (pe_op op_plus (pe_op op_plus (pv 2) (pe_call (ok_l_text T) (hr.mono (by omega)) (by rfl) T.l_text.m T.l_text.F.kp T.l_text.b .nil pass0 (pa_cons pe_str pa_nil))) (pe_call ih_l_within (hr.mono (by omega)) (by rfl) T.l_within.m T.l_within.F.kp T.l_within.b .nil pass0 (pa_cons (pe_ix ix_seq (pv 0) pe_int (fun _ _ => rfl)) (pa_cons pe_int pa_nil))))))) pss_nil)
        (pss_cons (ps_set (i := 3) sc_l_written.nd rfl (.inl rfl) (pe_dget2 hu (pe_disp (pps_cons pe_str pe_str (pps_cons pe_str pe_str pps_nil)) (by rfl) (by rfl) (fun z => by cases z) (by decide)) (pv 1) (pv 1) ⟨rfl, rfl, rfl, rfl⟩))
        (pss_cons (ps_set (i := 4) sc_l_written.nd rfl (.inl rfl) (pe_ifExp (pt_cmpR op_eq (pv 1) pe_str (nomark _)) (pe_tup (pa_cons pe_int pa_nil)) (pe_call (ok_l_text T) (hr.mono (by omega)) (by rfl) T.l_text.m T.l_text.F.kp T.l_text.b .nil pass0 (pa_cons (pv 3) pa_nil))))
        (pss_cons (ps_set (i := 5) sc_l_written.nd rfl (.inl rfl) (pe_call (ok_l_rank T) (hr.mono (by omega)) (by rfl) T.l_rank.m T.l_rank.F.kp T.l_rank.b .nil pass0 (pa_cons (pv 1) pa_nil)))
        (pss_one (ps_ret (pe_op op_plus (pe_op op_plus (pe_op op_plus (pe_op op_plus (pe_call ih_l_within (hr.mono (by omega)) (by rfl) T.l_within.m T.l_within.F.kp T.l_within.b .nil pass0 (pa_cons (pe_ix ix_seq (pv 0) pe_int (fun _ _ => rfl)) (pa_cons (pv 5) pa_nil))) (pe_tup (pa_cons pe_int pa_nil))) (pv 4)) (pe_tup (pa_cons pe_int pa_nil))) (pe_call ih_l_within (hr.mono (by omega)) (by rfl) T.l_within.m T.l_within.F.kp T.l_within.b .nil pass0 (pa_cons (pe_ix ix_seq (pv 0) pe_int (fun _ _ => rfl)) (pa_cons (pe_op op_plus (pv 5) pe_int) pa_nil)))))))))))))), ?_⟩
  try dsimp only [cx_K, cx_w]
  refine ws_rho (ρ' := [some _, none, none, none, none, none]) rfl ?_
  cases t with
  | n =>
    walk_at "go"
    refine ⟨by decide, ?_⟩
    exact ⟨rfl, rfl⟩
  | num v =>
    simp only [nbT, Bool.and_eq_true, decide_eq_true_eq] at h1
    obtain ⟨m, rfl⟩ : ∃ m : Nat, v = (m : Int) := ⟨v.toNat, by omega⟩
    have hlg : (m : Int).natAbs.log2 < 1920 := by
      have := Bd.log (k := 101) (i := (m : Int)) h1.2 (by omega)
      omega
    have e : sCodes (Str.ofString (toString ((m : Nat) : Int))) = dg m := PySem.W.KIN.signs_num m
    walk_at "go"
    refine fStr.i hlg ?_
    walk_at "go"
    refine ⟨?_, ?_, rfl⟩
    · show (sCodes (Str.ofString (toString ((m : Nat) : Int)))).length ≤ 1000000
      rw [e]
      have : (dg m).length ≤ 2000 := h2
      omega
    · show AV.d (encC (sCodes (Str.ofString (toString ((m : Nat) : Int))))) = _
      rw [e]
      rfl
  | not a =>
    obtain ⟨p1, p2, p3⟩ := hpt a (by simp [parts])
    walk_at "go"
    refine ⟨by decide, ?_⟩
    walk_at "go"
    refine ⟨(a, 7), rfl, ⟨p1, p2, p3⟩, ?_⟩
    rw [tx4]
    have h2 : (33 :: brS 7 (rk a) (wrS [32] a)).length ≤ 2000 := h2
    rw [List.length_cons] at h2
    refine fPlus.t (by rw [List.length_map, List.length_map]; show 1 + (brS 7 (rk a) (wrS [32] a)).length ≤ _; omega) ?_
    exact ⟨rfl, rfl⟩
  | ite a b c =>
    obtain ⟨p1, p2, p3⟩ := hpt a (by simp [parts])
    obtain ⟨q1, q2, q3⟩ := hpt b (by simp [parts])
    obtain ⟨r1, r2, r3⟩ := hpt c (by simp [parts])
    have h2 : (brS 1 (rk a) (wrS [32] a) ++ ([32] ++ [63] ++ [32]) ++ brS 0 (rk b) (wrS [32] b) ++ ([32] ++ [58] ++ [32]) ++ brS 0 (rk c) (wrS [32] c)).length ≤ 2000 := h2
    simp only [List.length_append] at h2
    walk_at "go"
    refine ⟨(a, 1), rfl, ⟨p1, p2, p3⟩, ?_⟩
    walk_at "go"
    refine ⟨by decide, ?_⟩
    rw [tx1]
    refine fPlusC (xs := brS 1 (rk a) (wrS [32] a)) (ys := [32, 63, 32]) (by simp only [List.length_cons, List.length_nil]; omega) ?_
    walk_at "go"
    refine ⟨(b, 0), rfl, ⟨q1, q2, q3⟩, ?_⟩
    refine fPlusC (xs := brS 1 (rk a) (wrS [32] a) ++ [32, 63, 32]) (ys := brS 0 (rk b) (wrS [32] b)) (by simp only [List.length_append, List.length_cons, List.length_nil]; omega) ?_
    walk_at "go"
    refine ⟨by decide, ?_⟩
    rw [tx2]
    refine fPlusC (xs := brS 1 (rk a) (wrS [32] a) ++ [32, 63, 32] ++ brS 0 (rk b) (wrS [32] b)) (ys := [32, 58, 32]) (by simp only [List.length_append, List.length_cons, List.length_nil]; omega) ?_
    walk_at "go"
    refine ⟨(c, 0), rfl, ⟨r1, r2, r3⟩, ?_⟩
    refine fPlusC (xs := brS 1 (rk a) (wrS [32] a) ++ [32, 63, 32] ++ brS 0 (rk b) (wrS [32] b) ++ [32, 58, 32]) (ys := brS 0 (rk c) (wrS [32] c)) (by simp only [List.length_append, List.length_cons, List.length_nil]; omega) ?_
    exact ⟨rfl, rfl⟩
  | bin o a b =>
    obtain ⟨p1, p2, p3⟩ := hpt a (by simp [parts])
    obtain ⟨q1, q2, q3⟩ := hpt b (by simp [parts])
    have h2 : (brS (opRank o) (rk a) (wrS [32] a) ++ [32] ++ opCodes o ++ [32] ++ brS (opRank o + 1) (rk b) (wrS [32] b)).length ≤ 2000 := h2
    simp only [List.length_append, List.length_cons, List.length_nil] at h2
    have k0 := op_str_ne o
    have rest : ∀ (ρ : AE) (Δ : AEnds), ρ = [some (.d (encTr (.bin o a b))), some (.d (.str o.str)), none, some (.d (.str (opSg o))), some (.d (encC (opCodes o))), none] → Δ.rt (.d (encC (wrS [32] (.bin o a b)))) [] → WS K
        (tSeq (tAsg (tCall (spG K Det_l_rank) [] E0 (tCons (tVar 1) tNil)) (gName 5))
          (tRet
            (tOp (rPlus K)
              (tOp (rPlus K)
                (tOp (rPlus K)
                  (tOp (rPlus K)
                    (tCall (spG K (Det_wi n)) [] E0 (tCons (tOp (rIx K) (tVar 0) (tC (V.int 1))) (tCons (tVar 5) tNil)))
                    (tTup (tCons (tC (V.int 32)) tNil)))
                  (tVar 4))
                (tTup (tCons (tC (V.int 32)) tNil)))
              (tCall (spG K (Det_wi n)) [] E0 (tCons (tOp (rIx K) (tVar 0) (tC (V.int 2))) (tCons (tOp (rPlus K) (tVar 5) (tC (V.int 1))) tNil)))))) ρ [] Δ := fun ρ Δ e hΔ => by
      subst e
      walk_at "s1"
      walk_at "s1"
      refine we_callD ?_
      walk_at "go"
      refine ⟨.bin o a b, rfl, trivial, ?_⟩
      walk_at "go"
      refine ⟨(a, opRank o), rfl, ⟨p1, p2, p3⟩, ?_⟩
      walk_at "go"
      refine fPlusC (xs := brS (opRank o) (rk a) (wrS [32] a)) (ys := [32]) (by simp only [List.length_cons, List.length_nil]; omega) ?_
      walk_at "go"
      refine fPlusC (xs := brS (opRank o) (rk a) (wrS [32] a) ++ [32]) (ys := opCodes o) (by simp only [List.length_append, List.length_cons, List.length_nil]; omega) ?_
      walk_at "go"
      refine fPlusC (xs := brS (opRank o) (rk a) (wrS [32] a) ++ [32] ++ opCodes o) (ys := [32]) (by simp only [List.length_append, List.length_cons, List.length_nil]; omega) ?_
      walk_at "go"
      refine ⟨(b, opRank o + 1), rfl, ⟨q1, q2, q3⟩, ?_⟩
      refine fPlusC (xs := brS (opRank o) (rk a) (wrS [32] a) ++ [32] ++ opCodes o ++ [32]) (ys := brS (opRank o + 1) (rk b) (wrS [32] b)) (by simp only [List.length_append, List.length_cons, List.length_nil]; omega) ?_
      exact hΔ
    walk_at "go"
    rw [Bool.xor_false]
    refine br_f k0.1 ?_
    walk_at "go"
    rw [Bool.xor_false]
    refine br_f k0.2.1 ?_
    walk_at "go"
    rw [Bool.xor_false]
    refine br_f k0.2.2.1 ?_
    walk_at "go"
    rw [Bool.xor_false]
    refine br_f k0.2.2.2 ?_
    walk_at "s1"
    refine ws_seq (ws_setE (.d (.str (opSg o))) (WE.sub (Ψ := fun a R' => a = .d (.str (opSg o))) ?_ fun a R' e => ⟨[], List.nil_sublist _, e, rfl⟩) ?_)
    · refine we_dget2 (we_disp fun p => ?_)
      walk_at "go"
      refine ⟨List.mem_singleton.mpr rfl, [(.inr "or", .str "||"), (.inr "and", .str "&&")], rfl, Nat.le_of_ble_eq_true rfl, ?_⟩
      rw [setR_here, setR_nil]
      refine ⟨p, _, rfl, List.mem_singleton.mpr rfl, we_var rfl (we_var rfl ⟨.inr o.str, rfl, List.mem_singleton.mpr rfl, ?_⟩)⟩
      cases o <;> rfl
    walk_at "nm"
    refine ws_seq (ws_setE (.d (encC (opCodes o))) ?_ ?_)
    · by_cases hm : o = .mod
      · subst hm
        walk_at "go"
        exact ⟨rfl, rfl⟩
      · have k5 : decide (o.str = ("mod" : Str)) = false := by cases o <;> first | rfl | exact absurd rfl hm
        walk_at "go"
        rw [Bool.xor_false]
        refine br_f k5 ?_
        walk_at "go"
        refine ⟨?_, ?_, rfl⟩
        · show (sCodes (opSg o)).length ≤ 1000000
          rw [opSg_codes o hm]
          cases o <;> decide
        · show AV.d (encC (sCodes (opSg o))) = _
          rw [opSg_codes o hm]
    walk_at "nm"
    exact rest _ _ rfl ⟨rfl, rfl⟩
theorem rc_text (T : Txt K w mg) : ∀ n, FnOk P w K mg base CX0 (n + 2) T.l_written.f T.l_written.fd P_l_written (spG K (Det_wr n)) ∧ FnOk P w K mg base CX0 (n + 2) T.l_within.f T.l_within.fd P_l_within (spG K (Det_wi n)) := by
  intro n
  induction n with
  | zero =>
    refine ⟨?_, ?_⟩
    · exact okDet T.l_written.F sc_l_written (fun x => rfl) fun cdv A outer s H E z hr pre => absurd pre.2.2 (Nat.not_lt_zero _)
    · exact okDet T.l_within.F sc_l_within (fun x => rfl) fun cdv A outer s H E z hr pre => absurd pre.2.2 (Nat.not_lt_zero _)
  | succ n ih => exact ⟨rc_written T n ih.2, rc_within T n ih.1⟩
abbrev Det_l_written : FT := Det_wr 17
theorem ok_l_written (T : Txt K w mg) : FnOk P w K mg base CX0 19 T.l_written.f T.l_written.fd P_l_written (spG K Det_l_written) := (rc_text T 17).1
end
section
/-! ### how far the end goes, plain -/
theorem two_bd {k : Nat} (h : 1 < k) : Bd k 2 := Bd.mono (k := k) (show Bd 2 2 by unfold Bd; decide) (by omega)
theorem end_bd : ∀ t : Tr, linM t = true → spanM t ≤ 1000 → Bd (2 * szE t) (endM t).1 ∧ Bd (szE t) (endM t).2.1 ∧ Bd (szE t) (endM t).2.2
  | .n, _, _ => ⟨Bd.zero, Bd.zero, Bd.one (by decide)⟩
  | .num v, _, _ => ⟨Bd.zero, nb_bd v, Bd.one (by simp only [szE]; omega)⟩
  | .not a, hl, hs => by
    have sp := span_pos _ hl
    have pb := lin_parts hl a (by simp [parts])
    have ps := Nat.le_trans (Nat.le_of_dvd sp (span_dvd hl a (by simp [parts]))) hs
    obtain ⟨a1, a2, a3⟩ := end_bd a pb ps
    have e1 := szE_lo a
    simp only [endM, szE]
    refine ⟨(a1.mono (by omega)).max ?_, Bd.one (by omega), Bd.one (by omega)⟩
    exact ((a2.mul a3).add (Bd.one (by omega))).mono (by omega)
  | .ite a b c, hl, hs => by
    have sp := span_pos _ hl
    have pb : ∀ x ∈ parts (.ite a b c), linM x = true ∧ spanM x ≤ 1000 := fun x hx => ⟨lin_parts hl x hx, Nat.le_trans (Nat.le_of_dvd sp (span_dvd hl x hx)) hs⟩
    obtain ⟨a1, a2, a3⟩ := end_bd a (pb a (by simp [parts])).1 (pb a (by simp [parts])).2
    obtain ⟨b1, b2, b3⟩ := end_bd b (pb b (by simp [parts])).1 (pb b (by simp [parts])).2
    obtain ⟨c1, c2, c3⟩ := end_bd c (pb c (by simp [parts])).1 (pb c (by simp [parts])).2
    have e1 := szE_lo a
    simp only [endM, szE]
    refine ⟨((((a1.mono (by omega)).max (b1.mono (by omega))).max (c1.mono (by omega))).max ?_), (b2.mono (by omega)).max (c2.mono (by omega)), (b3.mul c3).mono (by omega)⟩
    exact ((a2.mul a3).add (Bd.one (by omega))).mono (by omega)
  | .bin o a b, hl, hs => by
    have sp := span_pos _ hl
    have pb : ∀ x ∈ parts (.bin o a b), linM x = true ∧ spanM x ≤ 1000 := fun x hx => ⟨lin_parts hl x hx, Nat.le_trans (Nat.le_of_dvd sp (span_dvd hl x hx)) hs⟩
    obtain ⟨a1, a2, a3⟩ := end_bd a (pb a (by simp [parts])).1 (pb a (by simp [parts])).2
    obtain ⟨b1, b2, b3⟩ := end_bd b (pb b (by simp [parts])).1 (pb b (by simp [parts])).2
    have e1 := szE_lo a
    have e2 := szE_lo b
    have m1 : ∀ k, 2 * szE a + 2 * szE b ≤ k → Bd k (max (endM a).1 (endM b).1) := fun k hk => (a1.mono (by omega)).max (b1.mono (by omega))
    have t1 : ∀ k, 2 * szE a + 1 ≤ k → Bd k ((endM a).2.1 * (endM a).2.2 + 1) := fun k hk => ((a2.mul a3).add (Bd.one (by omega))).mono (by omega)
    have cmp : Bd (2 * (szE a + szE b + 3)) (max (max (endM a).1 (endM b).1) (((endM a).2.1 + (endM b).2.1) * (endM a).2.2 * (endM b).2.2 + 1)) := by
      refine (m1 _ (by omega)).max ?_
      have q1 := (a2.mono (show szE a ≤ szE a + szE b by omega)).add (b2.mono (show szE b ≤ szE a + szE b by omega))
      exact (((q1.mul a3).mul b3).add (Bd.one (by omega))).mono (by omega)
    cases o with
    | div =>
      obtain ⟨a', v, o', e, hv, _, ho⟩ := isDM_form (t := .bin .div a b) rfl hl
      cases e
      obtain ⟨_, vb⟩ := dm_small hl hs rfl (.inl rfl)
      simp only [endM, szE, Tr.num?]
      refine ⟨(a1.mono (by omega)).max Bd.zero, ((a2.div hv).add (two_bd (by omega))).mono (by omega), (a3.mul vb).mono (by omega)⟩
    | mod =>
      obtain ⟨a', v, o', e, hv, _, ho⟩ := isDM_form (t := .bin .mod a b) rfl hl
      cases e
      obtain ⟨_, vb⟩ := dm_small hl hs rfl (.inr rfl)
      simp only [endM, szE, Tr.num?]
      exact ⟨(a1.mono (by omega)).max Bd.zero, vb.mono (by omega), Bd.one (by omega)⟩
    | mul =>
      simp only [endM, szE]
      exact ⟨m1 _ (by omega), (a2.mul b2).mono (by omega), (a3.mul b3).mono (by omega)⟩
    | add =>
      simp only [endM, szE]
      exact ⟨m1 _ (by omega), ((a2.mono (show szE a ≤ szE a + szE b by omega)).add (b2.mono (show szE b ≤ szE a + szE b by omega))).mono (by omega), (a3.mul b3).mono (by omega)⟩
    | sub =>
      simp only [endM, szE]
      exact ⟨m1 _ (by omega), ((a2.mono (show szE a ≤ szE a + szE b by omega)).add (b2.mono (show szE b ≤ szE a + szE b by omega))).mono (by omega), (a3.mul b3).mono (by omega)⟩
    | and =>
      simp only [endM, szE]
      exact ⟨(m1 _ (by omega)).max (t1 _ (by omega)), (a2.mono (by omega)).max (b2.mono (by omega)), (a3.mul b3).mono (by omega)⟩
    | or =>
      simp only [endM, szE]
      exact ⟨(m1 _ (by omega)).max (t1 _ (by omega)), (a2.mono (by omega)).max (b2.mono (by omega)), (a3.mul b3).mono (by omega)⟩
    | _ =>
      simp only [endM, szE]
      exact ⟨cmp, Bd.one (by omega), Bd.one (by omega)⟩
variable {P : Program} {w : World} {K : PySem.W.Frag} {mg : Str → Option Value} {base : Heap}
def encE (e : Int × Int × Int) : D := .tup [.int e.1, .int e.2.1, .int e.2.2]
abbrev Det_l_endH (h : Nat) : FT := Det (fun z : Tr => [encTr z]) (fun z => linM z = true ∧ spanM z ≤ 1000 ∧ szE z ≤ 4000 ∧ ht z < h) (fun z => encE (endM z))
theorem rc_l_end (T : Txt K w mg) : ∀ h, FnOk P w K mg base CX0 (h + 2) T.l_end.f T.l_end.fd P_l_end (spG K (Det_l_endH h)) := by
  intro h
  induction h with
  | zero => exact okDet T.l_end.F sc_l_end (fun x => rfl) fun cdv A outer s H E z hr pre => absurd pre.2.2.2 (Nat.not_lt_zero _)
  | succ h ih_l_end =>
    refine okDet T.l_end.F sc_l_end (fun x => rfl) fun cdv A outer s H E t hr pre => ?_
    obtain ⟨hl, hs, hz, hh⟩ := pre
    have hu := hu_of hr
    have sp := span_pos t hl
    have hpt : ∀ x ∈ parts t, linM x = true ∧ spanM x ≤ 1000 ∧ szE x ≤ 4000 ∧ ht x < h := fun x hx => by
      refine ⟨lin_parts hl x hx, Nat.le_trans (Nat.le_of_dvd sp (span_dvd hl x hx)) hs, ?_, by have := ht_parts x hx; omega⟩
      cases hd : isDM t with
      | false => exact Nat.le_trans (parts_sz hd x hx).1 hz
      | true =>
        obtain ⟨a, v, o, rfl, hv, _, ho⟩ := isDM_form hd hl
        obtain ⟨_, vb⟩ := dm_small hl hs rfl ho
        simp only [parts, List.mem_cons, List.not_mem_nil, or_false] at hx
        rcases hx with rfl | rfl
        · rcases ho with rfl | rfl <;> (simp only [szE] at hz; omega)
        · have := vb.log (by omega)
          simp only [szE]
          omega
    have hbd : ∀ x ∈ parts t, Bd 8000 (endM x).1 ∧ Bd 4000 (endM x).2.1 ∧ Bd 4000 (endM x).2.2 := fun x hx => by
      obtain ⟨p1, p2, p3, _⟩ := hpt x hx
      obtain ⟨q1, q2, q3⟩ := end_bd x p1 p2
      exact ⟨q1.mono (by omega), q2.mono (by omega), q3.mono (by omega)⟩
    refine ⟨_, (pss_cons (ps_set (i := 1) sc_l_end.nd rfl (.inl rfl) (pe_ix ix_seq (pv 0) pe_int (fun _ _ => rfl)))
          (pss_cons (ps_if (pt_cmpR op_in_seq (pv 1) (pe_tup (pa_cons pe_str (pa_cons pe_str pa_nil))) (by with_unfolding_all rfl)) (pss_one (ps_ret (pe_tup (pa_cons pe_int (pa_cons (pe_ifExp (pt_cmpR op_eq (pv 1) pe_str (nomark _)) (pe_ix ix_seq (pv 0) pe_int (fun _ _ => rfl)) pe_int) (pa_cons pe_int pa_nil)))))) pss_nil)
          (pss_cons (ps_setLc (i := 2) (own := [("_law_part", 8)]) (by rfl) sc_l_end.nd rfl rfl (sw_true rfl rfl rfl (by decide +kernel)) (pi_seq (pe_slice sl_any (pv 0) (po_some pe_int) po_none)) (blkOk_by (own := [("_law_part", 8)]) (N := N_l_end) (sc := defScope s_l_end) (by decide +kernel)) (fun _ _ _ _ _ => (pg_name (i := 8) sc_l_end.nd rfl (.inl rfl))) (fun _ _ _ _ _ => pts_nil) (fun _ _ _ _ _ => (pe_call ih_l_end (hr.mono (by omega)) (by rfl) T.l_end.m T.l_end.F.kp T.l_end.b .nil pass0 (pa_cons (pv 8) pa_nil))))
          (pss_cons (ps_asg (pe_ix ix_seq (pv 2) pe_int (fun _ _ => rfl)) (pg_tup (n := 3) rfl (pgs_cons (pg_name (i := 3) sc_l_end.nd rfl (.inl rfl)) (pgs_cons (pg_name (i := 4) sc_l_end.nd rfl (.inl rfl)) (pgs_cons (pg_name (i := 5) sc_l_end.nd rfl (.inl rfl)) pgs_nil)))))
          (pss_cons (ps_for PassesOwn.never rfl (pi_seq (pe_slice sl_any (pv 2) (po_some pe_int) po_none)) (pg_name (i := 6) sc_l_end.nd rfl (.inl rfl)) (pss_one (ps_set (i := 3) sc_l_end.nd rfl (.inl rfl) (pe_callB (cl_max2 rfl) (by rfl) T.b_max (by decide +kernel) (pa_cons (pv 3) (pa_cons (pe_ix ix_seq (pv 6) pe_int (fun _ _ => rfl)) pa_nil))))))
          (pss_cons (ps_if (pt_cmpR op_eq (pv 1) pe_str (nomark _)) (pss_one (ps_ret (pe_tup (pa_cons (pv 3) (pa_cons (pe_op op_plus (pe_op op_fdivW (pv 4) (pe_ix ix_seq (pe_ix ix_seq (pv 0) pe_int (fun _ _ => rfl)) pe_int (fun _ _ => rfl))) pe_int) (pa_cons (pe_op op_mulW (pv 5) (pe_ix ix_seq (pe_ix ix_seq (pv 0) pe_int (fun _ _ => rfl)) pe_int (fun _ _ => rfl))) pa_nil)))))) pss_nil)
          (pss_cons (ps_if (pt_cmpR op_eq (pv 1) pe_str (nomark _)) (pss_one (ps_ret (pe_tup (pa_cons (pv 3) (pa_cons (pe_ix ix_seq (pe_ix ix_seq (pv 0) pe_int (fun _ _ => rfl)) pe_int (fun _ _ => rfl)) (pa_cons pe_int pa_nil)))))) pss_nil)
          (pss_cons (ps_set (i := 7) sc_l_end.nd rfl (.inl rfl) (pe_op op_plus (pe_op op_mulW (pv 4) (pv 5)) pe_int))
          (pss_cons (ps_if (pt_cmpR op_eq (pv 1) pe_str (nomark _)) (pss_one (ps_ret (pe_tup (pa_cons (pe_callB (cl_max2 rfl) (by rfl) T.b_max (by decide +kernel) (pa_cons (pv 3) (pa_cons (pv 7) pa_nil))) (pa_cons pe_int (pa_cons pe_int pa_nil)))))) pss_nil)
          (pss_cons (ps_if (pt_cmpR op_eq (pv 1) pe_str (nomark _)) (pss_one (ps_ret (pe_tup (pa_cons (pe_callB (cl_max2 rfl) (by rfl) T.b_max (by decide +kernel) (pa_cons (pv 3) (pa_cons (pv 7) pa_nil))) (pa_cons (pe_callB (cl_max2 rfl) (by rfl) T.b_max (by decide +kernel) (pa_cons (pe_ix ix_seq (pe_ix ix_seq (pv 2) pe_int (fun _ _ => rfl)) pe_int (fun _ _ => rfl)) (pa_cons (pe_ix ix_seq (pe_ix ix_seq (pv 2) pe_int (fun _ _ => rfl)) pe_int (fun _ _ => rfl)) pa_nil))) (pa_cons (pe_op op_mulW (pe_ix ix_seq (pe_ix ix_seq (pv 2) pe_int (fun _ _ => rfl)) pe_int (fun _ _ => rfl)) (pe_ix ix_seq (pe_ix ix_seq (pv 2) pe_int (fun _ _ => rfl)) pe_int (fun _ _ => rfl))) pa_nil)))))) pss_nil)
          (pss_cons (ps_if (pt_cmpR op_in_seq (pv 1) (pe_tup (pa_cons pe_str (pa_cons pe_str pa_nil))) (by with_unfolding_all rfl)) (pss_one (ps_ret (pe_tup (pa_cons (pe_callB (cl_max2 rfl) (by rfl) T.b_max (by decide +kernel) (pa_cons (pv 3) (pa_cons (pv 7) pa_nil))) (pa_cons (pe_callB (cl_max2 rfl) (by rfl) T.b_max (by decide +kernel) (pa_cons (pv 4) (pa_cons (pe_ix ix_seq (pe_ix ix_seq (pv 2) pe_int (fun _ _ => rfl)) pe_int (fun _ _ => rfl)) pa_nil))) (pa_cons (pe_op op_mulW (pv 5) (pe_ix ix_seq (pe_ix ix_seq (pv 2) pe_int (fun _ _ => rfl)) pe_int (fun _ _ => rfl))) pa_nil)))))) pss_nil)
          (pss_cons (ps_if (pt_cmpR op_eq (pv 1) pe_str (nomark _)) (pss_one (ps_ret (pe_tup (pa_cons (pv 3) (pa_cons (pe_op op_mulW (pv 4) (pe_ix ix_seq (pe_ix ix_seq (pv 2) pe_int (fun _ _ => rfl)) pe_int (fun _ _ => rfl))) (pa_cons (pe_op op_mulW (pv 5) (pe_ix ix_seq (pe_ix ix_seq (pv 2) pe_int (fun _ _ => rfl)) pe_int (fun _ _ => rfl))) pa_nil)))))) pss_nil)
          (pss_cons (ps_if (pt_cmpR op_in_seq (pv 1) (pe_tup (pa_cons pe_str (pa_cons pe_str pa_nil))) (by with_unfolding_all rfl)) (pss_one (ps_ret (pe_tup (pa_cons (pv 3) (pa_cons (pe_op op_plus (pv 4) (pe_ix ix_seq (pe_ix ix_seq (pv 2) pe_int (fun _ _ => rfl)) pe_int (fun _ _ => rfl))) (pa_cons (pe_op op_mulW (pv 5) (pe_ix ix_seq (pe_ix ix_seq (pv 2) pe_int (fun _ _ => rfl)) pe_int (fun _ _ => rfl))) pa_nil)))))) pss_nil)
          (pss_one (ps_ret (pe_tup (pa_cons (pe_callB (cl_max2 rfl) (by rfl) T.b_max (by decide +kernel) (pa_cons (pv 3) (pa_cons (pe_op op_plus (pe_op op_mulW (pe_op op_mulW (pe_op op_plus (pv 4) (pe_ix ix_seq (pe_ix ix_seq (pv 2) pe_int (fun _ _ => rfl)) pe_int (fun _ _ => rfl))) (pv 5)) (pe_ix ix_seq (pe_ix ix_seq (pv 2) pe_int (fun _ _ => rfl)) pe_int (fun _ _ => rfl))) pe_int) pa_nil))) (pa_cons pe_int (pa_cons pe_int pa_nil))))))))))))))))))), ?_⟩
    try dsimp only [cx_K, cx_w]
    refine ws_rho (ρ' := [some _, none, none, none, none, none, none, none, none]) rfl ?_
    walk_at "go"
    rw [isLeaf_in]
    cases hlf : isLeafT t with
    | true =>
      cases t with
      | n =>
        walk_at "go"
        exact ⟨rfl, rfl⟩
      | num v =>
        walk_at "go"
        exact ⟨rfl, rfl⟩
      | _ => cases hlf
    | false =>
      obtain ⟨x0, hx0⟩ := cut_one hlf
      obtain ⟨a, ps, hps⟩ : ∃ a ps, parts t = a :: ps := by cases t <;> first | exact ⟨_, _, rfl⟩ | cases hlf
      walk_at "go"
      walk_at "nm"
      refine we_cut (.d (.lst ((parts t).map fun x => encE (endM x)))) ?_ ?_
      · refine we_lcM (parts t) encTr (fun x => encE (endM x)) (by cases t <;> simp [parts]) (wi_seq ?_)
        rw [hx0]
        walk_at "go"
        rw [show Ab.cutD (x0 :: (parts t).map encTr) (some 1) none = _ from cut_tail _ _]
        refine ⟨_, fSeq.t, rfl, fun x hx => ?_, ?_⟩
        · walk_at "nm"
          walk_at "c1"
          walk_at "nm"
          refine wt_yes ⟨rfl, ?_⟩
          walk_at "go"
          exact ⟨hpt x hx, rfl, rfl⟩
        · exact ⟨rfl, rfl⟩
      rw [hps]
      have ha : a ∈ parts t := by rw [hps]; exact List.mem_cons_self
      walk_at "go"
      rw [List.map_cons]
      refine ws_asg ?_
      walk_at "go"
      refine fIx.l (atI_zero _ _) ?_
      walk_at "g3"
      walk_at "nm"
      walk_at "go"
      refine ws_forB ps (fun x => encE (endM x)) (fun (f : Int) x => max f (endM x).1) (endM a).1 [6] (fun b => [some (.d (encTr t)), some (.d (.str (hdS t))), some (.d (.lst (encE (endM a) :: ps.map fun x => encE (endM x)))), some (.d (.int b)), some (.d (.int (endM a).2.1)), some (.d (.int (endM a).2.2)), none, none, none]) (fun _ => []) ?_ rfl (fun pre2 x post b e1 e2 => ?_) ?_
      · refine wi_seq ?_
        walk_at "go"
        rw [show Ab.cutD (encE (endM a) :: ps.map fun x => encE (endM x)) (some 1) none = _ from cut_tail _ _]
        exact ⟨_, fSeq.l, rfl, rfl⟩
      · walk_at "g1"
        walk_at "nm"
        walk_at "go"
        exact ⟨rfl, rfl⟩
      walk_at "nm"
      obtain ⟨_, ab2, ab3⟩ := hbd a ha
      generalize hF : ps.foldl (fun (f : Int) x => max f (endM x).1) (endM a).1 = F
      cases t with
      | n => cases hlf
      | num v => cases hlf
      | not a' =>
        cases hps
        have hF : (endM a).1 = F := hF
        walk_at "go"
        refine fI2c.i (mulOk ab2 ab3 (by omega) (by omega) (by omega)) ?_
        walk_at "go"
        refine ⟨?_, rfl⟩
        rw [← hF]
        rfl
      | ite a' b c =>
        cases hps
        have hF : max (max (endM a).1 (endM b).1) (endM c).1 = F := hF
        obtain ⟨_, bb2, bb3⟩ := hbd b (by simp [parts])
        obtain ⟨_, cb2, cb3⟩ := hbd c (by simp [parts])
        walk_at "go"
        refine fI2c.i (mulOk ab2 ab3 (by omega) (by omega) (by omega)) ?_
        walk_at "go"
        refine fI2c.i (mulOk bb3 cb3 (by omega) (by omega) (by omega)) ?_
        walk_at "go"
        refine ⟨?_, rfl⟩
        rw [← hF]
        rfl
      | bin o a' b =>
        cases hps
        have hF : max (endM a).1 (endM b).1 = F := hF
        obtain ⟨_, bb2, bb3⟩ := hbd b (by simp [parts])
        by_cases hdm : o = .div ∨ o = .mod
        · obtain ⟨a2, v, o2, e, hv, _, _⟩ := isDM_form (t := .bin o a b) (by rcases hdm with rfl | rfl <;> rfl) hl
          cases e
          obtain ⟨_, vb⟩ := dm_small hl hs rfl hdm
          rcases hdm with rfl | rfl
          · walk_at "go"
            refine fI2c.i (divOk vb hv (by omega) (by omega)) ?_
            walk_at "go"
            refine fI2c.i (mulOk ab3 vb (by omega) (by omega) (by omega)) ?_
            walk_at "go"
            refine ⟨?_, rfl⟩
            rw [← hF]
            rfl
          · walk_at "go"
            refine ⟨?_, rfl⟩
            rw [← hF]
            rfl
        have k1 : decide (o.str = ("/" : Str)) = false := by cases o <;> first | rfl | exact absurd (.inl rfl) hdm
        have k2 : decide (o.str = ("mod" : Str)) = false := by cases o <;> first | rfl | exact absurd (.inr rfl) hdm
        have k3 := (op_str_ne o).2.2.1
        have k4 := (op_str_ne o).2.2.2
        walk_at "go"
        rw [Bool.xor_false]
        refine br_f k1 ?_
        walk_at "go"
        rw [Bool.xor_false]
        refine br_f k2 ?_
        walk_at "go"
        refine fI2c.i (mulOk ab2 ab3 (by omega) (by omega) (by omega)) ?_
        walk_at "go"
        rw [Bool.xor_false]
        refine br_f k3 ?_
        walk_at "go"
        rw [Bool.xor_false]
        refine br_f k4 ?_
        by_cases hao : o = .and ∨ o = .or
        · have k5 : inV (V.str o.str) [V.str "and", V.str "or"] = true := by rcases hao with rfl | rfl <;> rfl
          walk_at "go"
          refine br_t k5 ?_
          walk_at "go"
          refine fI2c.i (mulOk ab3 bb3 (by omega) (by omega) (by omega)) ?_
          walk_at "go"
          refine ⟨?_, rfl⟩
          rw [← hF]
          rcases hao with rfl | rfl <;> rfl
        have k5 : inV (V.str o.str) [V.str "and", V.str "or"] = false := by cases o <;> first | rfl | exact absurd (.inl rfl) hao | exact absurd (.inr rfl) hao
        walk_at "go"
        refine br_f k5 ?_
        by_cases hm : o = .mul
        · subst hm
          walk_at "go"
          refine fI2c.i (mulOk ab2 bb2 (by omega) (by omega) (by omega)) ?_
          walk_at "go"
          refine fI2c.i (mulOk ab3 bb3 (by omega) (by omega) (by omega)) ?_
          walk_at "go"
          refine ⟨?_, rfl⟩
          rw [← hF]
          rfl
        have k6 : decide (o.str = ("*" : Str)) = false := by cases o <;> first | rfl | exact absurd rfl hm
        walk_at "go"
        rw [Bool.xor_false]
        refine br_f k6 ?_
        by_cases has : o = .add ∨ o = .sub
        · have k7 : inV (V.str o.str) [V.str "+", V.str "-"] = true := by rcases has with rfl | rfl <;> rfl
          walk_at "go"
          refine br_t k7 ?_
          walk_at "go"
          refine fI2c.i (mulOk ab3 bb3 (by omega) (by omega) (by omega)) ?_
          walk_at "go"
          refine ⟨?_, rfl⟩
          rw [← hF]
          rcases has with rfl | rfl <;> rfl
        have k7 : inV (V.str o.str) [V.str "+", V.str "-"] = false := by cases o <;> first | rfl | exact absurd (.inl rfl) has | exact absurd (.inr rfl) has
        walk_at "go"
        refine br_f k7 ?_
        walk_at "go"
        have q1 := ab2.add bb2
        refine fI2c.i (mulOk q1 ab3 (by omega) (by omega) (by omega)) ?_
        walk_at "go"
        refine fI2c.i (mulOk (q1.mul ab3) bb3 (by omega) (by omega) (by omega)) ?_
        walk_at "go"
        refine ⟨?_, rfl⟩
        rw [← hF]
        cases o <;> first | rfl | exact absurd (.inl rfl) hdm | exact absurd (.inr rfl) hdm | exact absurd (.inl rfl) hao | exact absurd (.inr rfl) hao | exact absurd rfl hm | exact absurd (.inl rfl) has | exact absurd (.inr rfl) has
abbrev Det_l_end : FT := Det_l_endH 9
theorem ok_l_end (T : Txt K w mg) : FnOk P w K mg base CX0 11 T.l_end.f T.l_end.fd P_l_end (spG K Det_l_end) := rc_l_end T 9
end
section
/-! ### the text of a tree lexes as its tokens -/
theorem LxS.sp {x : List Nat} : ∀ {ts : List Tk} (k : Nat), LxS x ts → LxS (List.replicate k 32 ++ x) ts
  | [], k, ⟨j, e⟩ => ⟨k + j, by rw [e, ← List.replicate_append_replicate]⟩
  | t :: ts, k, ⟨j, rest, e, h1, h2⟩ => ⟨k + j, rest, by rw [e, ← List.replicate_append_replicate, List.append_assoc], h1, h2⟩
theorem LxS.tok {t : Tk} {rest : List Nat} {ts : List Tk} (h1 : stops t rest) (h2 : LxS rest ts) : LxS (t.codes ++ rest) (t :: ts) := ⟨0, rest, rfl, h1, h2⟩
/-- a blank or none -/
def isSp (sp : List Nat) : Prop := ∃ k, sp = List.replicate k 32
theorem isSp.lx {sp : List Nat} (h : isSp sp) {x : List Nat} {ts : List Tk} (q : LxS x ts) : LxS (sp ++ x) ts := by
  obtain ⟨k, rfl⟩ := h
  exact q.sp k
def calmW (rest : List Nat) : Prop := ∀ c, rest.head? = some c → isW c = false
def noEq (rest : List Nat) : Prop := ∀ c, rest.head? = some c → c ≠ 61
theorem calm_sp {sp x : List Nat} (h : isSp sp) (q : calmW x) : calmW (sp ++ x) := by
  obtain ⟨k, rfl⟩ := h
  cases k with
  | zero => exact q
  | succ k => intro c hc; cases hc; rfl
theorem noEq_sp {sp x : List Nat} (h : isSp sp) (q : noEq x) : noEq (sp ++ x) := by
  obtain ⟨k, rfl⟩ := h
  cases k with
  | zero => exact q
  | succ k => intro c hc; cases hc; decide
theorem calm_cons {c : Nat} {x : List Nat} (h : isW c = false) : calmW (c :: x) := fun d hd => by cases hd; exact h
theorem noEq_cons {c : Nat} {x : List Nat} (h : c ≠ 61) : noEq (c :: x) := fun d hd => by cases hd; exact h
theorem dg_hd (v : Nat) (x : List Nat) : ∃ c r, dg v ++ x = c :: r ∧ 48 ≤ c ∧ c ≤ 57 := by
  cases h : dg v with
  | nil => exact absurd h (dg_ne v)
  | cons c r => exact ⟨c, r ++ x, rfl, dg_digit (by rw [h]; exact List.mem_cons_self)⟩
/-- a tree's text does not begin with = -/
theorem brS_noEq {l r : Nat} {cs x : List Nat} (h : noEq (cs ++ x)) : noEq (brS l r cs ++ x) := by
  unfold brS
  split
  · exact h
  · exact noEq_cons (by decide)
theorem brS_noEq2 {l r : Nat} {cs : List Nat} (h : ∀ x, noEq (cs ++ x)) (x : List Nat) : noEq (brS l r cs ++ x) := brS_noEq (h x)
theorem wrS_noEq (sp : List Nat) : ∀ (t : Tr) (x : List Nat), noEq (wrS sp t ++ x)
  | .n, x => noEq_cons (by decide)
  | .num v, x => by
    obtain ⟨c, r, e, h1, h2⟩ := dg_hd v.toNat x
    show noEq (dg v.toNat ++ x)
    rw [e]
    exact noEq_cons (by omega)
  | .not a, x => noEq_cons (by decide)
  | .ite a b c, x => by
    simp only [wrS, List.append_assoc]
    exact brS_noEq2 (wrS_noEq sp a) _
  | .bin o a b, x => by
    simp only [wrS, List.append_assoc]
    exact brS_noEq2 (wrS_noEq sp a) _
theorem isW_digit {c : Nat} (h1 : 48 ≤ c) (h2 : c ≤ 57) : isW c = true := by
  unfold isW isD
  rw [decide_eq_true h1, decide_eq_true h2]
  rfl
theorem stop_op {o : Op} {rest : List Nat} (h : noEq rest) : stops (.op o) rest := fun c hc => by
  have := h c hc
  cases o <;> simp [Tk.adj, this]
theorem op_calm (o : Op) (x : List Nat) : calmW (opCodes o ++ x) := by cases o <;> exact calm_cons (by decide)
theorem brS_lex {sp : List Nat} {t : Tr} (h : ∀ (rest : List Nat) (ts : List Tk), calmW rest → LxS rest ts → LxS (wrS sp t ++ rest) (tks t ++ ts)) (l : Nat) (rest : List Nat) (ts : List Tk) (hc : calmW rest) (hl : LxS rest ts) : LxS (brS l (rk t) (wrS sp t) ++ rest) (brk l (rk t) (tks t) ++ ts) := by
  unfold brS brk
  split
  · exact h rest ts hc hl
  · rw [List.cons_append, List.cons_append, List.append_assoc, List.append_assoc]
    refine LxS.tok (t := .lp) (rest := wrS sp t ++ ([41] ++ rest)) (fun c _ => rfl) (h _ _ (calm_cons (by decide)) ?_)
    exact LxS.tok (t := .rp) (rest := rest) (fun c _ => rfl) hl
theorem wrS_lex {sp : List Nat} (hs : isSp sp) : ∀ (t : Tr) (rest : List Nat) (ts : List Tk), calmW rest → LxS rest ts → LxS (wrS sp t ++ rest) (tks t ++ ts)
  | .n, rest, ts, hc, hl => LxS.tok (t := .n) (rest := rest) (fun c h => by show (!isW c) = true; rw [hc c h]; rfl) hl
  | .num v, rest, ts, hc, hl => LxS.tok (t := .num v.toNat) (rest := rest) (fun c h => by show (!isW c) = true; rw [hc c h]; rfl) hl
  | .not a, rest, ts, hc, hl => by
    show LxS (33 :: brS 7 (rk a) (wrS sp a) ++ rest) (.bang :: brk 7 (rk a) (tks a) ++ ts)
    rw [List.cons_append, List.cons_append]
    refine LxS.tok (t := .bang) (rest := brS 7 (rk a) (wrS sp a) ++ rest) (fun c h => ?_) (brS_lex (wrS_lex hs a) 7 rest ts hc hl)
    have := brS_noEq2 (l := 7) (r := rk a) (wrS_noEq sp a) rest c h
    show (!decide (c = 61)) = true
    rw [decide_eq_false this]
    rfl
  | .ite a b c, rest, ts, hc, hl => by
    simp only [wrS, tks, List.append_assoc, List.cons_append, List.nil_append]
    refine brS_lex (wrS_lex hs a) 1 _ _ (calm_sp hs (calm_cons (by decide))) (hs.lx ?_)
    refine LxS.tok (t := .qm) (fun c _ => rfl) (hs.lx ?_)
    refine brS_lex (wrS_lex hs b) 0 _ _ (calm_sp hs (calm_cons (by decide))) (hs.lx ?_)
    refine LxS.tok (t := .col) (fun c _ => rfl) (hs.lx ?_)
    exact brS_lex (wrS_lex hs c) 0 _ _ hc hl
  | .bin o a b, rest, ts, hc, hl => by
    simp only [wrS, tks, List.append_assoc, List.cons_append]
    refine brS_lex (wrS_lex hs a) _ _ _ (calm_sp hs (op_calm o _)) (hs.lx ?_)
    refine LxS.tok (t := .op o) (stop_op (noEq_sp hs (brS_noEq2 (wrS_noEq sp b) _))) (hs.lx ?_)
    exact brS_lex (wrS_lex hs b) _ _ _ hc hl
theorem text_lex {sp : List Nat} (hs : isSp sp) (t : Tr) : LxS (wrS sp t) (wi t 0) := by
  have h := wrS_lex hs t [] [] (fun c hc => by cases hc) ⟨0, rfl⟩
  rw [List.append_nil, List.append_nil] at h
  rw [wi_in (Nat.zero_le _)]
  exact h
/-! without blanks -/
def noSp (c : Nat) : Bool := decide (c ≠ 32)
theorem filt_brS (l r : Nat) (cs : List Nat) : (brS l r cs).filter noSp = brS l r (cs.filter noSp) := by
  unfold brS
  split
  · rfl
  · rw [List.filter_cons, List.filter_append]
    rfl
theorem filt_dg (v : Nat) : (dg v).filter noSp = dg v := List.filter_eq_self.mpr fun c hc => by
  have := dg_digit hc
  exact decide_eq_true (by omega)
theorem filt_wrS : ∀ t : Tr, (wrS [32] t).filter noSp = wrS [] t
  | .n => rfl
  | .num v => filt_dg _
  | .not a => by
    simp only [wrS]
    rw [List.filter_cons, filt_brS, filt_wrS a]
    rfl
  | .ite a b c => by
    simp only [wrS]
    simp only [List.filter_append, filt_brS, filt_wrS a, filt_wrS b, filt_wrS c]
    rfl
  | .bin o a b => by
    simp only [wrS]
    simp only [List.filter_append, filt_brS, filt_wrS a, filt_wrS b]
    have : (opCodes o).filter noSp = opCodes o := by cases o <;> rfl
    rw [this]
    rfl
/-! lengths -/
theorem dg_len {v k : Nat} (hk : 0 < k) (h : v < 10 ^ k) : (dg v).length ≤ k := by
  unfold dg
  rw [List.length_map]
  exact (Nat.length_toDigits_le_iff (by decide) hk).mpr h
theorem brS_up (l r : Nat) (cs : List Nat) : (brS l r cs).length ≤ cs.length + 2 := by
  unfold brS
  split
  · omega
  · simp only [List.length_cons, List.length_append, List.length_nil]; omega
theorem op_len (o : Op) : (opCodes o).length ≤ 2 := by cases o <;> decide
def lB : Nat → Nat
  | 0 => 31
  | h + 1 => 3 * lB h + 12
theorem lB_lo : ∀ h, 31 ≤ lB h
  | 0 => Nat.le_refl _
  | h + 1 => by have := lB_lo h; simp only [lB]; omega
theorem num_len {v : Int} (h : v.natAbs < 2 ^ 101) : (dg v.toNat).length ≤ 31 := by
  refine dg_len (by decide) ?_
  have : (2 : Nat) ^ 101 < 10 ^ 31 := by decide
  omega
theorem DT.len {ns ds : List Int} (hn : ∀ v ∈ ns, v.natAbs < 2 ^ 101) (hd : ∀ v ∈ ds, v.natAbs < 2 ^ 101) : ∀ {h : Nat} {t : Tr}, DT ns ds h t → (wrS [32] t).length ≤ lB h
  | _, _, .n h => by have := lB_lo h; show 1 ≤ _; omega
  | _, _, .num (v := v) h hv => by have := lB_lo h; have := num_len (hn v hv); show (dg v.toNat).length ≤ _; omega
  | _, _, .not (a := a) (h := h) q => by
    have h1 := q.len hn hd
    have h2 := brS_up 7 (rk a) (wrS [32] a)
    simp only [wrS, List.length_cons, lB]
    omega
  | _, _, .dm (a := a) (v := v) (h := h) (o := o) ho q hv => by
    have h1 := q.len hn hd
    have h2 := brS_up (opRank o) (rk a) (wrS [32] a)
    have h3 := brS_up (opRank o + 1) (rk (.num v)) (wrS [32] (.num v))
    have h4 := num_len (hd v hv)
    have h5 : (wrS [32] (.num v)).length = (dg v.toNat).length := rfl
    have h6 := op_len o
    have h7 := lB_lo h
    simp only [wrS, List.length_append, List.length_cons, List.length_nil, lB] at *
    omega
  | _, _, .mulr (a := a) (v := v) (h := h) q hv => by
    have h1 := q.len hn hd
    have h2 := brS_up (opRank .mul) (rk a) (wrS [32] a)
    have h3 := brS_up (opRank .mul + 1) (rk (.num v)) (wrS [32] (.num v))
    have h4 := num_len (hn v hv)
    have h6 := op_len .mul
    have h7 := lB_lo h
    simp only [wrS, List.length_append, List.length_cons, List.length_nil, lB] at *
    omega
  | _, _, .mull (a := a) (v := v) (h := h) q hv => by
    have h1 := q.len hn hd
    have h2 := brS_up (opRank .mul + 1) (rk a) (wrS [32] a)
    have h3 := brS_up (opRank .mul) (rk (.num v)) (wrS [32] (.num v))
    have h4 := num_len (hn v hv)
    have h6 := op_len .mul
    have h7 := lB_lo h
    simp only [wrS, List.length_append, List.length_cons, List.length_nil, lB] at *
    omega
  | _, _, .bin (o := o) (a := a) (b := b) (h := h) k1 k2 k3 qa qb => by
    have h1 := qa.len hn hd
    have h1b := qb.len hn hd
    have h2 := brS_up (opRank o) (rk a) (wrS [32] a)
    have h3 := brS_up (opRank o + 1) (rk b) (wrS [32] b)
    have h6 := op_len o
    have h7 := lB_lo h
    simp only [wrS, List.length_append, List.length_cons, List.length_nil, lB] at *
    omega
  | _, _, .ite (a := a) (b := b) (c := c) (h := h) qa qb qc => by
    have h1 := qa.len hn hd
    have h1b := qb.len hn hd
    have h1c := qc.len hn hd
    have h2 := brS_up 1 (rk a) (wrS [32] a)
    have h3 := brS_up 0 (rk b) (wrS [32] b)
    have h4 := brS_up 0 (rk c) (wrS [32] c)
    have e3 : brS 0 (rk b) (wrS [32] b) = wrS [32] b := if_pos (Nat.zero_le _)
    have e4 : brS 0 (rk c) (wrS [32] c) = wrS [32] c := if_pos (Nat.zero_le _)
    simp only [wrS, e3, e4, List.length_append, List.length_cons, List.length_nil, lB] at *
    omega
theorem DT.nb {ns ds : List Int} (hn : ∀ v ∈ ns, 0 ≤ v ∧ v.natAbs < 2 ^ 101) (hd : ∀ v ∈ ds, 0 ≤ v ∧ v.natAbs < 2 ^ 101) : ∀ {h : Nat} {t : Tr}, DT ns ds h t → nbT t = true
  | _, _, .n h => rfl
  | _, _, .num (v := v) h hv => by simp [nbT, hn v hv]
  | _, _, .not a => a.nb hn hd
  | _, _, .dm (v := v) ho a hv => by simp [nbT, a.nb hn hd, hd v hv]
  | _, _, .mulr (v := v) a hv => by simp [nbT, a.nb hn hd, hn v hv]
  | _, _, .mull (v := v) a hv => by simp [nbT, a.nb hn hd, hn v hv]
  | _, _, .bin h1 h2 h3 a b => by simp [nbT, a.nb hn hd, b.nb hn hd]
  | _, _, .ite a b c => by simp [nbT, a.nb hn hd, b.nb hn hd, c.nb hn hd]
theorem nb_nnum : ∀ t : Tr, nbT t = true → nnum t = true
  | .n, _ => rfl
  | .num v, h => by simp only [nbT, Bool.and_eq_true] at h; exact h.1
  | .not a, h => nb_nnum a h
  | .ite a b c, h => by
    simp only [nbT, Bool.and_eq_true] at h
    simp [nnum, nb_nnum a h.1.1, nb_nnum b h.1.2, nb_nnum c h.2]
  | .bin o a b, h => by
    simp only [nbT, Bool.and_eq_true] at h
    simp [nnum, nb_nnum a h.1, nb_nnum b h.2]
end
section
/-! ### the sizes of planted trees -/
structure Sz (t : Tr) (e c nc h l : Nat) : Prop where
  nb : nbT t = true
  lin : linM t = true
  sp : spanM t ∣ 12
  e : szE t ≤ e
  c : szC t ≤ c
  nc : ncM t ≤ nc
  h : ht t ≤ h
  len : (wrS [32] t).length ≤ l
theorem Sz.mono {t : Tr} {e c nc h l e' c' nc' h' l' : Nat} (s : Sz t e c nc h l) (h1 : e ≤ e') (h2 : c ≤ c') (h3 : nc ≤ nc') (h4 : h ≤ h') (h5 : l ≤ l') : Sz t e' c' nc' h' l' := ⟨s.nb, s.lin, s.sp, Nat.le_trans s.e h1, Nat.le_trans s.c h2, Nat.le_trans s.nc h3, Nat.le_trans s.h h4, Nat.le_trans s.len h5⟩
theorem Sz.n : Sz .n 11 1 1 0 1 := ⟨rfl, rfl, by decide, Nat.le_refl _, Nat.le_refl _, Nat.le_refl _, Nat.le_refl _, Nat.le_refl _⟩
theorem p100 : (2 : Nat) ^ 100 = 1267650600228229401496703205376 := by decide
theorem Sz.num {v : Int} (h0 : 0 ≤ v) (h1 : v.natAbs < 2 ^ 100) : Sz (.num v) 111 1 1 0 31 := by
  have h2 : v.natAbs < 2 ^ 101 := Nat.lt_trans h1 (by decide)
  have h3 : v.natAbs.log2 < 100 := Bd.log (k := 100) h1 (by omega)
  exact ⟨by simp [nbT, h0, h2], by simp [linM, h0], Nat.one_dvd _, by simp only [szE]; omega, Nat.le_refl _, Nat.le_refl _, Nat.le_refl _, num_len h2⟩
theorem lcm12 {a b : Nat} (h1 : a ∣ 12) (h2 : b ∣ 12) : Nat.lcm (Nat.lcm 1 a) b ∣ 12 := Nat.lcm_dvd (Nat.lcm_dvd (by decide) h1) h2
theorem bin_len {sp : List Nat} (o : Op) (a b : Tr) (hs : sp.length = 1) : (wrS sp (.bin o a b)).length ≤ (wrS sp a).length + (wrS sp b).length + 8 := by
  have h1 := brS_up (opRank o) (rk a) (wrS sp a)
  have h2 := brS_up (opRank o + 1) (rk b) (wrS sp b)
  have h3 := op_len o
  simp only [wrS, List.length_append]
  omega
/-- a sum or a difference -/
theorem Sz.pm {o : Op} (ho : o = .add ∨ o = .sub) {a b : Tr} {e c nc h l e' c' nc' l' : Nat} (x : Sz a e c nc h l) (y : Sz b e' c' nc' h l') : Sz (.bin o a b) (e + e' + 3) (3 * (c * c')) (nc * nc') (h + 1) (l + l' + 8) := by
  have q1 := x.e
  have q2 := y.e
  have q3 := Nat.mul_le_mul x.c y.c
  have q4 := Nat.mul_le_mul x.nc y.nc
  have q5 := x.h
  have q6 := y.h
  have q7 := bin_len (sp := [32]) o a b rfl
  have q8 := x.len
  have q9 := y.len
  have q10 := lcm12 x.sp y.sp
  refine ⟨by simp [nbT, x.nb, y.nb], ?_, ?_, ?_, ?_, ?_, by simp only [ht]; omega, by omega⟩
  · rcases ho with rfl | rfl <;> simp [linM, x.lin, y.lin]
  · rcases ho with rfl | rfl <;> exact q10
  · rcases ho with rfl | rfl <;> (simp only [szE]; omega)
  · rcases ho with rfl | rfl <;> (simp only [szC]; omega)
  · rcases ho with rfl | rfl <;> (simp only [ncM]; omega)
/-- and, or, a comparison -/
theorem Sz.two {o : Op} (h1 : o ≠ .mul) (h2 : o ≠ .div) (h3 : o ≠ .mod) {a b : Tr} {e c nc h l e' c' nc' l' : Nat} (x : Sz a e c nc h l) (y : Sz b e' c' nc' h l') : Sz (.bin o a b) (e + e' + 3) (3 * (c * c')) (3 * (nc * nc')) (h + 1) (l + l' + 8) := by
  have q1 := x.e
  have q2 := y.e
  have q3 := Nat.mul_le_mul x.c y.c
  have q4 := Nat.mul_le_mul x.nc y.nc
  have q5 := x.h
  have q6 := y.h
  have q7 := bin_len (sp := [32]) o a b rfl
  have q8 := x.len
  have q9 := y.len
  have q10 := lcm12 x.sp y.sp
  refine ⟨by simp [nbT, x.nb, y.nb], ?_, ?_, ?_, ?_, ?_, by simp only [ht]; omega, by omega⟩
  · cases o <;> first | exact absurd rfl h1 | exact absurd rfl h2 | exact absurd rfl h3 | simp [linM, x.lin, y.lin]
  · cases o <;> first | exact absurd rfl h1 | exact absurd rfl h2 | exact absurd rfl h3 | exact q10
  · cases o <;> first | exact absurd rfl h1 | exact absurd rfl h2 | exact absurd rfl h3 | (simp only [szE]; omega)
  · cases o <;> first | exact absurd rfl h1 | exact absurd rfl h2 | exact absurd rfl h3 | (simp only [szC]; omega)
  · cases o <;> first | exact absurd rfl h1 | exact absurd rfl h2 | exact absurd rfl h3 | (simp only [ncM]; omega)
/-- a number times something -/
theorem Sz.mull {v : Int} (h0 : 0 ≤ v) (hv : v.natAbs < 2 ^ 100) {b : Tr} {e c nc h l : Nat} (y : Sz b e c nc h l) : Sz (.bin .mul (.num v) b) (111 + e + 3) (3 * c) nc (h + 1) (31 + l + 8) := by
  have x := Sz.num h0 hv
  have q1 := x.e
  have q2 := y.e
  have q3 := Nat.mul_le_mul x.c y.c
  have q4 := Nat.mul_le_mul x.nc y.nc
  have q5 := x.h
  have q6 := y.h
  have q7 := bin_len (sp := [32]) .mul (.num v) b rfl
  have q8 := x.len
  have q9 := y.len
  have q10 := lcm12 x.sp y.sp
  rw [Nat.one_mul] at q3 q4
  refine ⟨by simp [nbT, y.nb]; exact ⟨h0, Nat.lt_trans hv (by decide)⟩, by simp [linM, y.lin, Tr.isNum, h0], q10, by simp only [szE] at *; omega, by simp only [szC] at *; omega, by simp only [ncM] at *; omega, by simp only [ht] at *; omega, by omega⟩
/-- a division -/
theorem Sz.dm {o : Op} (ho : o = .div ∨ o = .mod) {v : Int} (h0 : 0 < v) (hv : v.natAbs < 2 ^ 100) {a : Tr} {e c nc h l : Nat} (x : Sz a e c nc h l) (hs : spanM a * v.toNat ∣ 12) : Sz (.bin o a (.num v)) (e + 24) c nc (h + 1) (l + 31 + 8) := by
  have y := Sz.num (show 0 ≤ v by omega) hv
  have q1 := x.e
  have q3 := x.c
  have q4 := x.nc
  have q5 := x.h
  have q6 := y.h
  have q7 := bin_len (sp := [32]) o a (.num v) rfl
  have q8 := x.len
  have q9 := y.len
  have e1 : nbT (.bin o a (.num v)) = true := by
    simp only [nbT, x.nb, Bool.true_and, Bool.and_eq_true, decide_eq_true_eq]
    exact ⟨by omega, Nat.lt_trans hv (by decide)⟩
  rcases ho with rfl | rfl
  · exact ⟨e1, by simp [linM, x.lin, Tr.isNum, Tr.num?, h0], hs, by simp only [szE]; omega, by simp only [szC]; omega, by simp only [ncM]; omega, by simp only [ht] at *; omega, by omega⟩
  · exact ⟨e1, by simp [linM, x.lin, Tr.isNum, Tr.num?, h0], hs, by simp only [szE]; omega, by simp only [szC]; omega, by simp only [ncM]; omega, by simp only [ht] at *; omega, by omega⟩
def gapM (r : Nat) : Nat := [4, 5, 7, 9].getD r 0
def testM (way : Nat) (at_ : Int) (step rest : Nat) : Tr := match way with
  | 0 => .bin .eq .n (.num at_)
  | 1 => .bin .lt .n (.num at_)
  | 2 => .bin .ne (.bin .div .n (.num step)) (.num at_)
  | 3 => .bin .and (.bin .gt .n (.num at_)) (.bin .eq (.bin .mod .n (.num step)) (.num rest))
  | 4 => .bin .ge (.bin .mul (.num step) .n) (.num at_)
  | 5 => .bin .or (.bin .lt .n (.num at_)) (.bin .mod .n (.num step))
  | 6 => .bin .gt (.bin .sub .n (.num at_)) (.num 0)
  | 7 => .bin .lt (.bin .mul (.num ((step : Int) + (gapM rest : Nat))) .n) (.bin .add (.bin .mul (.num step) .n) (.num at_))
  | _ => .bin .ge (.bin .div (.bin .mul (.num 5) .n) (.num 4)) (.bin .add (.bin .div .n (.num 2)) (.num at_))
def plT (way : Nat) (base up : Tr) (at_ : Int) (step rest : Nat) : Tr := match way with
  | 1 | 2 | 5 | 7 => .ite (testM way at_ step rest) base up
  | _ => .ite (testM way at_ step rest) up base
theorem test_sz (way : Nat) {at_ : Int} {step rest : Nat} (h0 : 0 ≤ at_) (h1 : at_ < 10 ^ 30) (h2 : step = 2 ∨ step = 3) (h3 : rest < step) : Sz (testM way at_ step rest) 600 81 27 3 170 := by
  have ha : at_.natAbs < 2 ^ 100 := by
    have : (10 : Int) ^ 30 = 1000000000000000000000000000000 := by decide
    have : (2 : Nat) ^ 100 = 1267650600228229401496703205376 := by decide
    omega
  have hst : (step : Int).natAbs < 2 ^ 100 := by
    have : (2 : Nat) ^ 100 = 1267650600228229401496703205376 := by decide
    omega
  have hg : gapM rest ≤ 9 := by
    rcases (show rest = 0 ∨ rest = 1 ∨ rest = 2 by omega) with rfl | rfl | rfl <;> decide
  have sa := Sz.num h0 ha
  have ss := Sz.num (v := (step : Int)) (by omega) hst
  have sd : ∀ o, o = .div ∨ o = .mod → Sz (.bin o .n (.num (step : Int))) 35 1 1 1 40 := fun o ho => Sz.dm ho (by omega) hst Sz.n (by rcases h2 with rfl | rfl <;> decide)
  have sm : Sz (.bin .mul (.num (step : Int)) .n) 125 3 1 1 40 := Sz.mull (by omega) hst Sz.n
  have up : ∀ {t : Tr} {e c nc h l : Nat}, Sz t e c nc h l → Sz t e c nc (h + 1) l := fun s => s.mono (Nat.le_refl _) (Nat.le_refl _) (Nat.le_refl _) (by omega) (Nat.le_refl _)
  have two : ∀ {o : Op} {a b : Tr} {e c nc h l e' c' nc' l' : Nat}, o ≠ .mul → o ≠ .div → o ≠ .mod → Sz a e c nc h l → Sz b e' c' nc' h l' → Sz (.bin o a b) (e + e' + 3) (3 * (c * c')) (3 * (nc * nc')) (h + 1) (l + l' + 8) := fun q1 q2 q3 x y => Sz.two q1 q2 q3 x y
  unfold testM
  split
  · exact (two (o := .eq) (by decide) (by decide) (by decide) Sz.n sa).mono (by decide) (by decide) (by decide) (by decide) (by decide)
  · exact (two (o := .lt) (by decide) (by decide) (by decide) Sz.n sa).mono (by decide) (by decide) (by decide) (by decide) (by decide)
  · exact (two (o := .ne) (by decide) (by decide) (by decide) (sd .div (.inl rfl)) (up sa)).mono (by decide) (by decide) (by decide) (by decide) (by decide)
  · have x := two (o := .gt) (by decide) (by decide) (by decide) Sz.n sa
    have z := Sz.num (v := (rest : Int)) (by omega) (by rw [p100]; omega)
    have y := two (o := .eq) (by decide) (by decide) (by decide) (sd .mod (.inr rfl)) (up z)
    exact (two (o := .and) (by decide) (by decide) (by decide) (up x) y).mono (by decide) (by decide) (by decide) (by decide) (by decide)
  · exact (two (o := .ge) (by decide) (by decide) (by decide) sm (up sa)).mono (by decide) (by decide) (by decide) (by decide) (by decide)
  · have x := two (o := .lt) (by decide) (by decide) (by decide) Sz.n sa
    exact (two (o := .or) (by decide) (by decide) (by decide) x (sd .mod (.inr rfl))).mono (by decide) (by decide) (by decide) (by decide) (by decide)
  · have x := Sz.pm (o := .sub) (.inr rfl) Sz.n sa
    have z := Sz.num (v := 0) (by decide) (by decide)
    exact (two (o := .gt) (by decide) (by decide) (by decide) x (up z)).mono (by decide) (by decide) (by decide) (by decide) (by decide)
  · have x := Sz.mull (v := (step : Int) + (gapM rest : Nat)) (by omega) (by rw [p100]; omega) Sz.n
    have y := Sz.pm (o := .add) (.inl rfl) sm (up sa)
    exact (two (o := .lt) (by decide) (by decide) (by decide) (up x) y).mono (by decide) (by decide) (by decide) (by decide) (by decide)
  · have x := Sz.dm (o := .div) (.inl rfl) (v := 4) (by decide) (by decide) (Sz.mull (v := 5) (by decide) (by decide) Sz.n) (by decide)
    have y := Sz.pm (o := .add) (.inl rfl) (Sz.dm (o := .div) (.inl rfl) (v := 2) (by decide) (by decide) Sz.n (by decide)) (up sa)
    exact (two (o := .ge) (by decide) (by decide) (by decide) x y).mono (by decide) (by decide) (by decide) (by decide) (by decide)
theorem ite_sz {a b c : Tr} (x : Sz a 600 81 27 3 170) (y : Sz b 1180 648 216 4 360) (z : Sz c 1180 648 216 4 360) (hs : (szC b ≤ 216 ∨ szC c ≤ 216)) : GoodT (.ite a b c) ∧ nbT (.ite a b c) = true ∧ (wrS [32] (.ite a b c)).length ≤ 1000 := by
  have q1 := Nat.mul_le_mul x.c y.c
  have q2 := Nat.mul_le_mul x.c z.c
  have q3 := Nat.mul_le_mul x.nc y.nc
  have q4 := Nat.mul_le_mul x.nc z.nc
  have e1 := x.e
  have e2 := y.e
  have e3 := z.e
  have h1 := x.h
  have h2 := y.h
  have h3 := z.h
  have l1 := x.len
  have l2 := y.len
  have l3 := z.len
  have b1 := brS_up 1 (rk a) (wrS [32] a)
  have b2 : brS 0 (rk b) (wrS [32] b) = wrS [32] b := if_pos (Nat.zero_le _)
  have b3 : brS 0 (rk c) (wrS [32] c) = wrS [32] c := if_pos (Nat.zero_le _)
  refine ⟨⟨by simp [linM, x.lin, y.lin, z.lin], Nat.le_of_dvd (by decide) (Nat.lcm_dvd (lcm12 x.sp y.sp) z.sp), by simp only [szE]; omega, ?_, by simp only [ncM]; omega, by simp only [ht]; omega⟩, by simp [nbT, x.nb, y.nb, z.nb], ?_⟩
  · simp only [szC]
    rcases hs with hs | hs
    · have := Nat.mul_le_mul x.c hs
      omega
    · have := Nat.mul_le_mul x.c hs
      omega
  · simp only [wrS, b2, b3, List.length_append, List.length_cons, List.length_nil]
    omega
theorem plT_good (way : Nat) {base up : Tr} {at_ : Int} {step rest : Nat} (h0 : 0 ≤ at_) (h1 : at_ < 10 ^ 30) (h2 : step = 2 ∨ step = 3) (h3 : rest < step) (b : Sz base 1160 216 216 3 340) (u : Sz up 1180 648 216 4 360) : GoodT (plT way base up at_ step rest) ∧ nbT (plT way base up at_ step rest) = true ∧ (wrS [32] (plT way base up at_ step rest)).length ≤ 1000 := by
  have t := test_sz way h0 h1 h2 h3
  have b' : Sz base 1180 648 216 4 360 := b.mono (by decide) (by decide) (by decide) (by decide) (by decide)
  unfold plT
  split
  · exact ite_sz t b' u (.inl b.c)
  · exact ite_sz t b' u (.inl b.c)
  · exact ite_sz t b' u (.inl b.c)
  · exact ite_sz t b' u (.inl b.c)
  · exact ite_sz t u b' (.inr b.c)
/-! the base -/
theorem nc_le : ∀ t : Tr, ncM t ≤ szC t
  | .n => Nat.le_refl _
  | .num v => Nat.le_refl _
  | .not a => Nat.mul_le_mul_left 3 (nc_le a)
  | .ite a b c => Nat.add_le_add (mul3_le (nc_le a) (nc_le b)) (mul3_le (nc_le a) (nc_le c))
  | .bin o a b => by
    have h1 := nc_le a
    have h2 := mul3_le (nc_le a) (nc_le b)
    cases o <;> (simp only [ncM, szC]; omega)
theorem DT.span {ns : List Int} : ∀ {h : Nat} {t : Tr}, DT ns [2, 3] h t → spanM t ∣ 6 ^ h
  | _, _, .n h => Nat.one_dvd _
  | _, _, .num h hv => Nat.one_dvd _
  | _, _, .not (h := h) a => Nat.lcm_dvd (Nat.one_dvd _) (Nat.dvd_trans a.span (Nat.pow_dvd_pow 6 (Nat.le_succ h)))
  | _, _, .dm (v := v) (a := a) (h := h) ho q hv => by
    have h1 : v.toNat ∣ 6 := by
      simp only [List.mem_cons, List.not_mem_nil, or_false] at hv
      rcases hv with rfl | rfl <;> decide
    have h2 : spanM a * v.toNat ∣ 6 ^ (h + 1) := by rw [Nat.pow_succ]; exact Nat.mul_dvd_mul q.span h1
    rcases ho with rfl | rfl <;> exact h2
  | _, _, .mulr (h := h) a hv => Nat.lcm_dvd (Nat.lcm_dvd (Nat.one_dvd _) (Nat.dvd_trans a.span (Nat.pow_dvd_pow 6 (Nat.le_succ h)))) (Nat.one_dvd _)
  | _, _, .mull (h := h) a hv => Nat.lcm_dvd (Nat.lcm_dvd (Nat.one_dvd _) (Nat.one_dvd _)) (Nat.dvd_trans a.span (Nat.pow_dvd_pow 6 (Nat.le_succ h)))
  | _, _, .bin (h := h) (o := o) (a := x) (b := y) h1 h2 h3 a b => by
    have q : Nat.lcm (Nat.lcm 1 (spanM x)) (spanM y) ∣ 6 ^ (h + 1) := Nat.lcm_dvd (Nat.lcm_dvd (Nat.one_dvd _) (Nat.dvd_trans a.span (Nat.pow_dvd_pow 6 (Nat.le_succ h)))) (Nat.dvd_trans b.span (Nat.pow_dvd_pow 6 (Nat.le_succ h)))
    cases o <;> first | exact absurd rfl h1 | exact absurd rfl h2 | exact absurd rfl h3 | exact q
  | _, _, .ite (h := h) a b c => Nat.lcm_dvd (Nat.lcm_dvd (Nat.lcm_dvd (Nat.one_dvd _) (Nat.dvd_trans a.span (Nat.pow_dvd_pow 6 (Nat.le_succ h)))) (Nat.dvd_trans b.span (Nat.pow_dvd_pow 6 (Nat.le_succ h)))) (Nat.dvd_trans c.span (Nat.pow_dvd_pow 6 (Nat.le_succ h)))
theorem dvd12 : ∀ n : Nat, n ≤ 6 → n ∣ 72 → n ∣ 12 := by decide
/-- the numbers of a drawn rule -/
structure Nums (ns : List Int) : Prop where
  p : ∀ v ∈ ns, 0 ≤ v ∧ v.natAbs < 2 ^ 101
theorem Nums.base {ns : List Int} (hn : Nums ns) {h : Nat} {t : Tr} (q : DT ns [2, 3] h t) (hh : h ≤ 2) (hs : spanM t ∣ 12) : Sz t 1128 216 216 2 327 := by
  have ds : ∀ v ∈ ([2, 3] : List Int), 0 < v ∧ v.natAbs < 2 ^ 101 := fun v hv => by
    simp only [List.mem_cons, List.not_mem_nil, or_false] at hv
    rcases hv with rfl | rfl <;> decide
  have c1 := q.szC
  have hb : cB h ≤ 216 := by rcases (show h = 0 ∨ h = 1 ∨ h = 2 by omega) with rfl | rfl | rfl <;> decide
  have e1 := q.szE (fun v hv => (hn.p v hv).2)
  have he : eB h ≤ 1128 := by rcases (show h = 0 ∨ h = 1 ∨ h = 2 by omega) with rfl | rfl | rfl <;> decide
  have l1 := q.len (fun v hv => (hn.p v hv).2) (fun v hv => (ds v hv).2)
  have hl : lB h ≤ 327 := by rcases (show h = 0 ∨ h = 1 ∨ h = 2 by omega) with rfl | rfl | rfl <;> decide
  have n1 := nc_le t
  have hh2 := q.ht
  exact ⟨q.nb (fun v hv => hn.p v hv) (fun v hv => ⟨by have := (ds v hv).1; omega, (ds v hv).2⟩), q.lin (fun v hv => (hn.p v hv).1) (fun v hv => (ds v hv).1), hs, by omega, by omega, by omega, by omega, by omega⟩
/-- the base, with or without mod 2, of a small span -/
theorem Nums.mod2 {ns : List Int} (hn : Nums ns) {h : Nat} {t : Tr} (q : DT ns [2, 3] h t) (hh : h ≤ 2) (hs : spanM t * 2 ≤ 6) : Sz (.bin .mod t (.num 2)) 1160 216 216 3 340 := by
  have d36 : spanM t ∣ 36 := Nat.dvd_trans q.span (Nat.pow_dvd_pow 6 hh)
  have d12 : spanM t * 2 ∣ 12 := dvd12 _ hs (Nat.mul_dvd_mul (b := 36) (d := 2) d36 (Nat.dvd_refl 2))
  have s := hn.base q hh (Nat.dvd_trans (Nat.dvd_mul_right _ 2) d12)
  have l1 : (wrS [32] (.bin .mod t (.num 2))).length ≤ 340 := by
    have b1 := brS_up (opRank .mod) (rk t) (wrS [32] t)
    have b2 := s.len
    have b3 : (brS (opRank .mod + 1) (rk (.num 2)) (wrS [32] (.num 2))).length = 1 := by decide
    have b4 : (opCodes .mod).length = 1 := rfl
    simp only [wrS, List.length_append, List.length_cons, List.length_nil] at *
    omega
  have z := Sz.dm (o := .mod) (.inr rfl) (v := 2) (by decide) (by decide) s d12
  exact ⟨z.nb, z.lin, z.sp, Nat.le_trans z.e (by decide), z.c, z.nc, z.h, l1⟩
theorem Nums.plain {ns : List Int} (hn : Nums ns) {h : Nat} {t : Tr} (q : DT ns [2, 3] h t) (hh : h ≤ 2) (hs : spanM t ≤ 6) : Sz t 1160 216 216 3 340 := by
  have d36 : spanM t ∣ 36 := Nat.dvd_trans q.span (Nat.pow_dvd_pow 6 hh)
  have d12 : spanM t ∣ 12 := dvd12 _ hs (Nat.dvd_trans d36 (by decide))
  exact (hn.base q hh d12).mono (by decide) (by decide) (by decide) (by decide) (by decide)
theorem Nums.one {ns : List Int} (hn : Nums ns) {t : Tr} (q : DT ns [2, 3] 1 t) : Sz t 1160 216 216 3 340 :=
  (hn.base q (by decide) (Nat.dvd_trans q.span (by decide))).mono (by decide) (by decide) (by decide) (by decide) (by decide)
/-- what stands up instead -/
theorem up_add {b : Tr} (s : Sz b 1160 216 216 3 340) : Sz (.bin .add b (.num 1)) 1180 648 216 4 360 := by
  have z := Sz.pm (o := .add) (.inl rfl) s ((Sz.num (v := 1) (by decide) (by decide)).mono (Nat.le_refl _) (Nat.le_refl _) (Nat.le_refl _) (by decide) (Nat.le_refl _) : Sz (.num 1) 111 1 1 3 31)
  have l1 : (wrS [32] (.bin .add b (.num 1))).length ≤ 360 := by
    have b1 := brS_up (opRank .add) (rk b) (wrS [32] b)
    have b2 := s.len
    have b3 : (brS (opRank .add + 1) (rk (.num 1)) (wrS [32] (.num 1))).length = 1 := by decide
    have b4 : (opCodes .add).length = 1 := rfl
    simp only [wrS, List.length_append, List.length_cons, List.length_nil] at *
    omega
  have e1 : szE (.bin .add b (.num 1)) ≤ 1180 := by
    have := s.e
    have : szE (.num 1) = 11 := by decide
    simp only [szE] at *
    omega
  exact ⟨z.nb, z.lin, z.sp, e1, z.c, z.nc, z.h, l1⟩
theorem up_num {k : Nat} (h : k < 9) : Sz (.num (k : Int)) 1180 648 216 4 360 := (Sz.num (v := (k : Int)) (by omega) (by rw [p100]; omega)).mono (by decide) (by decide) (by decide) (by decide) (by decide)
theorem up_n : Sz .n 1180 648 216 4 360 := Sz.n.mono (by decide) (by decide) (by decide) (by decide) (by decide)
end
section
variable {P : Program} {w : World} {K : PySem.W.Frag} {mg : Str → Option Value} {base : Heap}
/-! ### far numbers -/
abbrev Drw_far : FT := Drw (fun _ : Unit => []) (fun _ => True) (fun _ => 5) (fun _ d => ∃ v : Int, d = .int v ∧ 0 ≤ v ∧ v < 10 ^ 30)
theorem ok_l_far (T : Txt K w mg) : FnOk P w K mg base CX0 3 T.l_far.f T.l_far.fd P_l_far (spG K Drw_far) := by
  refine okDrw T.l_far.F sc_l_far (fun x => rfl) fun cdv A outer s H E z p deep seed cnt hr pre so hb => ?_
  have hb : cnt + 5 ≤ 1000000 := hb
  have hu := hu_of hr
  refine ⟨_, (pss_cons (ps_set (i := 1) sc_l_far.nd rfl (.inl rfl) (pe_lst (pa_cons (pe_call (ok_l_draw T) (hr.mono (by omega)) (by rfl) T.l_draw.m T.l_draw.F.kp T.l_draw.b .nil pass0 (pa_cons (pv 0) (pa_cons pe_int pa_nil))) (pa_cons (pe_op op_plus (pe_call (ok_l_ten T) (hr.mono (by omega)) (by rfl) T.l_ten.m T.l_ten.F.kp T.l_ten.b .nil pass0 (pa_cons (pe_op op_plus pe_int (pe_call (ok_l_draw T) (hr.mono (by omega)) (by rfl) T.l_draw.m T.l_draw.F.kp T.l_draw.b .nil pass0 (pa_cons (pv 0) (pa_cons pe_int pa_nil)))) pa_nil)) (pe_call (ok_l_draw T) (hr.mono (by omega)) (by rfl) T.l_draw.m T.l_draw.F.kp T.l_draw.b .nil pass0 (pa_cons (pv 0) (pa_cons pe_int pa_nil)))) pa_nil))))
        (pss_cons (ps_expr (pe_bm PySem.F.plainAttrs_list PySem.F.slot_list_append PySem.F.type_list_append mt_append (pv 1) (pa_cons (pe_op op_sub (pe_op op_sub (pe_op op_pow pe_int pe_int) pe_int) (pe_call (ok_l_draw T) (hr.mono (by omega)) (by rfl) T.l_draw.m T.l_draw.F.kp T.l_draw.b .nil pass0 (pa_cons (pv 0) (pa_cons pe_int pa_nil)))) pa_nil)))
        (pss_one (ps_ret (pe_ix ix_seq (pv 1) (pe_call (ok_l_draw T) (hr.mono (by omega)) (by rfl) T.l_draw.m T.l_draw.F.kp T.l_draw.b .nil pass0 (pa_cons (pv 0) (pa_cons pe_int pa_nil))) (fun _ _ => rfl)))))), ?_⟩
  try dsimp only [cx_K, cx_w]
  refine ws_rho (ρ' := [some _, none]) rfl ?_
  refine ws_seq (ws_set (we_own (wa_cons (we_drw ?_))))
  walk_at "go"
  refine ⟨rfl, 20, rfl, ⟨by decide, by decide⟩, so, by show cnt + 1 ≤ 1000000; omega, fun d dp1 c1 ⟨i1, e1, hi1⟩ so1 hc1 => ?_⟩
  subst e1
  have hc1 : c1 ≤ cnt + 1 := hc1
  walk_at "go"
  refine we_drw ?_
  walk_at "go"
  refine ⟨rfl, 29, rfl, ⟨by decide, by decide⟩, so1, by show c1 + 1 ≤ 1000000; omega, fun d dp2 c2 ⟨i2, e2, hi2⟩ so2 hc2 => ?_⟩
  subst e2
  have hc2 : c2 ≤ c1 + 1 := hc2
  walk_at "go"
  refine ⟨by show 1 + i2 ≤ 40; omega, ?_⟩
  walk_at "go"
  refine we_drw ?_
  walk_at "go"
  refine ⟨rfl, 1000, rfl, ⟨by decide, by decide⟩, so2, by show c2 + 1 ≤ 1000000; omega, fun d dp3 c3 ⟨i3, e3, hi3⟩ so3 hc3 => ?_⟩
  subst e3
  have hc3 : c3 ≤ c2 + 1 := hc3
  have hp : (10 : Nat) ^ (1 + i2) ≤ 10 ^ 29 := Nat.pow_le_pow_right (by decide) (by omega)
  generalize (10 : Nat) ^ (1 + i2) = X at hp ⊢
  walk_at "go"
  refine ⟨Nat.le_of_ble_eq_true rfl, fun q => ?_⟩
  refine ws_perm (List.Perm.swap _ _ _) ?_
  walk_at "nm"
  refine ws_nd _ fun nd => ?_
  have hqp : p ≠ q := fun e => by
    rw [e] at nd
    exact (List.nodup_cons.mp nd).1 List.mem_cons_self
  refine ws_seq (ws_drop (we_append (we_var rfl ⟨q, _, rfl, List.mem_cons_of_mem _ List.mem_cons_self, ?_⟩)))
  walk_at "go"
  refine fI2c.i ⟨by decide, by decide, by decide⟩ ?_
  walk_at "go"
  refine we_drw ?_
  walk_at "go"
  refine ⟨rfl, 9, rfl, ⟨by decide, by decide⟩, so3, by show c3 + 1 ≤ 1000000; omega, fun d dp4 c4 ⟨i4, e4, hi4⟩ so4 hc4 => ?_⟩
  subst e4
  have hc4 : c4 ≤ c3 + 1 := hc4
  refine fI2.i ?_
  refine ⟨_, _, rfl, List.mem_cons_of_mem _ List.mem_cons_self, Nat.le_of_ble_eq_true rfl, ?_⟩
  rw [setR_off hqp, setR_here, setR_nil]
  refine ws_ret (WE.sub (Ψ := fun a R' => ∃ (v dp5 c5 : Int), a = .d (.int v) ∧ 0 ≤ v ∧ v < 10 ^ 30 ∧ SrcOk dp5 seed c5 ∧ c5 ≤ cnt + 5 ∧ [srcR p dp5 seed c5].Sublist R') ?_ fun a R' ⟨v, dp5, c5, q1, q2, q3, q4, q5, q6⟩ => ⟨_, q6, _, q1, dp5, c5, rfl, ⟨v, rfl, q2, q3⟩, q4, q5⟩)
  refine we_ixR (we_var rfl (we_drw ?_))
  walk_at "go"
  refine ⟨rfl, 3, rfl, ⟨by decide, by decide⟩, so4, by show c4 + 1 ≤ 1000000; omega, fun d dp5 c5 ⟨i5, e5, hi5⟩ so5 hc5 => ?_⟩
  subst e5
  have hc5 : c5 ≤ c4 + 1 := hc5
  have t30 : (10 : Int) ^ 30 = 1000000000000000000000000000000 := by decide
  have t29 : (10 : Nat) ^ 29 = 100000000000000000000000000000 := by decide
  rcases (show i5 = 0 ∨ i5 = 1 ∨ i5 = 2 by omega) with rfl | rfl | rfl
  · exact ⟨q, 0, _, _, rfl, rfl, List.mem_cons_of_mem _ List.mem_cons_self, rfl, _, dp5, c5, rfl, by omega, by omega, so5, by omega, List.Sublist.cons₂ _ (List.nil_sublist _)⟩
  · exact ⟨q, 1, _, _, rfl, rfl, List.mem_cons_of_mem _ List.mem_cons_self, rfl, _, dp5, c5, rfl, by omega, by omega, so5, by omega, List.Sublist.cons₂ _ (List.nil_sublist _)⟩
  · refine ⟨q, 2, _, _, rfl, rfl, List.mem_cons_of_mem _ List.mem_cons_self, rfl, _, dp5, c5, rfl, ?_, ?_, so5, by omega, List.Sublist.cons₂ _ (List.nil_sublist _)⟩
    · show (0 : Int) ≤ (10 : Int) ^ 30 - 1 - (i4 : Int)
      omega
    · show (10 : Int) ^ 30 - 1 - (i4 : Int) < 10 ^ 30
      omega
/-! a promise with a relation -/
def Rel {α : Type} (arg : α → List D) (pre : α → Prop) (post : α → D → Prop) : FT := fun as R P => ∃ x, as = (arg x).map .d ∧ R = [] ∧ pre x ∧ ∀ d, post x d → P (.d d) []
theorem rel_mono {α : Type} {arg : α → List D} {pre : α → Prop} {post : α → D → Prop} : Mono (Rel arg pre post) := fun as R P P' ⟨x, h1, h2, h3, h4⟩ f => ⟨x, h1, h2, h3, fun d q => f _ _ (h4 d q)⟩
theorem we_callR {α : Type} {ρ : AE} {R : RS} {arg : α → List D} {pre : α → Prop} {post : α → D → Prop} {E : XK} {t : TA} {Φ : AV → RS → Prop} (h : WA K t ρ R fun as R1 => ∃ x, as = (arg x).map .d ∧ pre x ∧ ∀ d, post x d → Φ (.d d) R1) : WE K (tCall (spG K (Rel arg pre post)) [] E t) ρ R Φ :=
  we_call ⟨fun B H σ Q S k => h.run B H σ Q S fun B' H' vs as R' s S' r ⟨x, e1, e2, q⟩ => k B' H' vs as R' s S' r ⟨[], R', List.Perm.refl _, x, e1, rfl, e2, q⟩⟩ rel_mono
theorem okRel {α : Type} {arg : α → List D} {pre : α → Prop} {post : α → D → Prop} {x qual : Str} {st : Stmt} {f : Addr} {fd : FuncData} {N ps : List Str} {k : Nat} (U : Fun K x qual st f fd) (S : FnScope N ps (defScope st)) (len : ∀ x, (arg x).length = ps.length)
    (hbody : ∀ (cdv : Value) (A : Around) (outer : List Env) (s : Shared) (H : Hp) (E : XK) (x : α), Room k (A.deeper (envOfC qual (defScope st) s.heap.objs.size f cdv)) → pre x →
      ∃ t, PSs (cxOf CX0 P w K mg base N qual (defScope st) f cdv A outer s H E).nox (defBody st) t ∧ WS K t (astart N ((arg x).map .d)) [] { nx := fun _ R' => False, rt := fun a R' => ∃ d, a = .d d ∧ post x d ∧ R' = [] }) : FnOk P w K mg base CX0 (k + 1) f fd ps (spG K (Rel arg pre post)) := by
  refine okG U S (fun as R P ⟨x, h1, _⟩ => by rw [h1, List.length_map]; exact len x) fun cdv A outer s H E as R P0 hr ⟨x, h1, h2, h3, h4⟩ => ?_
  subst h1
  subst h2
  obtain ⟨t, ht, hw⟩ := hbody cdv A outer s H E x hr h3
  exact ⟨t, ht, hw.mono (fun ρ R h => h.elim) (fun a R ⟨d, e1, e2, e3⟩ => by subst e1; subst e3; exact h4 d e2) (fun _ _ h => h) (fun _ _ h => h)⟩
end
section
variable {P : Program} {w : World} {K : PySem.W.Frag} {mg : Str → Option Value} {base : Heap}
/-! ### planted trees -/
abbrev PlIn := Nat × Tr × Tr × Int × Nat × Nat
abbrev Rel_planted : FT := Rel (fun z : PlIn => [.int (z.1 : Nat), encTr z.2.1, encTr z.2.2.1, .int z.2.2.2.1, .int (z.2.2.2.2.1 : Nat), .int (z.2.2.2.2.2 : Nat)]) (fun z => z.1 < 9 ∧ 0 ≤ z.2.2.2.1 ∧ z.2.2.2.1 < 10 ^ 30 ∧ (z.2.2.2.2.1 = 2 ∨ z.2.2.2.2.1 = 3) ∧ z.2.2.2.2.2 < z.2.2.2.2.1) (fun z d => ∃ v : Int, d = .tup [encTr (plT z.1 z.2.1 z.2.2.1 z.2.2.2.1 z.2.2.2.2.1 z.2.2.2.2.2), .int v])
theorem ok_l_planted (T : Txt K w mg) : FnOk P w K mg base CX0 2 T.l_planted.f T.l_planted.fd P_l_planted (spG K Rel_planted) := by
  refine okRel T.l_planted.F sc_l_planted (fun x => rfl) fun cdv A outer s H E z hr pre => ?_
  obtain ⟨way, bs, up, at_, step, rest⟩ := z
  obtain ⟨h1, h2, h3, h4, h5⟩ := pre
  have h1 : way < 9 := h1
  have h2 : 0 ≤ at_ := h2
  have h3 : at_ < 10 ^ 30 := h3
  have h4 : step = 2 ∨ step = 3 := h4
  have h5 : rest < step := h5
  have hu := hu_of hr
  have p102 : (2 : Nat) ^ 102 = 5070602400912917605986812821504 := by decide
  have ba : Bd 102 at_ := by unfold Bd; rw [p102]; omega
  have bst : Bd 102 (step : Int) := by unfold Bd; rw [p102]; omega
  have hst : (0 : Int) < (step : Nat) := by omega
  refine ⟨_, (pss_cons (ps_par3 (i := 6) (j := 7) (l := 8) (by rfl) sc_l_planted.nd rfl rfl rfl (by decide) (by decide) (by decide) rfl rfl rfl (pa_cons (pe_tup (pa_cons pe_str pa_nil)) (pa_cons (pe_tup (pa_cons pe_str (pa_cons (pv 3) pa_nil))) (pa_cons (pe_tup (pa_cons pe_str (pa_cons (pv 4) pa_nil))) pa_nil))) (by rfl))
        (pss_cons (ps_if (pt_cmpR op_eq (pv 0) pe_int (nomark _)) (pss_one (ps_ret (pe_tup (pa_cons (pe_tup (pa_cons pe_str (pa_cons (pe_tup (pa_cons pe_str (pa_cons (pv 6) (pa_cons (pv 7) pa_nil)))) (pa_cons (pv 2) (pa_cons (pv 1) pa_nil))))) (pa_cons (pv 3) pa_nil))))) pss_nil)
        (pss_cons (ps_if (pt_cmpR op_eq (pv 0) pe_int (nomark _)) (pss_one (ps_ret (pe_tup (pa_cons (pe_tup (pa_cons pe_str (pa_cons (pe_tup (pa_cons pe_str (pa_cons (pv 6) (pa_cons (pv 7) pa_nil)))) (pa_cons (pv 1) (pa_cons (pv 2) pa_nil))))) (pa_cons (pv 3) pa_nil))))) pss_nil)
        (pss_cons (ps_if (pt_cmpR op_eq (pv 0) pe_int (nomark _)) (pss_one (ps_ret (pe_tup (pa_cons (pe_tup (pa_cons pe_str (pa_cons (pe_tup (pa_cons pe_str (pa_cons (pe_tup (pa_cons pe_str (pa_cons (pv 6) (pa_cons (pv 8) pa_nil)))) (pa_cons (pv 7) pa_nil)))) (pa_cons (pv 1) (pa_cons (pv 2) pa_nil))))) (pa_cons (pe_op op_mulW (pv 3) (pv 4)) pa_nil))))) pss_nil)
        (pss_cons (ps_if (pt_cmpR op_eq (pv 0) pe_int (nomark _)) (pss_cons (ps_set (i := 9) sc_l_planted.nd rfl (.inl rfl) (pe_tup (pa_cons pe_str (pa_cons (pe_tup (pa_cons pe_str (pa_cons (pv 6) (pa_cons (pv 7) pa_nil)))) (pa_cons (pe_tup (pa_cons pe_str (pa_cons (pe_tup (pa_cons pe_str (pa_cons (pv 6) (pa_cons (pv 8) pa_nil)))) (pa_cons (pe_tup (pa_cons pe_str (pa_cons (pv 5) pa_nil))) pa_nil)))) pa_nil)))))
        (pss_one (ps_ret (pe_tup (pa_cons (pe_tup (pa_cons pe_str (pa_cons (pv 9) (pa_cons (pv 2) (pa_cons (pv 1) pa_nil))))) (pa_cons (pe_op op_plus (pe_op op_plus (pv 3) pe_int) (pe_op op_mod (pe_op op_sub (pe_op op_sub (pv 5) (pv 3)) pe_int) (pv 4))) pa_nil)))))) pss_nil)
        (pss_cons (ps_if (pt_cmpR op_eq (pv 0) pe_int (nomark _)) (pss_one (ps_ret (pe_tup (pa_cons (pe_tup (pa_cons pe_str (pa_cons (pe_tup (pa_cons pe_str (pa_cons (pe_tup (pa_cons pe_str (pa_cons (pv 8) (pa_cons (pv 6) pa_nil)))) (pa_cons (pv 7) pa_nil)))) (pa_cons (pv 2) (pa_cons (pv 1) pa_nil))))) (pa_cons (pe_op op_sub pe_int (pe_op op_fdivW (pe_op op_sub pe_int (pv 3)) (pv 4))) pa_nil))))) pss_nil)
        (pss_cons (ps_if (pt_cmpR op_eq (pv 0) pe_int (nomark _)) (pss_one (ps_ret (pe_tup (pa_cons (pe_tup (pa_cons pe_str (pa_cons (pe_tup (pa_cons pe_str (pa_cons (pe_tup (pa_cons pe_str (pa_cons (pv 6) (pa_cons (pv 7) pa_nil)))) (pa_cons (pe_tup (pa_cons pe_str (pa_cons (pv 6) (pa_cons (pv 8) pa_nil)))) pa_nil)))) (pa_cons (pv 1) (pa_cons (pv 2) pa_nil))))) (pa_cons (pe_op op_mulW (pe_op op_sub pe_int (pe_op op_fdivW (pe_op op_sub pe_int (pv 3)) (pv 4))) (pv 4)) pa_nil))))) pss_nil)
        (pss_cons (ps_if (pt_cmpR op_eq (pv 0) pe_int (nomark _)) (pss_one (ps_ret (pe_tup (pa_cons (pe_tup (pa_cons pe_str (pa_cons (pe_tup (pa_cons pe_str (pa_cons (pe_tup (pa_cons pe_str (pa_cons (pv 6) (pa_cons (pv 7) pa_nil)))) (pa_cons (pe_tup (pa_cons pe_str (pa_cons pe_int pa_nil))) pa_nil)))) (pa_cons (pv 2) (pa_cons (pv 1) pa_nil))))) (pa_cons (pe_op op_plus (pv 3) pe_int) pa_nil))))) pss_nil)
        (pss_cons (ps_if (pt_cmpR op_eq (pv 0) pe_int (nomark _)) (pss_cons (ps_set (i := 10) sc_l_planted.nd rfl (.inl rfl) (pe_ix ix_seq (pe_lst (pa_cons pe_int (pa_cons pe_int (pa_cons pe_int (pa_cons pe_int pa_nil))))) (pv 5) (fun _ _ => rfl)))
        (pss_cons (ps_set (i := 9) sc_l_planted.nd rfl (.inl rfl) (pe_tup (pa_cons pe_str (pa_cons (pe_tup (pa_cons pe_str (pa_cons (pe_tup (pa_cons pe_str (pa_cons (pe_op op_plus (pv 4) (pv 10)) pa_nil))) (pa_cons (pv 6) pa_nil)))) (pa_cons (pe_tup (pa_cons pe_str (pa_cons (pe_tup (pa_cons pe_str (pa_cons (pv 8) (pa_cons (pv 6) pa_nil)))) (pa_cons (pv 7) pa_nil)))) pa_nil)))))
        (pss_one (ps_ret (pe_tup (pa_cons (pe_tup (pa_cons pe_str (pa_cons (pv 9) (pa_cons (pv 1) (pa_cons (pv 2) pa_nil))))) (pa_cons (pe_op op_sub pe_int (pe_op op_fdivW (pe_op op_sub pe_int (pv 3)) (pv 10))) pa_nil))))))) pss_nil)
        (pss_cons (ps_set (i := 9) sc_l_planted.nd rfl (.inl rfl) (pe_tup (pa_cons pe_str (pa_cons (pe_tup (pa_cons pe_str (pa_cons (pe_tup (pa_cons pe_str (pa_cons (pe_tup (pa_cons pe_str (pa_cons pe_int pa_nil))) (pa_cons (pv 6) pa_nil)))) (pa_cons (pe_tup (pa_cons pe_str (pa_cons pe_int pa_nil))) pa_nil)))) (pa_cons (pe_tup (pa_cons pe_str (pa_cons (pe_tup (pa_cons pe_str (pa_cons (pv 6) (pa_cons (pe_tup (pa_cons pe_str (pa_cons pe_int pa_nil))) pa_nil)))) (pa_cons (pv 7) pa_nil)))) pa_nil)))))
        (pss_cons (ps_set (i := 11) sc_l_planted.nd rfl (.inl rfl) (pe_op op_mulW pe_int (pe_callB (cl_max2 rfl) (by rfl) T.b_max (by decide +kernel) (pa_cons pe_int (pa_cons (pe_op op_sub (pe_op op_fdivW (pv 3) pe_int) pe_int) pa_nil)))))
        (pss_cons (ps_while PassesOwn.never (pt_cmpR op_lt (pe_op op_sub (pe_op op_fdivW (pe_op op_mulW pe_int (pv 11)) pe_int) (pe_op op_fdivW (pv 11) pe_int)) (pv 3) (nomark _)) (pss_one (ps_set (i := 11) sc_l_planted.nd rfl (.inl rfl) (pe_op op_plus (pv 11) pe_int))))
        (pss_one (ps_ret (pe_tup (pa_cons (pe_tup (pa_cons pe_str (pa_cons (pv 9) (pa_cons (pv 2) (pa_cons (pv 1) pa_nil))))) (pa_cons (pv 11) pa_nil))))))))))))))))), ?_⟩
  try dsimp only [cx_K, cx_w]
  refine ws_rho (ρ' := [some _, some _, some _, some _, some _, some _, none, none, none, none, none, none]) rfl ?_
  walk_at "go"
  walk_at "nm"
  rcases (show way = 0 ∨ way = 1 ∨ way = 2 ∨ way = 3 ∨ way = 4 ∨ way = 5 ∨ way = 6 ∨ way = 7 ∨ way = 8 by omega) with rfl | rfl | rfl | rfl | rfl | rfl | rfl | rfl | rfl
  · walk_at "go"
    exact ⟨⟨_, rfl⟩, rfl⟩
  · walk_at "go"
    exact ⟨⟨_, rfl⟩, rfl⟩
  · walk_at "go"
    refine fI2c.i (mulOk ba bst (by omega) (by omega) (by omega)) ?_
    walk_at "go"
    exact ⟨⟨_, rfl⟩, rfl⟩
  · walk_at "go"
    refine fI2c.i hst ?_
    walk_at "go"
    exact ⟨⟨_, rfl⟩, rfl⟩
  · walk_at "go"
    refine fI2c.i (divOk bst hst (by omega) (by omega)) ?_
    walk_at "go"
    exact ⟨⟨_, rfl⟩, rfl⟩
  · walk_at "go"
    refine fI2c.i (divOk bst hst (by omega) (by omega)) ?_
    walk_at "go"
    have b1 : Bd 104 (0 - (0 - at_) / (step : Int)) := (((Bd.zero (k := 102)).sub ba).div hst |>.neg |> fun q => by rw [Int.zero_sub]; exact q.mono (by omega))
    refine fI2c.i (mulOk b1 bst (by omega) (by omega) (by omega)) ?_
    walk_at "go"
    exact ⟨⟨_, rfl⟩, rfl⟩
  · walk_at "go"
    exact ⟨⟨_, rfl⟩, rfl⟩
  · have hr4 : rest < 4 := by have h5 : rest < step := h5; have h4 : step = 2 ∨ step = 3 := h4; omega
    have hg : atI [D.int 4, D.int 5, D.int 7, D.int 9] (rest : Int) = some (.int (gapM rest : Nat)) := by
      rcases (show rest = 0 ∨ rest = 1 ∨ rest = 2 ∨ rest = 3 by omega) with rfl | rfl | rfl | rfl <;> rfl
    have hgp : (0 : Int) < (gapM rest : Nat) := by
      rcases (show rest = 0 ∨ rest = 1 ∨ rest = 2 ∨ rest = 3 by omega) with rfl | rfl | rfl | rfl <;> decide
    have hgb : Bd 4 ((gapM rest : Nat) : Int) := by
      rcases (show rest = 0 ∨ rest = 1 ∨ rest = 2 ∨ rest = 3 by omega) with rfl | rfl | rfl | rfl <;> (unfold Bd; decide)
    walk_at "go"
    refine fIx.l hg ?_
    walk_at "go"
    refine fI2c.i (divOk hgb hgp (by omega) (by omega)) ?_
    walk_at "go"
    exact ⟨⟨_, rfl⟩, rfl⟩
  · walk_at "go"
    refine fI2c.i (divOk (k := 3) (show (3 : Int).natAbs < 2 ^ 3 by decide) (by decide) (by omega) (by omega)) ?_
    walk_at "go"
    have b3 : Bd 103 (max 0 (at_ / 3 - 2)) := Bd.zero.max ((ba.div (by decide)).sub (two_bd (by omega)))
    refine fI2c.i (mulOk (k := 4) (show (4 : Int).natAbs < 2 ^ 4 by decide) b3 (by omega) (by omega) (by omega)) ?_
    have hf0 : ∃ f0 : Nat, 4 * max 0 (at_ / 3 - 2) = (f0 : Int) ∧ (f0 : Int) ≤ 2 * at_ + 4 := by
      have h2 : 0 ≤ at_ := h2
      refine ⟨(4 * max 0 (at_ / 3 - 2)).toNat, by omega, by omega⟩
    obtain ⟨f0, e0, l0⟩ := hf0
    rw [e0]
    have h2 : 0 ≤ at_ := h2
    have h3 : at_ < 10 ^ 30 := h3
    walk_at "nm"
    refine ws_rho (ρ' := [some (.d (.int (8 : Nat))), some (.d (encTr bs)), some (.d (encTr up)), some (.d (.int at_)), some (.d (.int (step : Nat))), some (.d (.int (rest : Nat))), some (.d (.tup [.str "n"])), some (.d (.tup [.str "number", .int at_])), some (.d (.tup [.str "number", .int (step : Nat)])), some (.d (encTr (testM 8 at_ step rest))), none, some (.d (.int (f0 : Nat)))]) rfl ?_
    refine ws_seq ?_
    refine ws_while (fun m ρ' R' => ∃ f : Nat, (m : Int) = 2 * at_ + 10 - f ∧ (f : Int) ≤ 2 * at_ + 4 ∧ ρ' = [some (.d (.int (8 : Nat))), some (.d (encTr bs)), some (.d (encTr up)), some (.d (.int at_)), some (.d (.int (step : Nat))), some (.d (.int (rest : Nat))), some (.d (.tup [.str "n"])), some (.d (.tup [.str "number", .int at_])), some (.d (.tup [.str "number", .int (step : Nat)])), some (.d (encTr (testM 8 at_ step rest))), none, some (.d (.int (f : Nat)))] ∧ R' = []) (2 * at_ + 10 - f0).toNat ⟨f0, by omega, l0, rfl, rfl⟩ fun m ρ' R' ⟨f, e1, e2, e3, e4⟩ => ?_
    subst e3
    subst e4
    have bf : Bd 110 (f : Int) := by
      unfold Bd
      rw [show (2 : Nat) ^ 110 = 1298074214633706907132624082305024 by decide]
      omega
    walk_at "go"
    refine fI2c.i (mulOk (k := 4) (show (5 : Int).natAbs < 2 ^ 4 by decide) bf (by omega) (by omega) (by omega)) ?_
    walk_at "go"
    refine fI2c.i (divOk (k := 3) (show (4 : Int).natAbs < 2 ^ 3 by decide) (by decide) (by omega) (by omega)) ?_
    walk_at "go"
    refine fI2c.i (divOk (k := 3) (show (2 : Int).natAbs < 2 ^ 3 by decide) (by decide) (by omega) (by omega)) ?_
    walk_at "go"
    refine ⟨fun hb => ?_, fun hb => ?_⟩
    · have hb : 5 * (f : Int) / 4 - (f : Int) / 2 < at_ := of_decide_eq_true hb
      walk_at "go"
      refine ⟨m - 1, _, by omega, Le.refl _, f + 1, by omega, by omega, rfl, rfl⟩
    · walk_at "go"
      exact ⟨⟨_, rfl⟩, rfl⟩
end
section
variable {P : Program} {w : World} {K : PySem.W.Frag} {mg : Str → Option Value} {base : Heap}
/-! ### drawn rules -/
abbrev Drw_linear : FT := Drw_linearH 3
theorem ok_l_linear (T : Txt K w mg) : FnOk P w K mg base CX0 7 T.l_linear.f T.l_linear.fd P_l_linear (spG K Drw_linear) := rc_linear T 3
theorem we_drwA {α : Type} {ρ : AE} {R : RS} {arg : α → List D} {pre : α → Prop} {cost : α → Nat} {post : α → D → Prop} {E : XK} {t : TA} {Φ : AV → RS → Prop} (h : WA K t ρ R fun as R1 => ∃ (p : Addr) (deep seed cnt : Int) (Rf : RS), R1 = srcR p deep seed cnt :: Rf ∧ ∃ x, as = .v (.ref p) :: (arg x).map .d ∧ pre x ∧ SrcOk deep seed cnt ∧ cnt + (cost x : Int) ≤ 1000000 ∧ ∀ (d : D) (deep' cnt' : Int), post x d → SrcOk deep' seed cnt' → cnt' ≤ cnt + (cost x : Int) → Φ (.d d) (srcR p deep' seed cnt' :: Rf)) : WE K (tCall (spG K (Drw arg pre cost post)) [] E t) ρ R Φ :=
  we_call ⟨fun B H σ Q S k => h.run B H σ Q S fun B' H' vs as R' s S' r ⟨p, deep, seed, cnt, Rf, e, x, e1, e2, e3, e4, q⟩ => k B' H' vs as R' s S' r ⟨[srcR p deep seed cnt], Rf, by rw [e]; exact List.Perm.refl _, x, p, deep, seed, cnt, e1, rfl, e2, e3, e4, fun d dp c z o l => q d dp c z o l⟩⟩ drw_mono
theorem ws_seqE {t1 t2 : TS} {ρ : AE} {R : RS} {Δ : AEnds} (I : AE → RS → Prop) (h : WS K t1 ρ R { nx := I, rt := Δ.rt, bk := Δ.bk, ct := Δ.ct }) (q : ∀ ρ1 R1, I ρ1 R1 → WS K t2 ρ1 R1 Δ) : WS K (tSeq t1 t2) ρ R Δ :=
  ws_seq (h.mono (fun ρ1 R1 i => q ρ1 R1 i) (fun _ _ h => h) (fun _ _ h => h) (fun _ _ h => h))
structure TreeOk (t : Tr) : Prop where
  g : GoodT t
  nb : nbT t = true
  len : (wrS [32] t).length ≤ 1000
abbrev Drw_drawn : FT := Drw (fun _ : Unit => []) (fun _ => True) (fun _ => 100) (fun _ d => ∃ t, d = encTr t ∧ TreeOk t)
theorem ok_l_drawn (T : Txt K w mg) : FnOk P w K mg base CX0 14 T.l_drawn.f T.l_drawn.fd P_l_drawn (spG K Drw_drawn) := by
  refine okDrw T.l_drawn.F sc_l_drawn (fun x => rfl) fun cdv A outer s H E z p deep seed cnt hr pre so hb => ?_
  have hb : cnt + 100 ≤ 1000000 := hb
  have hu := hu_of hr
  have t30 : (10 : Int) ^ 30 = 1000000000000000000000000000000 := by decide
  have p101 : (2 : Nat) ^ 101 = 2535301200456458802993406410752 := by decide
  refine ⟨_, (pss_cons (ps_set (i := 1) sc_l_drawn.nd rfl (.inl rfl) (pe_lst (pa_cons pe_int (pa_cons pe_int (pa_cons pe_int (pa_cons pe_int (pa_cons pe_int (pa_cons (pe_call (ok_l_far T) (hr.mono (by omega)) (by rfl) T.l_far.m T.l_far.F.kp T.l_far.b .nil pass0 (pa_cons (pv 0) pa_nil)) (pa_cons (pe_op op_fdivW (pe_call (ok_l_far T) (hr.mono (by omega)) (by rfl) T.l_far.m T.l_far.F.kp T.l_far.b .nil pass0 (pa_cons (pv 0) pa_nil)) pe_int) pa_nil)))))))))
        (pss_cons (ps_set (i := 2) sc_l_drawn.nd rfl (.inl rfl) (pe_call (ok_l_linear T) (hr.mono (by omega)) (by rfl) T.l_linear.m T.l_linear.F.kp T.l_linear.b .nil pass0 (pa_cons (pv 0) (pa_cons (pe_op op_plus pe_int (pe_call (ok_l_draw T) (hr.mono (by omega)) (by rfl) T.l_draw.m T.l_draw.F.kp T.l_draw.b .nil pass0 (pa_cons (pv 0) (pa_cons pe_int pa_nil)))) (pa_cons (pv 1) (pa_cons (pe_lst (pa_cons pe_int (pa_cons pe_int pa_nil))) pa_nil))))))
        (pss_cons (ps_if (pt_cmpR op_eq (pe_call (ok_l_draw T) (hr.mono (by omega)) (by rfl) T.l_draw.m T.l_draw.F.kp T.l_draw.b .nil pass0 (pa_cons (pv 0) (pa_cons pe_int pa_nil))) pe_int (nomark _)) (pss_one (ps_set (i := 2) sc_l_drawn.nd rfl (.inl rfl) (pe_tup (pa_cons pe_str (pa_cons (pv 2) (pa_cons (pe_tup (pa_cons pe_str (pa_cons pe_int pa_nil))) pa_nil)))))) pss_nil)
        (pss_cons (ps_if (pt_cmpR op_gt (pe_call (ok_l_span T) (hr.mono (by omega)) (by rfl) T.l_span.m T.l_span.F.kp T.l_span.b .nil pass0 (pa_cons (pv 2) pa_nil)) pe_int (nomark _)) (pss_one (ps_set (i := 2) sc_l_drawn.nd rfl (.inl rfl) (pe_call (ok_l_linear T) (hr.mono (by omega)) (by rfl) T.l_linear.m T.l_linear.F.kp T.l_linear.b .nil pass0 (pa_cons (pv 0) (pa_cons pe_int (pa_cons (pv 1) (pa_cons (pe_lst (pa_cons pe_int (pa_cons pe_int pa_nil))) pa_nil))))))) pss_nil)
        (pss_cons (ps_set (i := 3) sc_l_drawn.nd rfl (.inl rfl) (pe_ix ix_seq (pe_lst (pa_cons (pe_tup (pa_cons pe_str (pa_cons (pv 2) (pa_cons (pe_tup (pa_cons pe_str (pa_cons pe_int pa_nil))) pa_nil)))) (pa_cons (pe_tup (pa_cons pe_str (pa_cons (pe_call (ok_l_draw T) (hr.mono (by omega)) (by rfl) T.l_draw.m T.l_draw.F.kp T.l_draw.b .nil pass0 (pa_cons (pv 0) (pa_cons pe_int pa_nil))) pa_nil))) (pa_cons (pe_tup (pa_cons pe_str pa_nil)) pa_nil)))) (pe_call (ok_l_draw T) (hr.mono (by omega)) (by rfl) T.l_draw.m T.l_draw.F.kp T.l_draw.b .nil pass0 (pa_cons (pv 0) (pa_cons pe_int pa_nil))) (fun _ _ => rfl)))
        (pss_cons (ps_set (i := 4) sc_l_drawn.nd rfl (.inl rfl) (pe_op op_plus pe_int (pe_call (ok_l_draw T) (hr.mono (by omega)) (by rfl) T.l_draw.m T.l_draw.F.kp T.l_draw.b .nil pass0 (pa_cons (pv 0) (pa_cons pe_int pa_nil)))))
        (pss_one (ps_ret (pe_ix ix_seq (pe_call (ok_l_planted T) (hr.mono (by omega)) (by rfl) T.l_planted.m T.l_planted.F.kp T.l_planted.b .nil pass0 (pa_cons (pe_call (ok_l_draw T) (hr.mono (by omega)) (by rfl) T.l_draw.m T.l_draw.F.kp T.l_draw.b .nil pass0 (pa_cons (pv 0) (pa_cons pe_int pa_nil))) (pa_cons (pv 2) (pa_cons (pv 3) (pa_cons (pe_call (ok_l_far T) (hr.mono (by omega)) (by rfl) T.l_far.m T.l_far.F.kp T.l_far.b .nil pass0 (pa_cons (pv 0) pa_nil)) (pa_cons (pv 4) (pa_cons (pe_call (ok_l_draw T) (hr.mono (by omega)) (by rfl) T.l_draw.m T.l_draw.F.kp T.l_draw.b .nil pass0 (pa_cons (pv 0) (pa_cons (pv 4) pa_nil))) pa_nil))))))) pe_int (fun _ _ => rfl)))))))))), ?_⟩
  try dsimp only [cx_K, cx_w]
  refine ws_rho (ρ' := [some _, none, none, none, none]) rfl ?_
  walk_at "go"
  refine we_drw ?_
  walk_at "go"
  refine ⟨rfl, (), rfl, trivial, so, by show cnt + 5 ≤ 1000000; omega, fun d dp1 c1 ⟨f1, e1, l1, u1⟩ so1 hc1 => ?_⟩
  subst e1
  have hc1 : c1 ≤ cnt + 5 := hc1
  walk_at "go"
  refine we_drw ?_
  walk_at "go"
  refine ⟨rfl, (), rfl, trivial, so1, by show c1 + 5 ≤ 1000000; omega, fun d dp2 c2 ⟨f2, e2, l2, u2⟩ so2 hc2 => ?_⟩
  subst e2
  have hc2 : c2 ≤ c1 + 5 := hc2
  walk_at "go"
  refine fI2c.i (divOk (k := 4) (show (9 : Int).natAbs < 2 ^ 4 by decide) (by decide) (by omega) (by omega)) ?_
  walk_at "go"
  have hns : ∃ ns : List Int, ns = [0, 1, 2, 3, 7, f1, f2 / 9] := ⟨_, rfl⟩
  obtain ⟨ns, ens⟩ := hns
  have nums : Nums ns := ⟨fun v hv => by
    rw [ens] at hv
    simp only [List.mem_cons, List.not_mem_nil, or_false] at hv
    have := Int.ediv_nonneg l2 (show (0 : Int) ≤ 9 by decide)
    rcases hv with rfl | rfl | rfl | rfl | rfl | rfl | rfl <;> (rw [p101]; omega)⟩
  have nlen : ns.length = 7 := by rw [ens]; rfl
  walk_at "nm"
  have eL : [D.int 0, D.int 1, D.int 2, D.int 3, D.int 7, D.int f1, D.int (f2 / 9)] = ns.map .int := by rw [ens]; rfl
  rw [eL]
  clear eL ens
  refine we_drwA ?_
  walk_at "go"
  refine we_drw ?_
  walk_at "go"
  refine ⟨rfl, 2, rfl, ⟨by decide, by decide⟩, so2, by show c2 + 1 ≤ 1000000; omega, fun d dp3 c3 ⟨i3, e3, hi3⟩ so3 hc3 => ?_⟩
  subst e3
  have hc3 : c3 ≤ c2 + 1 := hc3
  walk_at "go"
  have k47 : cstL 2 = 47 := rfl
  have k14 : cstL 1 = 14 := rfl
  have kle : cstL (1 + i3) ≤ 47 := by rcases (show i3 = 0 ∨ i3 = 1 by omega) with rfl | rfl <;> decide
  refine ⟨p, dp3, seed, c3, [], rfl, (1 + i3, ns, [2, 3]), rfl, ⟨by show 1 + i3 < 3; omega, by show 0 < ns.length; omega, by show ns.length < 2000; omega, Nat.le_of_ble_eq_true rfl, Nat.le_of_ble_eq_true rfl⟩, so3, by show c3 + (cstL (1 + i3) : Int) ≤ 1000000; omega, fun d dp4 c4 ⟨b1, e4, hb1⟩ so4 hc4 => ?_⟩
  subst e4
  have hc4 : c4 ≤ c3 + (cstL (1 + i3) : Int) := hc4
  have hb1 : DT ns [2, 3] (1 + i3) b1 := hb1
  walk_at "nm"
  have ds : ∀ v ∈ ([2, 3] : List Int), 0 < v := fun v hv => by
    simp only [List.mem_cons, List.not_mem_nil, or_false] at hv
    rcases hv with rfl | rfl <;> decide
  have hh1 : 1 + i3 ≤ 2 := by omega
  have lin1 := hb1.lin (fun v hv => (nums.p v hv).1) ds
  have ht1 := hb1.ht
  have sp1 : spanM b1 ≤ 36 := Nat.le_of_dvd (by decide) (Nat.dvd_trans hb1.span (Nat.pow_dvd_pow 6 hh1))
  refine ws_seqE (fun ρ' R' => ∃ (b : Tr) (dp c : Int), ρ' = [some (.v (.ref p)), some (.d (.lst (ns.map .int))), some (.d (encTr b)), none, none] ∧ R' = [srcR p dp seed c] ∧ SrcOk dp seed c ∧ c ≤ c4 + 1 ∧ (b = b1 ∨ b = .bin .mod b1 (.num 2))) ?_ fun ρ1 R1 ⟨b2, dp5, c5, q1, q2, so5, hc5, hb2⟩ => ?_
  · refine ws_if (wt_test (we_opc (we_drw ?_)))
    walk_at "go"
    refine ⟨rfl, 2, rfl, ⟨by decide, by decide⟩, so4, by show c4 + 1 ≤ 1000000; omega, fun d dp5 c5 ⟨i5, e5, hi5⟩ so5 hc5 => ?_⟩
    subst e5
    have hc5 : c5 ≤ c4 + 1 := hc5
    walk_at "go"
    refine ⟨fun _ => ?_, fun _ => ?_⟩
    · walk_at "go"
      exact ⟨.bin .mod b1 (.num 2), dp5, c5, rfl, rfl, so5, hc5, .inr rfl⟩
    · exact ws_next ⟨b1, dp5, c5, rfl, rfl, so5, hc5, .inl rfl⟩
  subst q1
  subst q2
  have lin2 : linM b2 = true ∧ spanM b2 ≤ 1000 ∧ ht b2 < 9 := by
    rcases hb2 with rfl | rfl
    · exact ⟨lin1, by omega, by omega⟩
    · exact ⟨by simp [linM, lin1, Tr.isNum, Tr.num?], by show spanM b1 * 2 ≤ 1000; omega, by simp only [ht]; omega⟩
  refine ws_seqE (fun ρ' R' => ∃ (b : Tr) (dp c : Int), ρ' = [some (.v (.ref p)), some (.d (.lst (ns.map .int))), some (.d (encTr b)), none, none] ∧ R' = [srcR p dp seed c] ∧ SrcOk dp seed c ∧ c ≤ c4 + 15 ∧ Sz b 1160 216 216 3 340) ?_ fun ρ1 R1 ⟨b, dp6, c6, q1, q2, so6, hc6, sb⟩ => ?_
  · walk_at "s1"
    walk_at "go"
    refine ⟨lin2, ?_⟩
    walk_at "go"
    refine ⟨fun hd => ?_, fun hd => ?_⟩
    · walk_at "go"
      refine we_drw ?_
      walk_at "go"
      refine ⟨rfl, (1, ns, [2, 3]), rfl, ⟨Nat.le_of_ble_eq_true rfl, by show 0 < ns.length; omega, by show ns.length < 2000; omega, Nat.le_of_ble_eq_true rfl, Nat.le_of_ble_eq_true rfl⟩, so5, by show c5 + (cstL 1 : Int) ≤ 1000000; omega, fun d dp6 c6 ⟨b, e6, hb6⟩ so6 hc6 => ?_⟩
      subst e6
      have hc6 : c6 ≤ c5 + (cstL 1 : Int) := hc6
      exact ⟨b, dp6, c6, rfl, rfl, so6, by omega, nums.one hb6⟩
    · have hle : spanM b2 ≤ 6 := by have := of_decide_eq_false hd; omega
      refine ws_next ⟨b2, dp5, c5, rfl, rfl, so5, by omega, ?_⟩
      rcases hb2 with rfl | rfl
      · exact nums.plain hb1 hh1 hle
      · exact nums.mod2 hb1 hh1 hle
  subst q1
  subst q2
  clear hb2 lin2 sp1 ht1 lin1 hb1
  refine ws_seqE (fun ρ' R' => ∃ (u : Tr) (dp c : Int), ρ' = [some (.v (.ref p)), some (.d (.lst (ns.map .int))), some (.d (encTr b)), some (.d (encTr u)), none] ∧ R' = [srcR p dp seed c] ∧ SrcOk dp seed c ∧ c ≤ c4 + 17 ∧ Sz u 1180 648 216 4 360) ?_ fun ρ1 R1 ⟨u, dp7, c7, q1, q2, so7, hc7, su⟩ => ?_
  · walk_at "go"
    refine we_drw ?_
    walk_at "go"
    refine ⟨rfl, 9, rfl, ⟨by decide, by decide⟩, so6, by show c6 + 1 ≤ 1000000; omega, fun d dp7 c7 ⟨i7, e7, hi7⟩ so7 hc7 => ?_⟩
    subst e7
    have hc7 : c7 ≤ c6 + 1 := hc7
    walk_at "go"
    refine we_drw ?_
    walk_at "go"
    refine ⟨rfl, 3, rfl, ⟨by decide, by decide⟩, so7, by show c7 + 1 ≤ 1000000; omega, fun d dp8 c8 ⟨i8, e8, hi8⟩ so8 hc8 => ?_⟩
    subst e8
    have hc8 : c8 ≤ c7 + 1 := hc8
    rcases (show i8 = 0 ∨ i8 = 1 ∨ i8 = 2 by omega) with rfl | rfl | rfl
    · refine fIx.l (atI_nat (j := 0) rfl) ?_
      exact ⟨.bin .add b (.num 1), dp8, c8, rfl, rfl, so8, by omega, up_add sb⟩
    · refine fIx.l (atI_nat (j := 1) rfl) ?_
      exact ⟨.num (i7 : Int), dp8, c8, rfl, rfl, so8, by omega, up_num hi7⟩
    · refine fIx.l (atI_nat (j := 2) rfl) ?_
      exact ⟨.n, dp8, c8, rfl, rfl, so8, by omega, up_n⟩
  subst q1
  subst q2
  walk_at "s1"
  refine ws_set (we_opc (we_cI (we_drw ?_)))
  walk_at "go"
  refine ⟨rfl, 2, rfl, ⟨by decide, by decide⟩, so7, by show c7 + 1 ≤ 1000000; omega, fun d dp8 c8 ⟨i8, e8, hi8⟩ so8 hc8 => ?_⟩
  subst e8
  have hc8 : c8 ≤ c7 + 1 := hc8
  walk_at "go"
  walk_at "nm"
  rw [show (2 : Int) + (i8 : Int) = ((2 + i8 : Nat) : Int) by omega]
  refine we_callR (wa_cons (we_drw ?_))
  walk_at "go"
  refine ⟨rfl, 9, rfl, ⟨by decide, by decide⟩, so8, by show c8 + 1 ≤ 1000000; omega, fun d dp9 c9 ⟨i9, e9, hi9⟩ so9 hc9 => ?_⟩
  subst e9
  have hc9 : c9 ≤ c8 + 1 := hc9
  walk_at "go"
  refine we_drw ?_
  walk_at "go"
  refine ⟨rfl, (), rfl, trivial, so9, by show c9 + 5 ≤ 1000000; omega, fun d dp10 c10 ⟨f10, e10, l10, u10⟩ so10 hc10 => ?_⟩
  subst e10
  have hc10 : c10 ≤ c9 + 5 := hc10
  walk_at "go"
  refine we_drw ?_
  walk_at "go"
  refine ⟨rfl, 2 + i8, rfl, ⟨by omega, by omega⟩, so10, by show c10 + 1 ≤ 1000000; omega, fun d dp11 c11 ⟨i11, e11, hi11⟩ so11 hc11 => ?_⟩
  subst e11
  have hc11 : c11 ≤ c10 + 1 := hc11
  have hst : 2 + i8 = 2 ∨ 2 + i8 = 3 := by omega
  refine wa_nil ⟨(i9, b, u, f10, 2 + i8, i11), rfl, ⟨hi9, l10, u10, hst, hi11⟩, fun d ⟨v, ed⟩ => ?_⟩
  subst ed
  obtain ⟨g1, g2, g3⟩ := plT_good i9 l10 u10 hst hi11 sb su
  refine we_cI (fIx.t (atI_zero _ _) ⟨_, rfl, dp11, c11, rfl, ⟨_, rfl, ⟨g1, g2, g3⟩⟩, so11, by show c11 ≤ cnt + 100; omega⟩)
end
section
variable {P : Program} {w : World} {K : PySem.W.Frag} {mg : Str → Option Value} {base : Heap}
/-! ### the source of draws -/
def FT_source : FT := fun as R P => ∃ (ns : List Int) (k : Nat), as = [.d (.scr ns), .d (.int (k : Nat))] ∧ R = [] ∧ k < 2 ∧ ∀ p deep seed, SrcOk deep seed 0 → P (.v (.ref p)) [srcR p deep seed 0]
theorem source_mono : Mono FT_source := fun as R P P' ⟨ns, k, h1, h2, h3, h4⟩ f => ⟨ns, k, h1, h2, h3, fun p deep seed so => f _ _ (h4 p deep seed so)⟩
theorem ok_l_source (T : Txt K w mg) : FnOk P w K mg base CX0 1 T.l_source.f T.l_source.fd P_l_source (spG K FT_source) := by
  refine okG T.l_source.F sc_l_source (fun as R P ⟨ns, k, h1, _⟩ => by rw [h1]; rfl) fun cdv A outer s H E as R P0 hr ⟨ns, k, h1, h2, h3, h4⟩ => ?_
  subst h1
  subst h2
  have hu := hu_of hr
  have t18 : (10 : Int) ^ (18 : Int).toNat = 1000000000000000000 := by decide
  refine ⟨_, (pss_cons (ps_set (i := 2) sc_l_source.nd rfl (.inl rfl) pe_int)
        (pss_cons (ps_set (i := 3) sc_l_source.nd rfl (.inl rfl) pe_int)
        (pss_cons (ps_if (pt_cmpR op_gt (pe_callB cl_len (by rfl) T.b_len (by decide +kernel) (pa_cons (pv 0) pa_nil)) pe_int (nomark _)) (pss_one (ps_set (i := 2) sc_l_source.nd rfl (.inl rfl) (pe_ix ix_seq (pv 0) (pe_op op_mod (pe_callTy cl_int (by rfl) T.b_int (by decide +kernel) (pa_cons (pv 1) pa_nil)) (pe_callB cl_len (by rfl) T.b_len (by decide +kernel) (pa_cons (pv 0) pa_nil))) (fun _ _ => rfl)))) pss_nil)
        (pss_cons (ps_if (PW.pt (pw_and (pt_cmpR op_lt (pv 1) (pe_callB cl_len (by rfl) T.b_len (by decide +kernel) (pa_cons (pv 0) pa_nil)) (nomark _)) (pw_and1 (pt_cmpR op_ge (pv 2) (pe_op op_pow pe_int pe_int) (nomark _))))) (pss_one (ps_set (i := 3) sc_l_source.nd rfl (.inl rfl) (pv 2))) pss_nil)
        (pss_one (ps_ret (pe_lst (pa_cons (pv 3) (pa_cons (pe_op op_plus (pe_op op_plus (pe_op op_mod (pe_callTy cl_int (by rfl) T.b_int (by decide +kernel) (pa_cons (pv 2) pa_nil)) pe_int) (pe_op op_mulW pe_int (pv 1))) pe_int) (pa_cons pe_int pa_nil)))))))))), ?_⟩
  try dsimp only [cx_K, cx_w]
  refine ws_rho (ρ' := [some _, some _, none, none]) rfl ?_
  walk_at "s1"
  walk_at "s1"
  walk_at "s1"
  walk_at "s1"
  walk_at "s1"
  walk_at "s1"
  refine ws_seqE (fun ρ' R' => ∃ c : Int, ρ' = [some (.d (.scr ns)), some (.d (.int (k : Nat))), some (.d (.int c)), some (.d (.int 0))] ∧ R' = []) ?_ fun ρ1 R1 ⟨c, q1, q2⟩ => ?_
  · walk_at "s1"
    walk_at "go"
    refine fLen.sc ?_
    walk_at "go"
    refine ⟨fun hd => ?_, fun hd => ?_⟩
    · have hl : (0 : Int) < ns.length := of_decide_eq_true hd
      have m0 := Int.emod_nonneg (k : Int) (show (ns.length : Int) ≠ 0 by omega)
      have m1 := Int.emod_lt_of_pos (k : Int) hl
      obtain ⟨i, ei⟩ : ∃ i : Nat, (k : Int) % (ns.length : Int) = (i : Int) := ⟨((k : Int) % (ns.length : Int)).toNat, by omega⟩
      have hi : i < ns.length := by omega
      refine ws_set ?_
      walk_at "go"
      refine fLen.sc ?_
      refine fI2c.i hl ?_
      rw [ei]
      refine fIx.sc (atI_nat (List.getElem?_eq_getElem hi)) ?_
      exact ⟨ns[i], rfl, rfl⟩
    · exact ws_next ⟨0, rfl, rfl⟩
  subst q1
  subst q2
  refine ws_seqE (fun ρ' R' => ∃ d : Int, 0 ≤ d ∧ ρ' = [some (.d (.scr ns)), some (.d (.int (k : Nat))), some (.d (.int c)), some (.d (.int d))] ∧ R' = []) ?_ fun ρ1 R1 ⟨d, q0, q1, q2⟩ => ?_
  · walk_at "s1"
    refine wt_and ?_
    refine wt_test (we_opc (we_var rfl (we_cbc (wa_cons (we_var rfl (wa_nil (fLen.sc (fI2.i ⟨_, rfl, fun hd => ?_, fun hd => ?_⟩))))))))
    · refine wt_test (we_opc (we_var rfl (we_opc (we_cI (we_cI (fI2c.i ⟨by decide, by decide, by decide⟩ (fI2.i ⟨_, rfl, fun hd => ?_, fun hd => ?_⟩)))))))
      · rw [t18] at hd
        have hc : (1000000000000000000 : Int) ≤ c := of_decide_eq_true hd
        exact ws_set (we_var rfl ⟨c, by omega, rfl, rfl⟩)
      · exact ws_next ⟨0, Int.le_refl _, rfl, rfl⟩
    · exact ⟨fun e => (by cases e), fun _ => ws_next ⟨0, Int.le_refl _, rfl, rfl⟩⟩
  subst q1
  subst q2
  refine ws_ret (we_own ?_)
  walk_at "go"
  refine fI2c.i (show (0 : Int) < 2147483647 by decide) ?_
  walk_at "go"
  have hbk : Bd 20 (k : Int) := Bd.nat (show k < 2 ^ 20 by omega)
  refine fI2c.i (mulOk (k := 30) (show (7919000 : Int).natAbs < 2 ^ 30 by decide) hbk (by omega) (by omega) (by omega)) ?_
  walk_at "go"
  have m0 := Int.emod_nonneg c (show (2147483647 : Int) ≠ 0 by decide)
  have m1 := Int.emod_lt_of_pos c (show (0 : Int) < 2147483647 by decide)
  exact ⟨Nat.le_of_ble_eq_true rfl, fun p => h4 p d _ ⟨q0, by omega, by omega, Int.le_refl _⟩⟩
/-! pick, handed -/
abbrev Drw_pick : FT := Drw (fun z : List D => [.lst z]) (fun z => 0 < z.length ∧ z.length < 2000) (fun _ => 1) (fun z d => d ∈ z)
theorem ok_l_pick (T : Txt K w mg) : FnOk P w K mg base CX0 2 T.l_pick.f T.l_pick.fd P_l_pick (spG K Drw_pick) := by
  refine okDrw T.l_pick.F sc_l_pick (fun x => rfl) fun cdv A outer s H E z p deep seed cnt hr pre so hb => ?_
  obtain ⟨h1, h2⟩ := pre
  have hb : cnt + 1 ≤ 1000000 := hb
  have hu := hu_of hr
  refine ⟨_, (pss_one (ps_ret (pe_ix ix_seq (pv 1) (pe_call (ok_l_draw T) (hr.mono (by omega)) (by rfl) T.l_draw.m T.l_draw.F.kp T.l_draw.b .nil pass0 (pa_cons (pv 0) (pa_cons (pe_callB cl_len (by rfl) T.b_len (by decide +kernel) (pa_cons (pv 1) pa_nil)) pa_nil))) (fun _ _ => rfl)))), ?_⟩
  try dsimp only [cx_K, cx_w]
  refine ws_rho (ρ' := [some _, some _]) rfl ?_
  walk_at "go"
  refine we_drw ?_
  walk_at "go"
  refine ⟨rfl, z.length, rfl, ⟨h1, h2⟩, so, by show cnt + 1 ≤ 1000000; omega, fun d dp1 c1 ⟨i1, e1, hi1⟩ so1 hc1 => ?_⟩
  subst e1
  refine fIx.l (atI_nat (List.getElem?_eq_getElem hi1)) ?_
  exact ⟨_, rfl, dp1, c1, rfl, List.getElem_mem hi1, so1, hc1⟩
abbrev Drw_handed : FT := Drw (fun z : List Nat × Bool => [srcD z.1 z.2]) (fun _ => True) (fun _ => 1) (fun z d => ∃ b, d = srcD z.1 b)
theorem ok_l_handed (T : Txt K w mg) : FnOk P w K mg base CX0 2 T.l_handed.f T.l_handed.fd P_l_handed (spG K Drw_handed) := by
  refine okDrw T.l_handed.F sc_l_handed (fun x => rfl) fun cdv A outer s H E z p deep seed cnt hr pre so hb => ?_
  obtain ⟨cs, b⟩ := z
  have hb : cnt + 1 ≤ 1000000 := hb
  have hu := hu_of hr
  refine ⟨_, (pss_one (ps_ret (pe_ix ix_seq (pe_lst (pa_cons (pe_callTy cl_tup (by rfl) T.b_tuple (by decide +kernel) (pa_cons (pv 1) pa_nil)) (pa_cons (pe_callTy cl_list (by rfl) T.b_list (by decide +kernel) (pa_cons (pv 1) pa_nil)) pa_nil))) (pe_call (ok_l_draw T) (hr.mono (by omega)) (by rfl) T.l_draw.m T.l_draw.F.kp T.l_draw.b .nil pass0 (pa_cons (pv 0) (pa_cons pe_int pa_nil))) (fun _ _ => rfl)))), ?_⟩
  try dsimp only [cx_K, cx_w]
  refine ws_rho (ρ' := [some _, some _]) rfl ?_
  have hlist : ∀ {Φ : AV → RS → Prop} {R : RS}, Φ (.d (.lst [srcD cs false, srcD cs true])) R → WE K (tLst (tCons (tCB (rTupA K) (tCons (tVar 1) tNil)) (tCons (tCB (rListA K) (tCons (tVar 1) tNil)) tNil))) [some (.v (.ref p)), some (.d (srcD cs b))] R Φ := fun {Φ R} h => by
    cases b with
    | true =>
      walk_at "go"
      refine fTup.l ?_
      walk_at "go"
      refine fList.l ?_
      walk_at "go"
      exact h
    | false =>
      walk_at "go"
      refine fTup.t ?_
      walk_at "go"
      refine fList.t ?_
      walk_at "go"
      exact h
  refine ws_ret (we_opc (hlist (we_drw ?_)))
  walk_at "go"
  refine ⟨rfl, 2, rfl, ⟨by decide, by decide⟩, so, by show cnt + 1 ≤ 1000000; omega, fun d dp1 c1 ⟨i1, e1, hi1⟩ so1 hc1 => ?_⟩
  subst e1
  rcases (show i1 = 0 ∨ i1 = 1 by omega) with rfl | rfl
  · exact fIx.l (atI_nat (j := 0) rfl) ⟨_, rfl, dp1, c1, rfl, ⟨false, rfl⟩, so1, hc1⟩
  · exact fIx.l (atI_nat (j := 1) rfl) ⟨_, rfl, dp1, c1, rfl, ⟨true, rfl⟩, so1, hc1⟩
/-! the rule of a tree -/
abbrev Drw_plural (C : Addr) : FT := Drw (fun z : Tr => [encTr z]) (fun z => TreeOk z) (fun _ => 2) (fun z d => ∃ cs, d = plD C cs z)
theorem ok_l_plural (T : Txt K w mg) : FnOk P w K mg base CX0 200 T.l_plural.f T.l_plural.fd P_l_plural (spG K (Drw_plural T.cPlural)) := by
  refine okDrw T.l_plural.F sc_l_plural (fun x => rfl) fun cdv A outer s H E t p deep seed cnt hr pre so hb => ?_
  have pre : TreeOk t := pre
  have hb : cnt + 2 ≤ 1000000 := hb
  have hu := hu_of hr
  have hht : ht t ≤ 8 := pre.g.h
  have h17 : 2 * ht t < 17 := by omega
  refine ⟨_, (pss_cons (ps_set (i := 2) sc_l_plural.nd rfl (.inl rfl) (pe_call (ok_l_written T) (hr.mono (by omega)) (by rfl) T.l_written.m T.l_written.F.kp T.l_written.b .nil pass0 (pa_cons (pv 1) pa_nil)))
        (pss_cons (ps_if (pt_cmpR op_eq (pe_call (ok_l_draw T) (hr.mono (by omega)) (by rfl) T.l_draw.m T.l_draw.F.kp T.l_draw.b .nil pass0 (pa_cons (pv 0) (pa_cons pe_int pa_nil))) pe_int (nomark _)) (pss_one (ps_setLc (i := 2) (own := [("_law_code", 3)]) (by rfl) sc_l_plural.nd rfl rfl (sw_true rfl rfl rfl (by decide +kernel)) (pi_seq (pv 2)) (blkOk_by (own := [("_law_code", 3)]) (N := N_l_plural) (sc := defScope s_l_plural) (by decide +kernel)) (fun _ _ _ _ _ => (pg_name (i := 3) sc_l_plural.nd rfl (.inl rfl))) (fun _ _ _ _ _ => (pts_one (pt_cmpR op_ne (pv 3) pe_int (nomark _)))) (fun _ _ _ _ _ => (pv 3)))) pss_nil)
        (pss_one (ps_ret (pe_make T.mkPlural (ok_Plural_init T) (hr.mono (by omega)) (by rfl) T.gPlural T.Plural_init.b .nil pass0 (pa_cons (pe_call (ok_l_handed T) (hr.mono (by omega)) (by rfl) T.l_handed.m T.l_handed.F.kp T.l_handed.b .nil pass0 (pa_cons (pv 0) (pa_cons (pv 2) pa_nil))) pa_nil)))))), ?_⟩
  try dsimp only [cx_K, cx_w]
  refine ws_rho (ρ' := [some _, some _, none, none]) rfl ?_
  walk_at "go"
  refine ⟨⟨pre.nb, Nat.le_trans pre.len (by decide), h17⟩, ?_⟩
  walk_at "nm"
  refine ws_seqE (fun ρ' R' => ∃ (cs : List Nat) (b : Bool) (dp c : Int), ρ' = [some (.v (.ref p)), some (.d (encTr t)), some (.d (srcD cs b)), none] ∧ R' = [srcR p dp seed c] ∧ SrcOk dp seed c ∧ c ≤ cnt + 1 ∧ LxS cs (wi t 0) ∧ cs.length ≤ 1000) ?_ fun ρ1 R1 ⟨cs, b, dp1, c1, q1, q2, so1, hc1, lx, ln⟩ => ?_
  · refine ws_if (wt_test (we_opc (we_drw ?_)))
    walk_at "go"
    refine ⟨rfl, 3, rfl, ⟨by decide, by decide⟩, so, by show cnt + 1 ≤ 1000000; omega, fun d dp5 c5 ⟨i5, e5, hi5⟩ so5 hc5 => ?_⟩
    subst e5
    have hc5 : c5 ≤ cnt + 1 := hc5
    refine we_cI (fEq.i ⟨_, rfl, fun _ => ?_, fun _ => ?_⟩)
    · refine ws_set (we_lcF (wrS [32] t) (fun c => D.int (c : Nat)) noSp (fun c => D.int (c : Nat)) (Nat.le_trans pre.len (by decide)) (wi_seq ?_))
      walk_at "go"
      refine ⟨_, fSeq.t, rfl, fun x hx => ?_, ?_⟩
      · walk_at "nm"
        walk_at "c1"
        walk_at "nm"
        walk_at "go"
        refine ⟨?_, rfl, fun _ => ?_⟩
        · unfold noSp
          rw [Bool.xor_true]
          by_cases e : x = 32
          · subst e; rfl
          · rw [decide_eq_true e, decide_eq_false (by omega)]
            rfl
        · walk_at "go"
          exact ⟨rfl, rfl⟩
      · rw [filt_wrS]
        have hl0 : (wrS [] t).length ≤ 1000 := by
          rw [← filt_wrS]
          exact Nat.le_trans (List.length_filter_le _ _) pre.len
        exact ⟨wrS [] t, true, dp5, c5, rfl, rfl, so5, hc5, text_lex ⟨0, rfl⟩ t, hl0⟩
    · exact ws_next ⟨wrS [32] t, false, dp5, c5, rfl, rfl, so5, hc5, text_lex ⟨1, rfl⟩ t, pre.len⟩
  subst q1
  subst q2
  refine ws_ret (we_frzO (we_make1 (wa_cons (we_drw ?_))))
  walk_at "go"
  refine ⟨rfl, (cs, b), rfl, trivial, so1, by show c1 + 1 ≤ 1000000; omega, fun d dp2 c2 ⟨b2, e2⟩ so2 hc2 => ?_⟩
  subst e2
  have hc2 : c2 ≤ c1 + 1 := hc2
  refine wa_nil ⟨(cs, b2, t), rfl, rfl, ⟨lx, ln, nb_nnum t pre.nb, hht⟩, fun q dq d fs' ⟨e3, e4⟩ => ⟨e3, ?_⟩⟩
  subst e4
  exact ⟨q, T.cPlural, dq, _, _, rfl, rfl, _, rfl, dp2, c2, rfl, ⟨cs, rfl⟩, so2, by show c2 ≤ cnt + 2; omega⟩
end
section
variable {P : Program} {w : World} {K : PySem.W.Frag} {mg : Str → Option Value} {base : Heap}
/-! ### the same things -/
theorem we_isi1 {ρ : AE} {R : RS} {i : Nat} {d : D} {T0 U : String} {b : Bool} {Φ : AV → RS → Prop} (h1 : ρ[i]? = some (some (.d d))) (h2 : tyD d = some T0) (h3 : kitB T0 U = some b) (q : Φ (.d (.bl b)) R) : WE K (tCB (rIsiA K) (tCons (tVar i) (tCons (tC (.ty U)) tNil))) ρ R Φ :=
  we_cbc (wa_cons (we_var h1 (wa_cons (we_c (wa_nil (fIsi.one h2 h3 q))))))
abbrev SIn := (Option Int × Int) ⊕ ((Int × Int) × (Int × Int))
def sArg : SIn → List D
  | .inl z => [encO z.1, .int z.2]
  | .inr z => [encV z.1, encV z.2]
def sOut : SIn → Bool
  | .inl z => decide (z.1 = some z.2)
  | .inr z => decide (z.1 = z.2)
def sLev : SIn → Nat
  | .inl _ => 0
  | .inr _ => 1
abbrev Det_sameH (n : Nat) : FT := Det sArg (fun z => sLev z < n) (fun z => .bl (sOut z))
theorem rc_l_same (T : Txt K w mg) : ∀ n, FnOk P w K mg base CX0 (n + 1) T.l_same.f T.l_same.fd P_l_same (spG K (Det_sameH n)) := by
  intro n
  induction n with
  | zero => exact okDet T.l_same.F sc_l_same (fun x => by cases x <;> rfl) fun cdv A outer s H E z hr pre => absurd pre (Nat.not_lt_zero _)
  | succ n ih_l_same =>
    refine okDet T.l_same.F sc_l_same (fun x => by cases x <;> rfl) fun cdv A outer s H E z hr pre => ?_
    have pre : sLev z < n + 1 := pre
    have hu := hu_of hr
    cases z with
    | inl z =>
      obtain ⟨o, d⟩ := z
      refine ⟨_, (pss_cons (ps_if (pt_val (pe_callB cl_isi (by rfl) T.b_isinstance (by decide +kernel) (pa_cons (pv 1) (pa_cons (pe_tup (pa_cons (pe_bltn (v := .ty "list") (by rfl) T.b_list (by decide +kernel) rfl) (pa_cons (pe_bltn (v := .ty "tuple") (by rfl) T.b_tuple (by decide +kernel) rfl) pa_nil))) pa_nil)))) (pss_cons (ps_if (PW.pt (pw_or (pt_cmpR op_ne (pe_callB cl_isi (by rfl) T.b_isinstance (by decide +kernel) (pa_cons (pv 0) (pa_cons (pe_bltn (v := .ty "list") (by rfl) T.b_list (by decide +kernel) rfl) pa_nil))) (pe_callB cl_isi (by rfl) T.b_isinstance (by decide +kernel) (pa_cons (pv 1) (pa_cons (pe_bltn (v := .ty "list") (by rfl) T.b_list (by decide +kernel) rfl) pa_nil))) (nomark _)) (pw_or1 (pt_cmpR op_ne (pe_callB cl_isi (by rfl) T.b_isinstance (by decide +kernel) (pa_cons (pv 0) (pa_cons (pe_bltn (v := .ty "tuple") (by rfl) T.b_tuple (by decide +kernel) rfl) pa_nil))) (pe_callB cl_isi (by rfl) T.b_isinstance (by decide +kernel) (pa_cons (pv 1) (pa_cons (pe_bltn (v := .ty "tuple") (by rfl) T.b_tuple (by decide +kernel) rfl) pa_nil))) (nomark _))))) (pss_one (ps_ret pe_bl)) pss_nil)
            (pss_one (ps_ret (pe_and (pe_cmpR op_eq (pe_callB cl_len (by rfl) T.b_len (by decide +kernel) (pa_cons (pv 0) pa_nil)) (pe_callB cl_len (by rfl) T.b_len (by decide +kernel) (pa_cons (pv 1) pa_nil)) (nomark _)) (pe_one (pe_callB (cl_all rfl) (by rfl) T.b_all (by decide +kernel) (pa_cons (pe_lc (own := [("_law_one", 2), ("_law_two", 3)]) (by rfl) sc_l_same.nd (RZ.pi_zipA (by rfl) T.b_zip (pa_cons (pv 0) (pa_cons (pv 1) pa_nil))) (blkOk_by (own := [("_law_one", 2), ("_law_two", 3)]) (N := N_l_same) (sc := defScope s_l_same) (by decide +kernel)) (fun _ _ _ _ _ => (pg_tupK (K := K) rfl (n := 2) rfl (pgs_cons (pg_name (i := 2) sc_l_same.nd rfl (.inl rfl)) (pgs_cons (pg_name (i := 3) sc_l_same.nd rfl (.inl rfl)) pgs_nil)))) (fun _ _ _ _ _ => pts_nil) (fun _ _ _ _ _ => (pe_call ih_l_same (hr.mono (by omega)) (by rfl) T.l_same.m T.l_same.F.kp T.l_same.b .nil pass0 (pa_cons (pv 2) (pa_cons (pv 3) pa_nil))))) pa_nil))))))) pss_nil)
            (pss_cons (ps_if (pt_val (pe_callB cl_isi (by rfl) T.b_isinstance (by decide +kernel) (pa_cons (pv 1) (pa_cons (pe_tup (pa_cons (pe_bltn (v := .ty "bool") (by rfl) T.b_bool (by decide +kernel) rfl) (pa_cons (pe_bltn (v := .ty "int") (by rfl) T.b_int (by decide +kernel) rfl) pa_nil))) pa_nil)))) (pss_one (ps_ret (pe_and (pe_callB cl_isi (by rfl) T.b_isinstance (by decide +kernel) (pa_cons (pv 0) (pa_cons (pe_bltn (v := .ty "int") (by rfl) T.b_int (by decide +kernel) rfl) pa_nil))) (pe_and (pe_cmpR op_eq (pe_callB cl_isi (by rfl) T.b_isinstance (by decide +kernel) (pa_cons (pv 0) (pa_cons (pe_bltn (v := .ty "bool") (by rfl) T.b_bool (by decide +kernel) rfl) pa_nil))) (pe_callB cl_isi (by rfl) T.b_isinstance (by decide +kernel) (pa_cons (pv 1) (pa_cons (pe_bltn (v := .ty "bool") (by rfl) T.b_bool (by decide +kernel) rfl) pa_nil))) (nomark _)) (pe_one (pe_cmpR op_eq (pv 0) (pv 1) (nomark _))))))) pss_nil)
            (pss_one (ps_ret (pe_and (pe_not (pe_callB cl_isi (by rfl) T.b_isinstance (by decide +kernel) (pa_cons (pv 0) (pa_cons (pe_tup (pa_cons (pe_bltn (v := .ty "bool") (by rfl) T.b_bool (by decide +kernel) rfl) (pa_cons (pe_bltn (v := .ty "list") (by rfl) T.b_list (by decide +kernel) rfl) (pa_cons (pe_bltn (v := .ty "tuple") (by rfl) T.b_tuple (by decide +kernel) rfl) pa_nil)))) pa_nil)))) (pe_one (pe_cmpR op_eq (pv 0) (pv 1) (nomark _)))))))), ?_⟩
      try dsimp only [cx_K, cx_w]
      refine ws_rho (ρ' := [some _, some _, none, none]) rfl ?_
      refine ws_rho (ρ' := [some (.d (encO o)), some (.d (.int d)), none, none]) rfl ?_
      refine ws_seq (ws_if (wt_test (we_isi2 (we_var rfl ⟨_, _, false, false, rfl, rfl, rfl, rfl, _, rfl, fun e => (by cases e), fun _ => ?_⟩))))
      refine ws_next (ws_seq (ws_if (wt_test (we_isi2 (we_var rfl ⟨_, _, false, true, rfl, rfl, rfl, rfl, _, rfl, fun _ => ?_, fun e => (by cases e)⟩)))))
      cases o with
      | none =>
        exact ws_ret (we_andV (we_isi1 rfl rfl rfl ⟨_, rfl, fun e => (by cases e), fun _ => ⟨rfl, rfl⟩⟩))
      | some o =>
        refine ws_ret (we_andV (we_isi1 rfl rfl rfl ⟨_, rfl, fun _ => ?_, fun e => (by cases e)⟩))
        refine we_andV (we_opc (we_isi1 rfl rfl rfl (we_isi1 rfl rfl rfl (fEq.b ⟨_, rfl, fun _ => ?_, fun e => (by cases e)⟩))))
        walk_at "go"
        refine ⟨?_, rfl⟩
        rw [Bool.xor_false]
        show AV.d (.bl _) = AV.d (.bl (decide (some o = some d)))
        congr 2
        exact decide_eq_decide.mpr ⟨fun e => by rw [e], fun e => Option.some.inj e⟩
    | inr z =>
      obtain ⟨⟨a, b⟩, ⟨c, d⟩⟩ := z
      have pre : 1 < n + 1 := pre
      refine ⟨_, (pss_cons (ps_if (pt_val (pe_callB cl_isi (by rfl) T.b_isinstance (by decide +kernel) (pa_cons (pv 1) (pa_cons (pe_tup (pa_cons (pe_bltn (v := .ty "list") (by rfl) T.b_list (by decide +kernel) rfl) (pa_cons (pe_bltn (v := .ty "tuple") (by rfl) T.b_tuple (by decide +kernel) rfl) pa_nil))) pa_nil)))) (pss_cons (ps_if (PW.pt (pw_or (pt_cmpR op_ne (pe_callB cl_isi (by rfl) T.b_isinstance (by decide +kernel) (pa_cons (pv 0) (pa_cons (pe_bltn (v := .ty "list") (by rfl) T.b_list (by decide +kernel) rfl) pa_nil))) (pe_callB cl_isi (by rfl) T.b_isinstance (by decide +kernel) (pa_cons (pv 1) (pa_cons (pe_bltn (v := .ty "list") (by rfl) T.b_list (by decide +kernel) rfl) pa_nil))) (nomark _)) (pw_or1 (pt_cmpR op_ne (pe_callB cl_isi (by rfl) T.b_isinstance (by decide +kernel) (pa_cons (pv 0) (pa_cons (pe_bltn (v := .ty "tuple") (by rfl) T.b_tuple (by decide +kernel) rfl) pa_nil))) (pe_callB cl_isi (by rfl) T.b_isinstance (by decide +kernel) (pa_cons (pv 1) (pa_cons (pe_bltn (v := .ty "tuple") (by rfl) T.b_tuple (by decide +kernel) rfl) pa_nil))) (nomark _))))) (pss_one (ps_ret pe_bl)) pss_nil)
            (pss_one (ps_ret (pe_and (pe_cmpR op_eq (pe_callB cl_len (by rfl) T.b_len (by decide +kernel) (pa_cons (pv 0) pa_nil)) (pe_callB cl_len (by rfl) T.b_len (by decide +kernel) (pa_cons (pv 1) pa_nil)) (nomark _)) (pe_one (pe_callB (cl_all rfl) (by rfl) T.b_all (by decide +kernel) (pa_cons (pe_lc (own := [("_law_one", 2), ("_law_two", 3)]) (by rfl) sc_l_same.nd (RZ.pi_zipA (by rfl) T.b_zip (pa_cons (pv 0) (pa_cons (pv 1) pa_nil))) (blkOk_by (own := [("_law_one", 2), ("_law_two", 3)]) (N := N_l_same) (sc := defScope s_l_same) (by decide +kernel)) (fun _ _ _ _ _ => (pg_tupK (K := K) rfl (n := 2) rfl (pgs_cons (pg_name (i := 2) sc_l_same.nd rfl (.inl rfl)) (pgs_cons (pg_name (i := 3) sc_l_same.nd rfl (.inl rfl)) pgs_nil)))) (fun _ _ _ _ _ => pts_nil) (fun _ _ _ _ _ => (pe_call ih_l_same (hr.mono (by omega)) (by rfl) T.l_same.m T.l_same.F.kp T.l_same.b .nil pass0 (pa_cons (pv 2) (pa_cons (pv 3) pa_nil))))) pa_nil))))))) pss_nil)
            (pss_cons (ps_if (pt_val (pe_callB cl_isi (by rfl) T.b_isinstance (by decide +kernel) (pa_cons (pv 1) (pa_cons (pe_tup (pa_cons (pe_bltn (v := .ty "bool") (by rfl) T.b_bool (by decide +kernel) rfl) (pa_cons (pe_bltn (v := .ty "int") (by rfl) T.b_int (by decide +kernel) rfl) pa_nil))) pa_nil)))) (pss_one (ps_ret (pe_and (pe_callB cl_isi (by rfl) T.b_isinstance (by decide +kernel) (pa_cons (pv 0) (pa_cons (pe_bltn (v := .ty "int") (by rfl) T.b_int (by decide +kernel) rfl) pa_nil))) (pe_and (pe_cmpR op_eq (pe_callB cl_isi (by rfl) T.b_isinstance (by decide +kernel) (pa_cons (pv 0) (pa_cons (pe_bltn (v := .ty "bool") (by rfl) T.b_bool (by decide +kernel) rfl) pa_nil))) (pe_callB cl_isi (by rfl) T.b_isinstance (by decide +kernel) (pa_cons (pv 1) (pa_cons (pe_bltn (v := .ty "bool") (by rfl) T.b_bool (by decide +kernel) rfl) pa_nil))) (nomark _)) (pe_one (pe_cmpR op_eq (pv 0) (pv 1) (nomark _))))))) pss_nil)
            (pss_one (ps_ret (pe_and (pe_not (pe_callB cl_isi (by rfl) T.b_isinstance (by decide +kernel) (pa_cons (pv 0) (pa_cons (pe_tup (pa_cons (pe_bltn (v := .ty "bool") (by rfl) T.b_bool (by decide +kernel) rfl) (pa_cons (pe_bltn (v := .ty "list") (by rfl) T.b_list (by decide +kernel) rfl) (pa_cons (pe_bltn (v := .ty "tuple") (by rfl) T.b_tuple (by decide +kernel) rfl) pa_nil)))) pa_nil)))) (pe_one (pe_cmpR op_eq (pv 0) (pv 1) (nomark _)))))))), ?_⟩
      try dsimp only [cx_K, cx_w]
      refine ws_rho (ρ' := [some _, some _, none, none]) rfl ?_
      refine ws_rho (ρ' := [some (.d (.tup [.int a, .int b])), some (.d (.tup [.int c, .int d])), none, none]) rfl ?_
      refine ws_seq (ws_if (wt_test (we_isi2 (we_var rfl ⟨_, _, false, true, rfl, rfl, rfl, rfl, _, rfl, fun _ => ?_, fun e => (by cases e)⟩))))
      refine ws_seq (ws_if (wt_or (wt_test (we_opc (we_isi1 rfl rfl rfl (we_isi1 rfl rfl rfl (fEq.b ⟨_, rfl, fun e => (by cases e), fun _ => ?_⟩)))))))
      refine wt_test (we_opc (we_isi1 rfl rfl rfl (we_isi1 rfl rfl rfl (fEq.b ⟨_, rfl, fun e => (by cases e), fun _ => ?_⟩))))
      refine ws_next (ws_ret (we_andV ?_))
      walk_at "go"
      refine we_lcM [(a, c), (b, d)] (fun p => D.tup [.int p.1, .int p.2]) (fun p => .bl (decide (p.1 = p.2))) (Nat.le_of_ble_eq_true rfl) (wi_zipT ?_)
      walk_at "go"
      refine ⟨rfl, rfl, fun x hx => ?_, ?_⟩
      · walk_at "nm"
        walk_at "c2"
        walk_at "nm"
        refine wt_yes ⟨rfl, ?_⟩
        walk_at "go"
        refine ⟨.inl (some x.1, x.2), rfl, by show 0 < n; omega, ?_, rfl⟩
        show AV.d (.bl (decide (some x.1 = some x.2))) = AV.d (.bl (decide (x.1 = x.2)))
        congr 2
        exact decide_eq_decide.mpr ⟨fun e => Option.some.inj e, fun e => by rw [e]⟩
      · walk_at "go"
        refine fAll.i (bs := [decide (a = c), decide (b = d)]) ⟨?_, rfl⟩
        show AV.d (.bl _) = AV.d (.bl (decide ((a, b) = (c, d))))
        congr 2
        by_cases h1 : a = c
        · by_cases h2 : b = d
          · rw [h1, h2]; simp
          · simp [h2]
        · simp [h1]
abbrev Det_l_same : FT := Det_sameH 2
theorem ok_l_same (T : Txt K w mg) : FnOk P w K mg base CX0 3 T.l_same.f T.l_same.fd P_l_same (spG K Det_l_same) := rc_l_same T 2
/-! tails, pattern -/
def begM (t : Tr) (last : Int) : Int := (last / (spanM t : Int) + 1) * (spanM t : Int)
def tl1 (t : Tr) (b : Int) : List Int := (List.range (spanM t)).map fun k : Nat => valM t (b + (k : Int))
def tlD2 (t : Tr) (last : Int) : D := if tl1 t (begM t last) = tl1 t (begM t last + (spanM t : Int)) then .lst ((tl1 t (begM t last)).map .int) else .non
theorem we_vals {T : Txt K w mg} {ρ : AE} {Φ : AV → RS → Prop} {t : Tr} {b : Int} (g : GoodT t) (hb : Bd 9000 b) {te : TE}
    (h0 : ρ[2]? = some (some (.d (.int (spanM t : Nat)))))
    (ht0 : (awipe ρ [6])[0]? = some (some (.d (encTr t))))
    (h1 : ∀ (k : Nat) (ρ2 : AE) (Ψ : AV → RS → Prop), ρ2 = (awipe ρ [6]).set 6 (some (.d (.int (k : Nat)))) → Ψ (.d (.int (b + (k : Int)))) [] → WE K te ρ2 [] Ψ)
    (q : Φ (.d (.lst ((tl1 t b).map .int))) []) : WE K (tLc (iRng1 (tCons (tVar 2) tNil)) (gName 6) tYes (tCall (spG K Det_l_value) [] E0 (tCons (tVar 0) (tCons te tNil))) [6]) ρ [] Φ := by
  have hs2 := g.sp0
  have hht := g.h
  have hsz := g.e
  refine we_lcM (List.range (spanM t)) (fun (i : Nat) => D.int (i : Nat)) (fun k => .int (valM t (b + (k : Int)))) (by rw [List.length_range]; omega) (wi_rngN h0 (by omega) ⟨rfl, fun k hk => ?_, ?_⟩)
  · have hk := List.mem_range.mp hk
    walk_at "c1"
    refine wt_yes ⟨rfl, we_callD (wa_cons (we_var (i := 0) ?_ (wa_cons (h1 k _ _ rfl (wa_nil ⟨(t, b + (k : Int)), rfl, ⟨g.lin, g.sp, hsz, ?_, ?_⟩, rfl, rfl⟩)))))⟩
    · rw [List.getElem?_set_ne (by decide)]
      exact ht0
    · have bk : Bd 9000 (k : Int) := Bd.mono (k := 9000) (Bd.nat (show k < 2 ^ 4 by omega)) (by omega)
      exact (hb.add bk).mono (by omega)
    · show ht t < 9
      omega
  · rw [show (List.range (spanM t)).map (fun k : Nat => D.int (valM t (b + (k : Int)))) = (tl1 t b).map .int by unfold tl1; rw [List.map_map]; rfl]
    exact q
abbrev Det_l_tails : FT := Det (fun z : Tr × Int => [encTr z.1, .int z.2]) (fun z => GoodT z.1 ∧ Bd 8000 z.2) (fun z => tlD2 z.1 z.2)
theorem ok_l_tails (T : Txt K w mg) : FnOk P w K mg base CX0 14 T.l_tails.f T.l_tails.fd P_l_tails (spG K Det_l_tails) := by
  refine okDet T.l_tails.F sc_l_tails (fun x => rfl) fun cdv A outer s H E z hr pre => ?_
  obtain ⟨t, last⟩ := z
  obtain ⟨g, hb⟩ := pre
  have g : GoodT t := g
  have hb : Bd 8000 last := hb
  have hu := hu_of hr
  have hl := g.lin
  have hs := span_pos t hl
  have hs2 := g.sp0
  have hht := g.h
  have hS : (0 : Int) < (spanM t : Nat) := by omega
  have bS : Bd 10 ((spanM t : Nat) : Int) := Bd.nat (show spanM t < 2 ^ 10 by omega)
  have b1 : Bd 8001 (last / (spanM t : Int) + 1) := (hb.div hS).add (Bd.one (by omega))
  have b2 : Bd 8011 (begM t last) := b1.mul bS
  have b3 : Bd 9000 (begM t last + (spanM t : Int)) := (b2.add (bS.mono (by omega))).mono (by omega)
  refine ⟨_, (pss_cons (ps_set (i := 2) sc_l_tails.nd rfl (.inr rfl) (pe_call (ok_l_span T) (hr.mono (by omega)) (by rfl) T.l_span.m T.l_span.F.kp T.l_span.b .nil pass0 (pa_cons (pv 0) pa_nil)))
        (pss_cons (ps_set (i := 3) sc_l_tails.nd rfl (.inr rfl) (pe_op op_mulW (pe_op op_plus (pe_op op_fdivW (pv 1) (pv 2)) pe_int) (pv 2)))
        (pss_cons (ps_setLc (i := 4) (own := [("_law_k", 6)]) (by rfl) sc_l_tails.nd rfl rfl (sw_true rfl rfl rfl (by decide +kernel)) (pi_range1 (by rfl) T.b_range (pa_cons (pv 2) pa_nil)) (blkOk_by (own := [("_law_k", 6)]) (N := N_l_tails) (sc := defScope s_l_tails) (by decide +kernel)) (fun _ _ _ _ _ => (pg_name (i := 6) sc_l_tails.nd rfl (.inl rfl))) (fun _ _ _ _ _ => pts_nil) (fun _ _ _ _ _ => (pe_call (ok_l_value T) (hr.mono (by omega)) (by rfl) T.l_value.m T.l_value.F.kp T.l_value.b .nil pass0 (pa_cons (pv 0) (pa_cons (pe_op (op_plusK (K := K) rfl) (pv 3) (pv 6)) pa_nil)))))
        (pss_cons (ps_setLc (i := 5) (own := [("_law_k", 6)]) (by rfl) sc_l_tails.nd rfl rfl (sw_true rfl rfl rfl (by decide +kernel)) (pi_range1 (by rfl) T.b_range (pa_cons (pv 2) pa_nil)) (blkOk_by (own := [("_law_k", 6)]) (N := N_l_tails) (sc := defScope s_l_tails) (by decide +kernel)) (fun _ _ _ _ _ => (pg_name (i := 6) sc_l_tails.nd rfl (.inl rfl))) (fun _ _ _ _ _ => pts_nil) (fun _ _ _ _ _ => (pe_call (ok_l_value T) (hr.mono (by omega)) (by rfl) T.l_value.m T.l_value.F.kp T.l_value.b .nil pass0 (pa_cons (pv 0) (pa_cons (pe_op (op_plusK (K := K) rfl) (pe_op (op_plusK (K := K) rfl) (pv 3) (pv 2)) (pv 6)) pa_nil)))))
        (pss_one (ps_ret (pe_ifExp (pt_cmpR (op_eqD hr.units) (pv 4) (pv 5) (nomark _)) (pv 4) pe_non))))))), ?_⟩
  try dsimp only [cx_K, cx_w]
  refine ws_rho (ρ' := [some _, some _, none, none, none, none, none]) rfl ?_
  walk_at "go"
  refine ⟨⟨hl, by omega, by omega⟩, ?_⟩
  walk_at "go"
  refine fI2c.i (divOk bS hS (by omega) (by omega)) ?_
  walk_at "go"
  refine fI2c.i (mulOk b1 bS (by omega) (by omega) (by omega)) ?_
  walk_at "nm"
  refine ws_rho (ρ' := [some (.d (encTr t)), some (.d (.int last)), some (.d (.int (spanM t : Nat))), some (.d (.int (begM t last))), none, none, none]) rfl ?_
  unfold tlD2
  generalize begM t last = B at b2 b3
  refine ws_seq (ws_set (we_vals (T := T) g (b2.mono (by omega)) rfl rfl (fun k ρ2 Ψ e h => ?_) ?_))
  · subst e
    exact we_opc (we_var rfl (we_var rfl (fPlus.i h)))
  walk_at "nm"
  refine ws_seq (ws_set (we_vals (T := T) g b3 rfl rfl (fun k ρ2 Ψ e h => ?_) ?_))
  · subst e
    exact we_opc (we_opc (we_var rfl (we_var rfl (fPlus.i (we_var rfl (fPlus.i h))))))
  walk_at "nm"
  walk_at "go"
  refine fEqD.l ?_
  walk_at "go"
  refine ⟨fun h => ?_, fun h => ?_⟩
  · rw [Bool.xor_false] at h
    rw [if_pos (of_decide_eq_true h)]
    walk_at "go"
    exact ⟨rfl, rfl⟩
  · rw [Bool.xor_false] at h
    rw [if_neg (of_decide_eq_false h)]
    walk_at "go"
    exact ⟨rfl, rfl⟩
abbrev NoShift (z : List Int) : Prop := ∀ k, 0 < k → k < z.length → ∃ j, j < z.length ∧ z.getD j 0 ≠ z.getD ((j + k) % z.length) 0
abbrev Det_l_pattern : FT := Det (fun z : List Int => [.lst (z.map .int)]) (fun z => 0 < z.length ∧ z.length ≤ 12 ∧ NoShift z) (fun z => .tup (z.map .int))
theorem ok_l_pattern (T : Txt K w mg) : FnOk P w K mg base CX0 1 T.l_pattern.f T.l_pattern.fd P_l_pattern (spG K Det_l_pattern) := by
  refine okDet T.l_pattern.F sc_l_pattern (fun x => rfl) fun cdv A outer s H E z hr pre => ?_
  obtain ⟨z0, z12, no⟩ := pre
  have hu := hu_of hr
  refine ⟨_, (pss_cons (ps_set (i := 1) sc_l_pattern.nd rfl (.inr rfl) (pe_callB cl_len (by rfl) T.b_len (by decide +kernel) (pa_cons (pv 0) pa_nil)))
        (pss_cons (ps_for PassesOwn.never rfl (pi_range2A (by rfl) T.b_range (pa_cons pe_int (pa_cons (pv 1) pa_nil))) (pg_name (i := 2) sc_l_pattern.nd rfl (.inr rfl)) (pss_one (ps_if (pt_val (pe_callB (cl_all rfl) (by rfl) T.b_all (by decide +kernel) (pa_cons (pe_lc (own := [("_law_k", 3)]) (by rfl) sc_l_pattern.nd (pi_range1 (by rfl) T.b_range (pa_cons (pv 1) pa_nil)) (blkOk_by (own := [("_law_k", 3)]) (N := N_l_pattern) (sc := defScope s_l_pattern) (by decide +kernel)) (fun _ _ _ _ _ => (pg_name (i := 3) sc_l_pattern.nd rfl (.inl rfl))) (fun _ _ _ _ _ => pts_nil) (fun _ _ _ _ _ => (pe_cmpR op_eq (pe_ix (ix_seqK (K := K) rfl) (pv 0) (pv 3) (fun _ _ => rfl)) (pe_ix (ix_seqK (K := K) rfl) (pv 0) (pe_op op_mod (pe_op (op_plusK (K := K) rfl) (pv 3) (pv 2)) (pv 1)) (fun _ _ => rfl)) (nomark _)))) pa_nil))) (pss_one (ps_ret (pe_callTy cl_tup (by rfl) T.b_tuple (by decide +kernel) (pa_cons (pe_slice sl_any (pv 0) po_none (po_some (pv 2))) pa_nil)))) pss_nil)))
        (pss_one (ps_ret (pe_callTy cl_tup (by rfl) T.b_tuple (by decide +kernel) (pa_cons (pv 0) pa_nil)))))), ?_⟩
  try dsimp only [cx_K, cx_w]
  refine ws_rho (ρ' := [some _, none, none, none]) rfl ?_
  walk_at "go"
  rw [List.length_map]
  walk_at "nm"
  refine ws_forB (List.range (z.length - 1)) (fun (i : Nat) => D.int (1 + (i : Int))) (fun (_ : Unit) (_ : Nat) => ()) () [2, 3] (fun _ => [some (.d (.lst (z.map .int))), some (.d (.int (z.length : Nat))), none, none]) (fun _ => []) ?_ rfl (fun pre2 i post b e1 e2 => ?_) ?_
  · refine wi_rng2A ?_
    walk_at "go"
    refine ⟨?_, rfl⟩
    rw [show ((z.length : Nat) : Int) - 1 = ((z.length - 1 : Nat) : Int) by omega, Int.toNat_natCast]
  · have hi : i < z.length - 1 := List.mem_range.mp (by rw [e1]; simp)
    clear e1 e2
    have hzp : (0 : Int) < (z.length : Nat) := by omega
    walk_at "g1"
    walk_at "nm"
    rw [show (1 : Int) + (i : Int) = ((1 + i : Nat) : Int) by omega]
    obtain ⟨j, hj, hne⟩ := no (1 + i) (by omega) (by omega)
    refine ws_if (wt_cut false ?_ ⟨fun e => (by cases e), fun _ => ws_next ⟨rfl, rfl⟩⟩)
    refine wt_B (we_cbc (wa_cons (we_cut (.d (.lst (((List.range z.length).map fun k => decide (z.getD k 0 = z.getD ((k + (1 + i)) % z.length) 0)).map .bl))) ?_ ?_)))
    · refine we_lcM (List.range z.length) (fun (k : Nat) => D.int (k : Nat)) (fun k => .bl (decide (z.getD k 0 = z.getD ((k + (1 + i)) % z.length) 0))) (by rw [List.length_range]; omega) (wi_rngN rfl (by omega) ⟨rfl, fun k hk => ?_, ?_⟩)
      · have hk := List.mem_range.mp hk
        walk_at "nm"
        walk_at "c1"
        walk_at "nm"
        refine wt_yes ⟨rfl, ?_⟩
        walk_at "go"
        refine fIx.l (getD_int hk) ?_
        walk_at "go"
        refine fI2c.i hzp ?_
        rw [show ((k : Int) + ((1 + i : Nat) : Int)) % (z.length : Int) = (((k + (1 + i)) % z.length : Nat) : Int) from rfl]
        refine fIx.l (getD_int (Nat.mod_lt _ z0)) ?_
        walk_at "go"
        rw [Bool.xor_false]
        exact ⟨rfl, rfl⟩
      · rw [List.map_map]
        exact ⟨rfl, rfl⟩
    · refine wa_nil (fAll.i ⟨_, rfl, ?_, rfl⟩)
      rw [List.all_map]
      refine Bool.eq_false_iff.mpr fun h => hne ?_
      exact of_decide_eq_true (List.all_eq_true.mp h j (List.mem_range.mpr hj))
  · walk_at "go"
    refine fTup.l ?_
    exact ⟨rfl, rfl⟩
end
section
/-! ### bounds of what is found, plain -/
theorem fvR_cnd {t : Tr} : ∀ p ∈ fvR t, p ∈ cnd (spanM t) (classesM t (spanM t)) := fun p hp => by
  unfold fvR at hp
  obtain ⟨l, hl, rfl⟩ := List.mem_map.mp hp
  have hl := (List.mergeSort_perm _ _).mem_iff.mp (List.mem_of_mem_take hl)
  obtain ⟨q, hq, rfl⟩ := List.mem_map.mp hl
  rw [fvK_eq] at hq
  have h := KInv.fold (cnd (spanM t) (classesM t (spanM t))) [] [] ⟨List.Pairwise.nil, fun p hp => (by cases hp), fun c hc => (by cases hc)⟩
  rw [List.nil_append] at h
  exact h.sub q hq
theorem fv_bd {t : Tr} (g : GoodT t) : ∀ p ∈ fvR t, Bd 9000 p.2 := fun p hp => by
  have hsp := g.sp0
  have hz := g.e
  obtain ⟨b1, b2⟩ := classes_bd t (spanM t) g.lin (Nat.dvd_refl _) (span_pos t g.lin) g.sp
  obtain ⟨q, hq, h⟩ := List.mem_flatMap.mp (fvR_cnd p hp)
  obtain ⟨st, hst, h⟩ := List.mem_flatMap.mp h
  obtain ⟨i, hi, rfl⟩ := List.mem_map.mp h
  have hi := List.mem_range.mp hi
  have hm := manyM_le st
  have hr := zipIdx_lt hq
  have h0 := stretches_bd0 (b2 q.1 (zipIdx_mem1 hq)).1 st hst
  have c1 : Bd 4001 (st.1 + (i : Int)) := (h0.mono hz).add (Bd.mono (k := 4000) (Bd.nat (show i < 2 ^ 4 by omega)) (by omega))
  have c2 : Bd 4011 ((spanM t : Int) * (st.1 + (i : Int))) := (Bd.mul (Bd.nat (show spanM t < 2 ^ 10 by omega)) c1).mono (by omega)
  have c3 : Bd 4011 (q.2 : Int) := Bd.mono (k := 4011) (Bd.nat (show q.2 < 2 ^ 10 by omega)) (by omega)
  exact (c3.add c2).mono (by omega)
theorem rest_bd {t : Tr} (g : GoodT t) {s : Int} {p : List Int} (h : restM t = some (s, p)) : Bd 9000 s ∧ p.length ≤ 12 := by
  have hsp := g.sp0
  have hz := g.e
  obtain ⟨b1, b2⟩ := classes_bd t (spanM t) g.lin (Nat.dvd_refl _) (span_pos t g.lin) g.sp
  unfold restM at h
  split at h
  · cases h
    refine ⟨?_, ?_⟩
    · obtain ⟨_, _, h3⟩ := st_fold (tlsM t) (spanM t) (classesM t (spanM t)).zipIdx 0
      unfold startM
      rcases h3 with h3 | ⟨q, hq, _, h3⟩
      · rw [h3]; exact Bd.zero
      · rw [h3]
        have hr := zipIdx_lt hq
        have c1 := luM_bd (tail := (tlsM t).getD q.2 0) ((b2 q.1 (zipIdx_mem1 hq)).1.mono hz)
        have c2 : Bd 4013 ((spanM t : Int) * luM q.1 ((tlsM t).getD q.2 0)) := (Bd.mul (Bd.nat (show spanM t < 2 ^ 10 by omega)) c1).mono (by omega)
        have c3 : Bd 4013 (q.2 : Int) := Bd.mono (k := 4013) (Bd.nat (show q.2 < 2 ^ 10 by omega)) (by omega)
        exact ((c3.add c2).add (Bd.one (by omega))).mono (by omega)
    · rw [List.length_take]
      have : (tlsM t).length = spanM t := by unfold tlsM; rw [List.length_map, b1]
      omega
  · cases h
variable {P : Program} {w : World} {K : PySem.W.Frag} {mg : Str → Option Value} {base : Heap}
theorem fEqD_nil {neg : Bool} {ps : List (Int × Int)} {k : AV → Prop} (h : k (.d (.bl (decide (ps = []) ^^ neg)))) : fEqD neg (.d (.lst (ps.map encV))) (.d (.lst [])) k := by
  have e : ps.map encV = (ps.map fun p => [p.1, p.2]).map fun (ns : List Int) => D.tup (ns.map .int) := by rw [List.map_map]; rfl
  rw [e]
  refine fEqD.n ?_
  rw [show decide ((ps.map fun p => [p.1, p.2]) = []) = decide (ps = []) from decide_eq_decide.mpr List.map_eq_nil_iff]
  exact h
abbrev Det_l_values_right : FT := Det (fun z : Tr × List (Int × Int) => [encTr z.1, .lst (z.2.map encV)]) (fun z => GoodT z.1 ∧ FV z.1 z.2 ∧ ∀ p ∈ z.2, Bd 9000 p.2) (fun _ => .bl true)
theorem ok_l_values_right (T : Txt K w mg) : FnOk P w K mg base CX0 12 T.l_values_right.f T.l_values_right.fd P_l_values_right (spG K Det_l_values_right) := by
  refine okDet T.l_values_right.F sc_l_values_right (fun x => rfl) fun cdv A outer s H E z hr pre => ?_
  obtain ⟨t, ps⟩ := z
  obtain ⟨g, fv, hbd⟩ := pre
  have g : GoodT t := g
  have fv : FV t ps := fv
  have hbd : ∀ p ∈ ps, Bd 9000 p.2 := hbd
  have hu := hu_of hr
  have hs2 := g.sp0
  have hht : ht t < 9 := by have := g.h; omega
  have l9 := fv.le9
  obtain ⟨rps, hps⟩ := fv.ne
  have vpre : ∀ n, Bd 20000 n → linM t = true ∧ spanM t ≤ 1000 ∧ szE t ≤ 4000 ∧ Bd 20000 n ∧ ht t < 9 := fun n hn => ⟨g.lin, g.sp, g.e, hn, hht⟩
  refine ⟨_, (pss_cons (ps_if (PW.pt (pw_or (pt_cmpR (op_eqD hr.units) (pv 1) (pe_lst pa_nil) (nomark _)) (pw_or1 (pt_not (pt_val (pe_call (ok_l_same T) (hr.mono (by omega)) (by rfl) T.l_same.m T.l_same.F.kp T.l_same.b .nil pass0 (pa_cons (pe_ix ix_seq (pv 1) pe_int (fun _ _ => rfl)) (pa_cons (pe_tup (pa_cons (pe_call (ok_l_value T) (hr.mono (by omega)) (by rfl) T.l_value.m T.l_value.F.kp T.l_value.b .nil pass0 (pa_cons (pv 0) (pa_cons pe_int pa_nil))) (pa_cons pe_int pa_nil))) pa_nil)))))))) (pss_one (ps_ret pe_bl)) pss_nil)
        (pss_cons (ps_set (i := 2) sc_l_values_right.nd rfl (.inr rfl) (pe_lc (own := [("_law_value_here", 6), ("_law_n", 3)]) (by rfl) sc_l_values_right.nd (pi_seq (pv 1)) (blkOk_by (own := [("_law_value_here", 6), ("_law_n", 3)]) (N := N_l_values_right) (sc := defScope s_l_values_right) (by decide +kernel)) (fun _ _ _ _ _ => (pg_tupK (K := K) rfl (n := 2) rfl (pgs_cons (pg_name (i := 6) sc_l_values_right.nd rfl (.inl rfl)) (pgs_cons (pg_name (i := 3) sc_l_values_right.nd rfl (.inl rfl)) pgs_nil)))) (fun _ _ _ _ _ => pts_nil) (fun _ _ _ _ _ => (pv 3))))
        (pss_cons (ps_if (pt_val (pe_callB (cl_any rfl) (by rfl) T.b_any (by decide +kernel) (pa_cons (pe_lc (own := [("_law_k", 7)]) (by rfl) sc_l_values_right.nd (pi_range1 (by rfl) T.b_range (pa_cons (pe_op op_sub (pe_callB cl_len (by rfl) T.b_len (by decide +kernel) (pa_cons (pv 2) pa_nil)) pe_int) pa_nil)) (blkOk_by (own := [("_law_k", 7)]) (N := N_l_values_right) (sc := defScope s_l_values_right) (by decide +kernel)) (fun _ _ _ _ _ => (pg_name (i := 7) sc_l_values_right.nd rfl (.inl rfl))) (fun _ _ _ _ _ => pts_nil) (fun _ _ _ _ _ => (pe_cmpR op_ge (pe_ix (ix_seqK (K := K) rfl) (pv 2) (pv 7) (fun _ _ => rfl)) (pe_ix (ix_seqK (K := K) rfl) (pv 2) (pe_op (op_plusK (K := K) rfl) (pv 7) pe_int) (fun _ _ => rfl)) (nomark _)))) pa_nil))) (pss_one (ps_ret pe_bl)) pss_nil)
        (pss_cons (ps_setLc (i := 4) (own := [("_law_value_here", 6), ("_law_n", 3)]) (by rfl) sc_l_values_right.nd rfl rfl (sw_true rfl rfl rfl (by decide +kernel)) (pi_seq (pv 1)) (blkOk_by (own := [("_law_value_here", 6), ("_law_n", 3)]) (N := N_l_values_right) (sc := defScope s_l_values_right) (by decide +kernel)) (fun _ _ _ _ _ => (pg_tupK (K := K) rfl (n := 2) rfl (pgs_cons (pg_name (i := 6) sc_l_values_right.nd rfl (.inl rfl)) (pgs_cons (pg_name (i := 3) sc_l_values_right.nd rfl (.inl rfl)) pgs_nil)))) (fun _ _ _ _ _ => pts_nil) (fun _ _ _ _ _ => (pv 6)))
        (pss_cons (ps_if (PW.pt (pw_or (pt_cmpR (op_neD hr.units) (pv 4) (pe_lc (own := [("_law_n", 3)]) (by rfl) sc_l_values_right.nd (pi_seq (pv 2)) (blkOk_by (own := [("_law_n", 3)]) (N := N_l_values_right) (sc := defScope s_l_values_right) (by decide +kernel)) (fun _ _ _ _ _ => (pg_name (i := 3) sc_l_values_right.nd rfl (.inl rfl))) (fun _ _ _ _ _ => pts_nil) (fun _ _ _ _ _ => (pe_call (ok_l_value T) (hr.mono (by omega)) (by rfl) T.l_value.m T.l_value.F.kp T.l_value.b .nil pass0 (pa_cons (pv 0) (pa_cons (pv 3) pa_nil))))) (nomark _)) (pw_or1 (pt_cmpR op_lt (RZ.pe_lenSetI (by rfl) T.b_len (by rfl) T.b_set (pv 4)) (pe_callB cl_len (by rfl) T.b_len (by decide +kernel) (pa_cons (pv 4) pa_nil)) (nomark _))))) (pss_one (ps_ret pe_bl)) pss_nil)
        (pss_cons (ps_for PassesOwn.never rfl (pi_range1 (by rfl) T.b_range (pa_cons pe_int pa_nil)) (pg_name (i := 3) sc_l_values_right.nd rfl (.inr rfl)) (pss_cons (ps_setLc (i := 5) (own := [("_law_value_here", 6), ("_law_first", 8)]) (by rfl) sc_l_values_right.nd rfl rfl (sw_true rfl rfl rfl (by decide +kernel)) (pi_seq (pv 1)) (blkOk_by (own := [("_law_value_here", 6), ("_law_first", 8)]) (N := N_l_values_right) (sc := defScope s_l_values_right) (by decide +kernel)) (fun _ _ _ _ _ => (pg_tupK (K := K) rfl (n := 2) rfl (pgs_cons (pg_name (i := 6) sc_l_values_right.nd rfl (.inl rfl)) (pgs_cons (pg_name (i := 8) sc_l_values_right.nd rfl (.inl rfl)) pgs_nil)))) (fun _ _ _ _ _ => (pts_one (PW.pt (pw_and (pt_cmpR op_eq (pv 6) (pe_call (ok_l_value T) (hr.mono (by omega)) (by rfl) T.l_value.m T.l_value.F.kp T.l_value.b .nil pass0 (pa_cons (pv 0) (pa_cons (pv 3) pa_nil))) (nomark _)) (pw_and1 (pt_cmpR op_le (pv 8) (pv 3) (nomark _))))))) (fun _ _ _ _ _ => (pv 8)))
        (pss_one (ps_if (PW.pt (pw_and (pt_cmpR (op_eqD hr.units) (pv 5) (pe_lst pa_nil) (nomark _)) (pw_and1 (PW.pt (pw_or (pt_cmpR op_lt (pe_callB cl_len (by rfl) T.b_len (by decide +kernel) (pa_cons (pv 1) pa_nil)) pe_int (nomark _)) (pw_or1 (pt_cmpR op_lt (pv 3) (pe_ix ix_seq (pv 2) (pe_un un_neg pe_int) (fun _ _ => rfl)) (nomark _)))))))) (pss_one (ps_ret pe_bl)) pss_nil))))
        (pss_one (ps_ret pe_bl)))))))), ?_⟩
  try dsimp only [cx_K, cx_w]
  refine ws_rho (ρ' := [some _, some _, none, none, none, none, none, none, none]) rfl ?_
  walk_at "s1"
  refine ws_if (wt_or (wt_test (we_opc (we_var rfl (we_lstS (wa_nil (fDs.mk rfl (Nat.le_of_ble_eq_true rfl) (fEqD_nil ⟨_, rfl, fun e => ?_, fun _ => ?_⟩))))))))
  · rw [hps] at e
    cases e
  refine wt_not ?_
  walk_at "go"
  refine fIx.l (d := encV (valM t 0, 0)) (by rw [hps]; exact atI_zero _ _) ?_
  walk_at "go"
  refine ⟨(t, 0), rfl, vpre 0 Bd.zero, ?_⟩
  walk_at "go"
  refine ⟨.inr ((valM t 0, 0), (valM t 0, 0)), rfl, Nat.lt_succ_self 1, _, rfl, fun e => ?_, fun _ => ?_⟩
  · rw [show sOut (.inr ((valM t 0, 0), (valM t 0, 0))) = true from decide_eq_true rfl] at e
    cases e
  refine ws_next ?_
  -- numbers
  refine ws_seq (ws_setE (.d (.lst ((ps.map (·.2)).map .int))) ?_ ?_)
  · refine we_lcM ps encV (fun p => .int p.2) (by omega) (wi_seq ?_)
    walk_at "go"
    refine ⟨_, fSeq.l, rfl, fun x hx => ?_, ?_⟩
    · walk_at "nm"
      walk_at "c2"
      walk_at "nm"
      refine wt_yes ⟨rfl, ?_⟩
      walk_at "go"
      exact ⟨rfl, rfl⟩
    · rw [List.map_map]
      exact ⟨rfl, rfl⟩
  walk_at "nm"
  have nlen : (ps.map (·.2)).length = ps.length := List.length_map _
  have nget : ∀ k, (hk : k < ps.length) → (ps.map (·.2)).getD k 0 = ps[k].2 := fun k hk => by
    rw [List.getD_eq_getElem?_getD, List.getElem?_map, List.getElem?_eq_getElem hk]
    rfl
  -- they ascend
  walk_at "s1"
  refine ws_if (wt_cut false (wt_B (we_cbc (wa_cons (we_cut (.d (.lst (((List.range (ps.length - 1)).map fun k => decide ((ps.map (·.2)).getD (k + 1) 0 ≤ (ps.map (·.2)).getD k 0)).map .bl))) ?_ ?_)))) ⟨fun e => (by cases e), fun _ => ws_next ?_⟩)
  · refine we_lcM (List.range (ps.length - 1)) (fun (k : Nat) => D.int (k : Nat)) (fun k => .bl (decide ((ps.map (·.2)).getD (k + 1) 0 ≤ (ps.map (·.2)).getD k 0))) (by rw [List.length_range]; omega) (wi_rng1 ?_)
    walk_at "go"
    rw [List.length_map, nlen]
    refine ⟨by omega, by omega, ?_, fun k hk => ?_, ?_⟩
    · rw [show ((ps.length : Nat) : Int) - 1 = ((ps.length - 1 : Nat) : Int) by rw [hps]; simp, Int.toNat_natCast]
      rfl
    · have hk := List.mem_range.mp hk
      walk_at "nm"
      walk_at "c1"
      walk_at "nm"
      refine wt_yes ⟨rfl, ?_⟩
      walk_at "go"
      refine fIx.l (getD_int (by omega)) ?_
      walk_at "go"
      rw [show (k : Int) + 1 = ((k + 1 : Nat) : Int) by omega]
      refine fIx.l (getD_int (by omega)) ?_
      walk_at "go"
      exact ⟨rfl, rfl⟩
    · rw [List.map_map]
      exact ⟨rfl, rfl⟩
  · refine wa_nil (fAny.i ⟨_, rfl, ?_, rfl⟩)
    rw [List.any_map]
    refine Bool.eq_false_iff.mpr fun h => ?_
    obtain ⟨k, hk, h⟩ := List.any_eq_true.mp h
    have hk := List.mem_range.mp hk
    have h : (ps.map (·.2)).getD (k + 1) 0 ≤ (ps.map (·.2)).getD k 0 := of_decide_eq_true h
    rw [nget k (by omega), nget (k + 1) (by omega)] at h
    have := List.pairwise_iff_getElem.mp fv.asc k (k + 1) (by omega) (by omega) (by omega)
    omega
  -- values
  refine ws_seq (ws_setE (.d (.lst ((ps.map (·.1)).map .int))) ?_ ?_)
  · refine we_lcM ps encV (fun p => .int p.1) (by omega) (wi_seq ?_)
    walk_at "go"
    refine ⟨_, fSeq.l, rfl, fun x hx => ?_, ?_⟩
    · walk_at "nm"
      walk_at "c2"
      walk_at "nm"
      refine wt_yes ⟨rfl, ?_⟩
      walk_at "go"
      exact ⟨rfl, rfl⟩
    · rw [List.map_map]
      exact ⟨rfl, rfl⟩
  walk_at "nm"
  have ve : ps.map (·.1) = (ps.map (·.2)).map (valM t) := by
    rw [List.map_map]
    exact List.map_congr_left fun p hp => (fv.val p hp).2
  have vnd : (ps.map (·.1)).Nodup := List.pairwise_map.mpr fv.dis
  walk_at "s1"
  refine ws_if (wt_or (wt_test (we_opc (we_var rfl (we_cut (.d (.lst ((ps.map (·.1)).map .int))) ?_ (fEqD.l ⟨_, rfl, fun e => ?_, fun _ => ?_⟩))))))
  · rw [ve]
    refine we_lcM (ps.map (·.2)) .int (fun n => .int (valM t n)) (by rw [nlen]; omega) (wi_seq ?_)
    walk_at "go"
    refine ⟨_, fSeq.l, rfl, fun x hx => ?_, by rw [List.map_map (f := valM t)]; rfl, rfl⟩
    obtain ⟨p, hp, rfl⟩ := List.mem_map.mp hx
    walk_at "nm"
    walk_at "c1"
    walk_at "nm"
    refine wt_yes ⟨rfl, ?_⟩
    walk_at "go"
    exact ⟨(t, p.2), rfl, vpre _ ((hbd p hp).mono (by omega)), rfl, rfl⟩
  · rw [decide_eq_true rfl] at e
    cases e
  refine wt_test (we_opc (we_lenSet (we_var rfl ⟨_, rfl, vnd, by rw [List.length_map]; omega, ?_⟩)))
  walk_at "go"
  simp only [List.length_map]
  refine ⟨fun e => ?_, fun _ => ws_next ?_⟩
  · have := of_decide_eq_true e
    omega
  clear ve vnd
  -- the small numbers
  refine ws_seq ?_
  refine ws_forB (List.range 24) (fun (i : Nat) => D.int (i : Nat)) (fun (_ : Unit) (_ : Nat) => ()) () [3, 5] (fun _ => [some (.d (encTr t)), some (.d (.lst (ps.map encV))), some (.d (.lst ((ps.map (·.2)).map .int))), none, some (.d (.lst ((ps.map (·.1)).map .int))), none, none, none, none]) (fun _ => []) ?_ rfl (fun pre2 n post b e1 e2 => ?_) ?_
  · refine wi_rng1 ?_
    walk_at "go"
    exact ⟨by decide, by decide, rfl, rfl⟩
  · have hn : n < 24 := List.mem_range.mp (by rw [e1]; simp)
    clear e1 e2
    walk_at "g1"
    walk_at "nm"
    refine ws_seq (ws_setE (.d (.lst (((ps.filter fun p => decide (p.1 = valM t n) && decide (p.2 ≤ (n : Int))).map (·.2)).map .int))) ?_ ?_)
    · refine we_lcF ps encV (fun p => decide (p.1 = valM t n) && decide (p.2 ≤ (n : Int))) (fun p => .int p.2) (by omega) (wi_seq ?_)
      walk_at "go"
      refine ⟨_, fSeq.l, rfl, fun x hx => ?_, by rw [List.map_map]; rfl, rfl⟩
      walk_at "nm"
      walk_at "c2"
      walk_at "nm"
      refine wt_and (wt_test (we_opc (we_var rfl (we_callD (wa_cons (we_var rfl (wa_cons (we_var rfl (wa_nil ⟨(t, (n : Int)), rfl, vpre _ (Bd.mono (k := 20000) (Bd.nat (show n < 2 ^ 5 by omega)) (by omega)), fEq.i ⟨_, rfl, fun h => ?_, fun h => ?_⟩⟩)))))))))
      · rw [Bool.xor_false] at h
        rw [h]
        walk_at "go"
        refine ⟨rfl, rfl, fun _ => ?_⟩
        walk_at "go"
        exact ⟨rfl, rfl⟩
      · rw [Bool.xor_false] at h
        rw [h]
        exact ⟨rfl, rfl, fun e => by cases e⟩
    walk_at "nm"
    refine ws_if (wt_cut false ?_ ⟨fun e => (by cases e), fun _ => ws_next ⟨rfl, rfl⟩⟩)
    refine wt_and (wt_test (we_opc (we_var rfl (we_lstS (wa_nil (fDs.mk rfl (Nat.le_of_ble_eq_true rfl) (fEqD.l (ys := []) ⟨_, rfl, fun e => ?_, fun _ => ⟨rfl, rfl⟩⟩)))))))
    rw [Bool.xor_false] at e
    have hk := List.filter_eq_nil_iff.mp (List.map_eq_nil_iff.mp (of_decide_eq_true e))
    rcases fv.cov (n : Int) (by omega) with ⟨p, hp, c1, c2⟩ | ⟨c1, c2⟩
    · exact absurd (by rw [decide_eq_true c1, decide_eq_true c2]; rfl) (hk p hp)
    · obtain ⟨qs, lp, e2⟩ : ∃ qs lp, ps = qs ++ [lp] := by
        rcases List.eq_nil_or_concat ps with e | ⟨a, b, e⟩
        · rw [e] at c1; cases c1
        · exact ⟨a, b, by rw [e]; simp⟩
      have c3 := c2 lp (by rw [e2]; simp)
      walk_at "go"
      rw [List.length_map, c1]
      refine ⟨fun e => (by cases e), fun _ => ?_⟩
      walk_at "go"
      rw [e2, List.map_append, List.map_append]
      refine fIx.l (atI_last _ _) ?_
      walk_at "go"
      exact ⟨decide_eq_false (by show ¬ ((n : Int) < lp.2); omega), rfl⟩
  · exact ws_ret (we_cB ⟨rfl, rfl⟩)
end
section
/-! ### the first number outside, plain -/
def pOutB (limit : Int) (p : Int × Int) : Bool := decide (p.1 < 0) || decide (limit ≤ p.1)
theorem pOutB_iff {limit : Int} {p : Int × Int} : pOutB limit p = true ↔ outV limit p.1 := by
  unfold pOutB outV
  rw [Bool.or_eq_true, decide_eq_true_eq, decide_eq_true_eq]
theorem out_some {t : Tr} (hl : linM t = true) {ps : List (Int × Int)} (fv : FV t ps) {limit : Int} {p : Int × Int} {r : List (Int × Int)} (h : ps.filter (pOutB limit) = p :: r) : foM t limit = some p.2 := by
  have hp : p ∈ ps.filter (pOutB limit) := by rw [h]; exact List.mem_cons_self
  obtain ⟨h1, h2⟩ := List.mem_filter.mp hp
  obtain ⟨v1, v2⟩ := fv.val p h1
  have hasc : (p :: r).Pairwise fun p q => p.2 < q.2 := h ▸ fv.asc.filter _
  refine (fo_least hl limit).uniq ⟨v1, by show outV limit (valM t p.2); rw [← v2]; exact pOutB_iff.mp h2, fun n hn hP => ?_⟩
  rcases fv.cov n hn with ⟨q, hq, e1, e2⟩ | ⟨_, e2⟩
  · have hq2 : q ∈ ps.filter (pOutB limit) := List.mem_filter.mpr ⟨hq, pOutB_iff.mpr (by rw [e1]; exact hP)⟩
    rw [h] at hq2
    rcases List.mem_cons.mp hq2 with e | hq2
    · rw [← e]; exact e2
    · have := (List.pairwise_cons.mp hasc).1 q hq2
      omega
  · have := e2 p h1
    omega
theorem out_none {t : Tr} (hl : linM t = true) {ps : List (Int × Int)} (fv : FV t ps) {limit : Int} (h : ps.filter (pOutB limit) = []) : foM t limit = none ∨ (ps.length = 9 ∧ ∃ x, foM t limit = some x ∧ ∀ q ∈ ps, q.2 < x) := by
  have hL := fo_least hl limit
  cases e : foM t limit with
  | none => exact .inl rfl
  | some x =>
    rw [e] at hL
    rcases fv.cov x hL.1 with ⟨q, hq, e1, e2⟩ | ⟨e1, e2⟩
    · have := List.filter_eq_nil_iff.mp h q hq
      exact absurd (pOutB_iff.mpr (by rw [e1]; exact hL.2.1)) this
    · exact .inr ⟨e1, x, rfl, e2⟩
variable {P : Program} {w : World} {K : PySem.W.Frag} {mg : Str → Option Value} {base : Heap}
abbrev OrIn := List Nat × Tr × List (Int × Int) × Nat
abbrev Det_l_outside_right (C : Addr) : FT := Det (fun z : OrIn => [plD C z.1 z.2.1, .lst (z.2.2.1.map encV), .int (z.2.2.2 : Nat)]) (fun z => GoodT z.2.1 ∧ FV z.2.1 z.2.2.1 ∧ z.2.2.2 < 9) (fun _ => .bl true)
theorem ok_l_outside_right (T : Txt K w mg) : FnOk P w K mg base CX0 28 T.l_outside_right.f T.l_outside_right.fd P_l_outside_right (spG K (Det_l_outside_right T.cPlural)) := by
  refine okDet T.l_outside_right.F sc_l_outside_right (fun x => rfl) fun cdv A outer s H E z hr pre => ?_
  obtain ⟨cs, t, ps, limit⟩ := z
  obtain ⟨g, fv, hlm⟩ := pre
  have g : GoodT t := g
  have fv : FV t ps := fv
  have hlm : limit < 9 := hlm
  have hu := hu_of hr
  have l9 := fv.le9
  have blm : Bd 8000 (limit : Int) := Bd.mono (k := 8000) (Bd.nat (show limit < 2 ^ 4 by omega)) (by omega)
  refine ⟨_, (pss_cons (ps_set (i := 3) sc_l_outside_right.nd rfl (.inl rfl) (pe_call (ok_first_outside T) (hr.mono (by omega)) (by rfl) T.first_outside.m T.first_outside.F.kp T.first_outside.b .nil pass0 (pa_cons (pv 0) (pa_cons (pv 2) pa_nil))))
        (pss_cons (ps_setLc (i := 4) (own := [("_law_value_here", 5), ("_law_n", 6)]) (by rfl) sc_l_outside_right.nd rfl rfl (sw_true rfl rfl rfl (by decide +kernel)) (pi_seq (pv 1)) (blkOk_by (own := [("_law_value_here", 5), ("_law_n", 6)]) (N := N_l_outside_right) (sc := defScope s_l_outside_right) (by decide +kernel)) (fun _ _ _ _ _ => (pg_tupK (K := K) rfl (n := 2) rfl (pgs_cons (pg_name (i := 5) sc_l_outside_right.nd rfl (.inl rfl)) (pgs_cons (pg_name (i := 6) sc_l_outside_right.nd rfl (.inl rfl)) pgs_nil)))) (fun _ _ _ _ _ => (pts_one (PW.pt (pw_or (pt_cmpR op_lt (pv 5) pe_int (nomark _)) (pw_or1 (pt_cmpR op_ge (pv 5) (pv 2) (nomark _))))))) (fun _ _ _ _ _ => (pv 6)))
        (pss_cons (ps_if (pt_cmpR (op_neD hr.units) (pv 4) (pe_lst pa_nil) (nomark _)) (pss_one (ps_ret (pe_call (ok_l_same T) (hr.mono (by omega)) (by rfl) T.l_same.m T.l_same.F.kp T.l_same.b .nil pass0 (pa_cons (pv 3) (pa_cons (pe_ix ix_seq (pv 4) pe_int (fun _ _ => rfl)) pa_nil))))) pss_nil)
        (pss_one (ps_ret (pe_ifExp (pt_cmpR op_lt (pe_callB cl_len (by rfl) T.b_len (by decide +kernel) (pa_cons (pv 1) pa_nil)) pe_int (nomark _)) (pe_cmpR op_isNo (pv 3) pe_non (nomark _)) (pe_or (pe_cmpR op_isNo (pv 3) pe_non (nomark _)) (pe_one (pe_cmpR op_gt (pv 3) (pe_ix ix_seq (pe_ix ix_seq (pv 1) (pe_un un_neg pe_int) (fun _ _ => rfl)) pe_int (fun _ _ => rfl)) (nomark _)))))))))), ?_⟩
  try dsimp only [cx_K, cx_w]
  refine ws_rho (ρ' := [some _, some _, some _, none, none, none, none]) rfl ?_
  refine ws_seq (ws_setE (.d (encO (foM t limit))) ?_ ?_)
  · walk_at "go"
    exact ⟨(cs, t, (limit : Int)), rfl, ⟨g, blm⟩, rfl, rfl⟩
  walk_at "nm"
  refine ws_seq (ws_setE (.d (.lst (((ps.filter (pOutB limit)).map (·.2)).map .int))) ?_ ?_)
  · refine we_lcF ps encV (pOutB limit) (fun p => .int p.2) (by omega) (wi_seq ?_)
    walk_at "go"
    refine ⟨_, fSeq.l, rfl, fun x hx => ?_, by rw [List.map_map]; rfl, rfl⟩
    walk_at "nm"
    walk_at "c2"
    walk_at "nm"
    refine wt_or (wt_test (we_opc (we_var rfl (we_cI (fI2.i ⟨_, rfl, fun h => ?_, fun h => ?_⟩)))))
    · refine ⟨by unfold pOutB; rw [h]; rfl, rfl, fun _ => ?_⟩
      walk_at "go"
      exact ⟨rfl, rfl⟩
    · walk_at "go"
      refine ⟨by unfold pOutB; rw [h]; rfl, rfl, fun _ => ?_⟩
      walk_at "go"
      exact ⟨rfl, rfl⟩
  walk_at "nm"
  cases hf : ps.filter (pOutB limit) with
  | cons p r =>
    refine ws_seq (ws_if (wt_test (we_opc (we_var rfl (we_lstS (wa_nil (fDs.mk rfl (Nat.le_of_ble_eq_true rfl) (fEqD.l (ys := []) ⟨_, rfl, fun _ => ?_, fun e => ?_⟩))))))))
    · walk_at "go"
      refine fIx.l (atI_zero _ _) ?_
      walk_at "go"
      refine ⟨.inl (foM t limit, p.2), rfl, by show 0 < 2; decide, ?_, rfl⟩
      rw [out_some g.lin fv hf]
      show AV.d (.bl (decide (some p.2 = some p.2))) = _
      rw [decide_eq_true rfl]
    · simp at e
  | nil =>
    refine ws_seq (ws_if (wt_test (we_opc (we_var rfl (we_lstS (wa_nil (fDs.mk rfl (Nat.le_of_ble_eq_true rfl) (fEqD.l (ys := []) ⟨_, rfl, fun e => ?_, fun _ => ?_⟩))))))))
    · simp at e
    · refine ws_next ?_
      rcases out_none g.lin fv hf with h | ⟨h1, x, h2, h3⟩
      · rw [h]
        walk_at "go"
        refine ⟨fun _ => ?_, fun _ => ?_⟩
        · walk_at "go"
          exact ⟨rfl, rfl⟩
        · walk_at "go"
          exact ⟨rfl, rfl⟩
      · rw [h2]
        obtain ⟨qs, lp, e2⟩ : ∃ qs lp, ps = qs ++ [lp] := by
          rcases List.eq_nil_or_concat ps with e | ⟨a, b, e⟩
          · rw [e] at h1; cases h1
          · exact ⟨a, b, by rw [e]; simp⟩
        have c3 := h3 lp (by rw [e2]; simp)
        walk_at "go"
        rw [List.length_map, h1]
        refine ⟨fun e => (by cases e), fun _ => ?_⟩
        walk_at "go"
        rw [e2, List.map_append]
        refine fIx.l (atI_last _ _) ?_
        walk_at "go"
        refine ⟨?_, rfl⟩
        show AV.d (.bl (decide (lp.2 < x))) = _
        rw [decide_eq_true c3]
end
section
variable {P : Program} {w : World} {K : PySem.W.Frag} {mg : Str → Option Value} {base : Heap}
/-! ### the rest is told right -/
theorem tails_none {t : Tr} (hl : linM t = true) (g : Grow t) : tlD2 t (endM t).1 = .non := by
  obtain ⟨k, hk, hne⟩ := grow_tails hl g
  unfold tlD2
  rw [if_neg]
  intro e
  have h := congrArg (fun l => l.getD k 0) e
  unfold tl1 at h
  simp only [List.getD_eq_getElem?_getD, List.getElem?_map, List.getElem?_range hk, Option.map_some, Option.getD_some] at h
  exact hne h
theorem patAt {pat : List Int} (h : 0 < pat.length) (n : Int) : atI (pat.map D.int) (n % (pat.length : Int)) = some (.int (pat.getD (n % (pat.length : Int)).toNat 0)) := by
  have m0 := Int.emod_nonneg n (show (pat.length : Int) ≠ 0 by omega)
  have m1 := Int.emod_lt_of_pos n (show (0 : Int) < (pat.length : Int) by omega)
  have e := getD_int (xs := pat) (r := (n % (pat.length : Int)).toNat) (by omega)
  rw [Int.toNat_of_nonneg m0] at e
  exact e
abbrev Det_l_rest_right : FT := Det (fun z : Tr × List (Int × Int) => [encTr z.1, encR (restM z.1), .lst (z.2.map encV)]) (fun z => GoodT z.1 ∧ FV z.1 z.2) (fun _ => .bl true)
theorem ok_l_rest_right (T : Txt K w mg) : FnOk P w K mg base CX0 15 T.l_rest_right.f T.l_rest_right.fd P_l_rest_right (spG K Det_l_rest_right) := by
  refine okDet T.l_rest_right.F sc_l_rest_right (fun x => rfl) fun cdv A outer s H E z hr pre => ?_
  obtain ⟨t, ps⟩ := z
  obtain ⟨g, fv⟩ := pre
  have g : GoodT t := g
  have fv : FV t ps := fv
  have hu := hu_of hr
  have l9 := fv.le9
  have hl := g.lin
  have hht : ht t < 9 := by have := g.h; omega
  have hsz := g.e
  have vpre : ∀ n, Bd 20000 n → linM t = true ∧ spanM t ≤ 1000 ∧ szE t ≤ 4000 ∧ Bd 20000 n ∧ ht t < 9 := fun n hn => ⟨g.lin, g.sp, g.e, hn, hht⟩
  have epre : linM t = true ∧ spanM t ≤ 1000 ∧ szE t ≤ 4000 ∧ ht t < 9 := ⟨g.lin, g.sp, g.e, hht⟩
  obtain ⟨eb, _, _⟩ := end_bd t hl g.sp
  have eb : Bd 8000 (endM t).1 := eb.mono (by omega)
  have e0 := (end_ok t hl).f0
  have rok := rest_ok hl
  refine ⟨_, (pss_cons (ps_if (pt_cmpR op_isNo (pv 1) pe_non (nomark _)) (pss_one (ps_ret (pe_and (pe_cmpR op_eq (pe_callB cl_len (by rfl) T.b_len (by decide +kernel) (pa_cons (pv 2) pa_nil)) pe_int (nomark _)) (pe_one (pe_cmpR op_isNo (pe_call (ok_l_tails T) (hr.mono (by omega)) (by rfl) T.l_tails.m T.l_tails.F.kp T.l_tails.b .nil pass0 (pa_cons (pv 0) (pa_cons (pe_ix ix_seq (pe_call (ok_l_end T) (hr.mono (by omega)) (by rfl) T.l_end.m T.l_end.F.kp T.l_end.b .nil pass0 (pa_cons (pv 0) pa_nil)) pe_int (fun _ _ => rfl)) pa_nil))) pe_non (nomark _)))))) pss_nil)
        (pss_cons (ps_asg (pv 1) (pg_tup (n := 2) rfl (pgs_cons (pg_name (i := 3) sc_l_rest_right.nd rfl (.inr rfl)) (pgs_cons (pg_name (i := 4) sc_l_rest_right.nd rfl (.inr rfl)) pgs_nil))))
        (pss_cons (ps_set (i := 5) sc_l_rest_right.nd rfl (.inr rfl) (pe_callB cl_len (by rfl) T.b_len (by decide +kernel) (pa_cons (pv 4) pa_nil)))
        (pss_cons (ps_if (pt_cmpR (op_neD hr.units) (pe_call (ok_l_pattern T) (hr.mono (by omega)) (by rfl) T.l_pattern.m T.l_pattern.F.kp T.l_pattern.b .nil pass0 (pa_cons (pe_callTy cl_list (by rfl) T.b_list (by decide +kernel) (pa_cons (pv 4) pa_nil)) pa_nil)) (pv 4) (nomark _)) (pss_one (ps_ret pe_bl)) pss_nil)
        (pss_cons (ps_if (PW.pt (pw_and (pt_cmpR op_gt (pv 3) pe_int (nomark _)) (pw_and1 (pt_cmpR op_eq (pe_call (ok_l_value T) (hr.mono (by omega)) (by rfl) T.l_value.m T.l_value.F.kp T.l_value.b .nil pass0 (pa_cons (pv 0) (pa_cons (pe_op op_sub (pv 3) pe_int) pa_nil))) (pe_ix ix_seq (pv 4) (pe_op op_mod (pe_op op_sub (pv 3) pe_int) (pv 5)) (fun _ _ => rfl)) (nomark _))))) (pss_one (ps_ret pe_bl)) pss_nil)
        (pss_cons (ps_set (i := 6) sc_l_rest_right.nd rfl (.inr rfl) (pe_lc (own := [("_law_value_here", 8), ("_law_n", 9)]) (by rfl) sc_l_rest_right.nd (pi_seq (pv 2)) (blkOk_by (own := [("_law_value_here", 8), ("_law_n", 9)]) (N := N_l_rest_right) (sc := defScope s_l_rest_right) (by decide +kernel)) (fun _ _ _ _ _ => (pg_tupK (K := K) rfl (n := 2) rfl (pgs_cons (pg_name (i := 8) sc_l_rest_right.nd rfl (.inl rfl)) (pgs_cons (pg_name (i := 9) sc_l_rest_right.nd rfl (.inl rfl)) pgs_nil)))) (fun _ _ _ _ _ => pts_nil) (fun _ _ _ _ _ => (pv 8))))
        (pss_cons (ps_if (PW.pt (pw_and (pt_cmpR op_lt (pe_callB cl_len (by rfl) T.b_len (by decide +kernel) (pa_cons (pv 2) pa_nil)) pe_int (nomark _)) (pw_and1 (pt_not (pt_val (pe_callB (cl_all rfl) (by rfl) T.b_all (by decide +kernel) (pa_cons (pe_lc (own := [("_law_value_here", 8)]) (by rfl) sc_l_rest_right.nd (pi_seq (pv 4)) (blkOk_by (own := [("_law_value_here", 8)]) (N := N_l_rest_right) (sc := defScope s_l_rest_right) (by decide +kernel)) (fun _ _ _ _ _ => (pg_name (i := 8) sc_l_rest_right.nd rfl (.inl rfl))) (fun _ _ _ _ _ => pts_nil) (fun _ _ _ _ _ => (pe_cmpR (op_in_seqK (K := K) rfl) (pv 8) (pv 6) (by with_unfolding_all rfl)))) pa_nil))))))) (pss_one (ps_ret pe_bl)) pss_nil)
        (pss_cons (ps_set (i := 7) sc_l_rest_right.nd rfl (.inl rfl) (pe_op op_plus (pe_lc (own := [("_law_k", 10)]) (by rfl) sc_l_rest_right.nd (pi_range1 (by rfl) T.b_range (pa_cons (pe_op op_plus (pe_op op_mulW pe_int (pv 5)) pe_int) pa_nil)) (blkOk_by (own := [("_law_k", 10)]) (N := N_l_rest_right) (sc := defScope s_l_rest_right) (by decide +kernel)) (fun _ _ _ _ _ => (pg_name (i := 10) sc_l_rest_right.nd rfl (.inl rfl))) (fun _ _ _ _ _ => pts_nil) (fun _ _ _ _ _ => (pe_op (op_plusK (K := K) rfl) (pv 3) (pv 10)))) (pe_lc (own := [("_law_k", 10)]) (by rfl) sc_l_rest_right.nd (pi_range1 (by rfl) T.b_range (pa_cons (pv 5) pa_nil)) (blkOk_by (own := [("_law_k", 10)]) (N := N_l_rest_right) (sc := defScope s_l_rest_right) (by decide +kernel)) (fun _ _ _ _ _ => (pg_name (i := 10) sc_l_rest_right.nd rfl (.inl rfl))) (fun _ _ _ _ _ => pts_nil) (fun _ _ _ _ _ => (pe_op (op_plusK (K := K) rfl) (pe_op (op_plusK (K := K) rfl) (pv 3) (pe_ix (ix_seqK (K := K) rfl) (pe_call (ok_l_end T) (hr.mono (by omega)) (by rfl) T.l_end.m T.l_end.F.kp T.l_end.b .nil pass0 (pa_cons (pv 0) pa_nil)) pe_int (fun _ _ => rfl))) (pv 10))))))
        (pss_one (ps_ret (pe_callB (cl_all rfl) (by rfl) T.b_all (by decide +kernel) (pa_cons (pe_lc (own := [("_law_n", 9)]) (by rfl) sc_l_rest_right.nd (pi_seq (pv 7)) (blkOk_by (own := [("_law_n", 9)]) (N := N_l_rest_right) (sc := defScope s_l_rest_right) (by decide +kernel)) (fun _ _ _ _ _ => (pg_name (i := 9) sc_l_rest_right.nd rfl (.inl rfl))) (fun _ _ _ _ _ => pts_nil) (fun _ _ _ _ _ => (pe_cmpR op_eq (pe_call (ok_l_value T) (hr.mono (by omega)) (by rfl) T.l_value.m T.l_value.F.kp T.l_value.b .nil pass0 (pa_cons (pv 0) (pa_cons (pv 9) pa_nil))) (pe_ix (ix_seqK (K := K) rfl) (pv 4) (pe_op op_mod (pe_callTy cl_int (by rfl) T.b_int (by decide +kernel) (pa_cons (pv 9) pa_nil)) (pv 5)) (fun _ _ => rfl)) (nomark _)))) pa_nil)))))))))))), ?_⟩
  try dsimp only [cx_K, cx_w]
  refine ws_rho (ρ' := [some _, some _, some _, none, none, none, none, none, none, none, none]) rfl ?_
  cases hR : restM t with
  | none =>
    rw [hR] at rok
    have rok : Grow t := rok
    have n9 := grow_nine fv rok
    refine ws_rho (ρ' := [some (.d (encTr t)), some (.d .non), some (.d (.lst (ps.map encV))), none, none, none, none, none, none, none, none]) rfl ?_
    refine ws_seq (ws_if (wt_test (we_opc (we_var rfl (we_cN (fNo.i ⟨_, rfl, fun _ => ?_, fun e => (by cases e)⟩))))))
    refine ws_ret (we_andV ?_)
    walk_at "go"
    rw [List.length_map, n9]
    refine ⟨fun _ => ?_, fun e => (by cases e)⟩
    walk_at "go"
    refine ⟨epre, ?_⟩
    walk_at "go"
    refine ⟨(t, (endM t).1), rfl, ⟨g, eb⟩, ?_⟩
    walk_at "go"
    rw [show tlD2 (t, (endM t).1).1 (t, (endM t).1).2 = .non from tails_none hl rok]
    exact ⟨rfl, rfl⟩
  | some sp =>
    obtain ⟨start, pat⟩ := sp
    rw [hR] at rok
    have rok : ROk t start pat := rok
    obtain ⟨sb, pl⟩ := rest_bd g hR
    obtain ⟨s0, z0, far, unl, mn⟩ := rok
    have hzp : (0 : Int) < (pat.length : Nat) := by omega
    refine ws_rho (ρ' := [some (.d (encTr t)), some (.d (.tup [.int start, .tup (pat.map .int)])), some (.d (.lst (ps.map encV))), none, none, none, none, none, none, none, none]) rfl ?_
    refine ws_seq (ws_if (wt_test (we_opc (we_var rfl (we_cN (fNo.i ⟨_, rfl, fun e => (by cases e), fun _ => ?_⟩))))))
    refine ws_next (ws_seq (ws_asg (we_var rfl ?_)))
    walk_at "g2"
    walk_at "nm"
    walk_at "s1"
    walk_at "s1"
    walk_at "go"
    rw [List.length_map]
    -- the pattern is the shortest
    refine fList.t ?_
    walk_at "go"
    refine ⟨⟨z0, pl, mn⟩, ?_⟩
    walk_at "go"
    refine fEqD.t ?_
    walk_at "nm"
    rw [decide_eq_true rfl]
    refine ⟨_, rfl, fun e => (by cases e), fun _ => ws_next ?_⟩
    -- ahead of the start
    refine ws_seq (ws_if (wt_cut false ?_ ⟨fun e => (by cases e), fun _ => ws_next ?_⟩))
    · refine wt_and (wt_test (we_opc (we_var rfl (we_cI (fI2.i ⟨_, rfl, fun h => ?_, fun _ => ⟨rfl, rfl⟩⟩)))))
      have hs : 0 < start := of_decide_eq_true h
      walk_at "go"
      refine ⟨(t, start - 1), rfl, vpre _ ((sb.sub (Bd.one (by omega))).mono (by omega)), ?_⟩
      walk_at "go"
      refine fI2c.i hzp ?_
      refine fIx.t (patAt z0 _) ?_
      walk_at "go"
      rw [Bool.xor_false]
      exact ⟨decide_eq_false (unl hs), rfl⟩
    -- what is known
    refine ws_seq (ws_setE (.d (.lst ((ps.map (·.1)).map .int))) ?_ ?_)
    · refine we_lcM ps encV (fun p => .int p.1) (by omega) (wi_seq ?_)
      walk_at "go"
      refine ⟨_, fSeq.l, rfl, fun x hx => ?_, ?_⟩
      · walk_at "nm"
        walk_at "c2"
        walk_at "nm"
        refine wt_yes ⟨rfl, ?_⟩
        walk_at "go"
        exact ⟨rfl, rfl⟩
      · rw [List.map_map]
        exact ⟨rfl, rfl⟩
    walk_at "nm"
    refine ws_seq (ws_if (wt_cut false ?_ ⟨fun e => (by cases e), fun _ => ws_next ?_⟩))
    · refine wt_and (wt_test (we_opc (we_cbc (wa_cons (we_var rfl (wa_nil (fLen.l (we_cI (fI2.i ⟨_, rfl, fun h => ?_, fun _ => ⟨rfl, rfl⟩⟩)))))))))
      have h9 : ps.length < 9 := by
        have := of_decide_eq_true h
        rw [List.length_map] at this
        omega
      refine wt_not (wt_B (we_cbc (wa_cons (we_cut (.d (.lst ((pat.map fun v => decide (v ∈ ps.map (·.1))).map .bl))) ?_ ?_))))
      · refine we_lcM pat .int (fun v => .bl (decide (v ∈ ps.map (·.1)))) (by omega) (wi_seq ?_)
        walk_at "go"
        refine ⟨_, fSeq.t, rfl, fun x hx => ?_, ?_⟩
        · walk_at "nm"
          walk_at "c1"
          walk_at "nm"
          refine wt_yes ⟨rfl, ?_⟩
          walk_at "go"
          refine fIn.l rfl (flatAs_ints _) ?_
          rw [if_neg (by simp), inV_ints]
          exact ⟨rfl, rfl⟩
        · rw [List.map_map]
          exact ⟨rfl, rfl⟩
      · refine wa_nil (fAll.i ⟨_, rfl, ?_, rfl⟩)
        rw [List.all_map]
        have key : ∀ v ∈ pat, v ∈ ps.map (·.1) := fun v hv => by
          obtain ⟨j, hj, rfl⟩ := List.getElem_of_mem hv
          have hn : start ≤ start * (pat.length : Int) + (j : Int) := by
            have := Int.mul_le_mul_of_nonneg_left (show (1 : Int) ≤ (pat.length : Int) by omega) s0
            omega
          have hf := far _ hn
          rw [Int.add_comm, Int.add_mul_emod_self_right, Int.emod_eq_of_lt (by omega) (by omega), Int.toNat_natCast, List.getD_eq_getElem?_getD, List.getElem?_eq_getElem hj] at hf
          have := fv.know h9 ((j : Int) + start * (pat.length : Int)) (by omega)
          rw [hf] at this
          exact this
        rw [show (pat.all (id ∘ fun v => decide (v ∈ ps.map (·.1)))) = true from List.all_eq_true.mpr fun v hv => decide_eq_true (key v hv)]
        rfl
    -- from the start on, and far off
    have bz : Bd 10 (pat.length : Int) := Bd.nat (show pat.length < 2 ^ 10 by omega)
    have far2 : ∀ n, start ≤ n → Bd 10000 n → decide (valM t n = pat.getD (n % (pat.length : Int)).toNat 0) = true := fun n hn _ => decide_eq_true (far n hn)
    refine ws_seq (ws_setE (.d (.lst (((List.range (2 * pat.length + 9)).map (fun k : Nat => start + (k : Int)) ++ (List.range pat.length).map (fun k : Nat => start + (endM t).1 + (k : Int))).map .int))) ?_ ?_)
    · refine we_opc (we_cut (.d (.lst (((List.range (2 * pat.length + 9)).map (fun k : Nat => start + (k : Int))).map .int))) ?_ (we_cut (.d (.lst (((List.range pat.length).map (fun k : Nat => start + (endM t).1 + (k : Int))).map .int))) ?_ ?_))
      · refine we_lcM (List.range (2 * pat.length + 9)) (fun (k : Nat) => D.int (k : Nat)) (fun k => .int (start + (k : Int))) (by rw [List.length_range]; omega) (wi_rng1 ?_)
        walk_at "go"
        refine fI2c.i (mulOk (k := 3) (show (2 : Int).natAbs < 2 ^ 3 by decide) bz (by omega) (by omega) (by omega)) ?_
        walk_at "go"
        refine ⟨by omega, by omega, ?_, fun k hk => ?_, by rw [List.map_map]; rfl, rfl⟩
        · rw [show 2 * ((pat.length : Nat) : Int) + 9 = ((2 * pat.length + 9 : Nat) : Int) by omega, Int.toNat_natCast]
          rfl
        · walk_at "nm"
          walk_at "c1"
          walk_at "nm"
          refine wt_yes ⟨rfl, ?_⟩
          walk_at "go"
          exact ⟨rfl, rfl⟩
      · refine we_lcM (List.range pat.length) (fun (k : Nat) => D.int (k : Nat)) (fun k => .int (start + (endM t).1 + (k : Int))) (by rw [List.length_range]; omega) (wi_rngN rfl (by omega) ⟨rfl, fun k hk => ?_, by rw [List.map_map]; rfl, rfl⟩)
        walk_at "nm"
        walk_at "c1"
        walk_at "nm"
        refine wt_yes ⟨rfl, ?_⟩
        walk_at "go"
        refine ⟨epre, ?_⟩
        walk_at "go"
        exact ⟨rfl, rfl⟩
      · rw [List.map_append]
        refine fPlus.l (by simp only [List.length_map, List.length_range]; omega) ?_
        exact ⟨rfl, rfl⟩
    walk_at "nm"
    have hin : ∀ n ∈ (List.range (2 * pat.length + 9)).map (fun k : Nat => start + (k : Int)) ++ (List.range pat.length).map (fun k : Nat => start + (endM t).1 + (k : Int)), start ≤ n ∧ Bd 20000 n := fun n hn => by
      rcases List.mem_append.mp hn with h | h
      · obtain ⟨k, hk, rfl⟩ := List.mem_map.mp h
        have hk := List.mem_range.mp hk
        have bk : Bd 9000 (k : Int) := Bd.mono (k := 9000) (Bd.nat (show k < 2 ^ 10 by omega)) (by omega)
        exact ⟨by omega, (sb.add bk).mono (by omega)⟩
      · obtain ⟨k, hk, rfl⟩ := List.mem_map.mp h
        have hk := List.mem_range.mp hk
        have bk : Bd 9001 (k : Int) := Bd.mono (k := 9001) (Bd.nat (show k < 2 ^ 10 by omega)) (by omega)
        exact ⟨by omega, ((sb.add (eb.mono (by omega))).add bk).mono (by omega)⟩
    have hlen : ((List.range (2 * pat.length + 9)).map (fun k : Nat => start + (k : Int)) ++ (List.range pat.length).map (fun k : Nat => start + (endM t).1 + (k : Int))).length ≤ 1000 := by
      simp only [List.length_append, List.length_map, List.length_range]
      omega
    generalize (List.range (2 * pat.length + 9)).map (fun k : Nat => start + (k : Int)) ++ (List.range pat.length).map (fun k : Nat => start + (endM t).1 + (k : Int)) = ns at hin hlen
    refine ws_ret (we_cbc (wa_cons (we_cut (.d (.lst ((ns.map fun n => decide (valM t n = pat.getD (n % (pat.length : Int)).toNat 0)).map .bl))) ?_ ?_)))
    · refine we_lcM ns .int (fun n => .bl (decide (valM t n = pat.getD (n % (pat.length : Int)).toNat 0))) (by omega) (wi_seq ?_)
      walk_at "go"
      refine ⟨_, fSeq.l, rfl, fun n hn => ?_, by rw [List.map_map]; rfl, rfl⟩
      walk_at "nm"
      walk_at "c1"
      walk_at "nm"
      refine wt_yes ⟨rfl, ?_⟩
      walk_at "go"
      refine ⟨(t, n), rfl, vpre _ (hin n hn).2, ?_⟩
      walk_at "go"
      refine fI2c.i hzp ?_
      refine fIx.t (patAt z0 _) ?_
      walk_at "go"
      rw [Bool.xor_false]
      exact ⟨rfl, rfl⟩
    · refine wa_nil (fAll.i ⟨?_, rfl⟩)
      rw [List.all_map]
      rw [show (ns.all (id ∘ fun n => decide (valM t n = pat.getD (n % (pat.length : Int)).toNat 0))) = true from List.all_eq_true.mpr fun n hn => decide_eq_true (far n (hin n hn).1)]
end
section
variable {P : Program} {w : World} {K : PySem.W.Frag} {mg : Str → Option Value} {base : Heap}
/-! ### the law -/
abbrev Det_law : FT := Det (fun ns : List Int => [.scr ns]) (fun _ => True) (fun _ => .bl true)
theorem ok_law (T : Txt K w mg) {f : Addr} {fd : FuncData} (F : Fun K "law" "law" s_law f fd) : FnOk P w K mg base CX0 202 f fd P_law (spG K Det_law) := by
  refine okDet F sc_law (fun x => rfl) fun cdv A outer s H E ns hr _ => ?_
  have hu := hu_of hr
  refine ⟨_, (pss_cons (ps_for PassesOwn.never rfl (pi_range1 (by rfl) T.b_range (pa_cons pe_int pa_nil)) (pg_name (i := 1) sc_law.nd rfl (.inl rfl)) (pss_cons (ps_set (i := 2) sc_law.nd rfl (.inl rfl) (pe_call (ok_l_source T) (hr.mono (by omega)) (by rfl) T.l_source.m T.l_source.F.kp T.l_source.b .nil pass0 (pa_cons (pv 0) (pa_cons (pv 1) pa_nil))))
        (pss_cons (ps_set (i := 3) sc_law.nd rfl (.inl rfl) (pe_call (ok_l_drawn T) (hr.mono (by omega)) (by rfl) T.l_drawn.m T.l_drawn.F.kp T.l_drawn.b .nil pass0 (pa_cons (pv 2) pa_nil)))
        (pss_cons (ps_set (i := 4) sc_law.nd rfl (.inl rfl) (pe_call (ok_l_plural T) (hr.mono (by omega)) (by rfl) T.l_plural.m T.l_plural.F.kp T.l_plural.b .nil pass0 (pa_cons (pv 2) (pa_cons (pv 3) pa_nil))))
        (pss_cons (ps_set (i := 5) sc_law.nd rfl (.inl rfl) (pe_call (ok_first_values T) (hr.mono (by omega)) (by rfl) T.first_values.m T.first_values.F.kp T.first_values.b .nil pass0 (pa_cons (pv 4) (pa_cons pe_int pa_nil))))
        (pss_cons (ps_if (pt_not (pt_val (pe_call (ok_l_values_right T) (hr.mono (by omega)) (by rfl) T.l_values_right.m T.l_values_right.F.kp T.l_values_right.b .nil pass0 (pa_cons (pv 3) (pa_cons (pv 5) pa_nil))))) (pss_one (ps_ret pe_bl)) pss_nil)
        (pss_cons (ps_asg (pe_call (ok_l_pick T) (hr.mono (by omega)) (by rfl) T.l_pick.m T.l_pick.F.kp T.l_pick.b .nil pass0 (pa_cons (pv 2) (pa_cons (pv 5) pa_nil))) (pg_tup (n := 2) rfl (pgs_cons (pg_name (i := 6) sc_law.nd rfl (.inl rfl)) (pgs_cons (pg_name (i := 7) sc_law.nd rfl (.inl rfl)) pgs_nil))))
        (pss_cons (ps_if (PW.pt (pw_and (pt_cmpR op_le (pe_callB cl_abs (by rfl) T.b_abs (by decide +kernel) (pa_cons (pv 6) pa_nil)) (pe_op op_pow pe_int pe_int) (nomark _)) (pw_and1 (pt_not (pt_val (pe_call (ok_l_same T) (hr.mono (by omega)) (by rfl) T.l_same.m T.l_same.F.kp T.l_same.b .nil pass0 (pa_cons (pe_call (ok_first_number T) (hr.mono (by omega)) (by rfl) T.first_number.m T.first_number.F.kp T.first_number.b .nil pass0 (pa_cons (pv 4) (pa_cons (pv 6) pa_nil))) (pa_cons (pv 7) pa_nil)))))))) (pss_one (ps_ret pe_bl)) pss_nil)
        (pss_cons (ps_if (pt_not (pt_val (pe_call (ok_l_outside_right T) (hr.mono (by omega)) (by rfl) T.l_outside_right.m T.l_outside_right.F.kp T.l_outside_right.b .nil pass0 (pa_cons (pv 4) (pa_cons (pv 5) (pa_cons (pe_call (ok_l_draw T) (hr.mono (by omega)) (by rfl) T.l_draw.m T.l_draw.F.kp T.l_draw.b .nil pass0 (pa_cons (pv 2) (pa_cons pe_int pa_nil))) pa_nil)))))) (pss_one (ps_ret pe_bl)) pss_nil)
        (pss_one (ps_if (pt_not (pt_val (pe_call (ok_l_rest_right T) (hr.mono (by omega)) (by rfl) T.l_rest_right.m T.l_rest_right.F.kp T.l_rest_right.b .nil pass0 (pa_cons (pv 3) (pa_cons (pe_call (ok_rest_of T) (hr.mono (by omega)) (by rfl) T.rest_of.m T.rest_of.F.kp T.rest_of.b .nil pass0 (pa_cons (pv 4) pa_nil)) (pa_cons (pv 5) pa_nil)))))) (pss_one (ps_ret pe_bl)) pss_nil)))))))))))
        (pss_one (ps_ret pe_bl))), ?_⟩
  try dsimp only [cx_K, cx_w]
  refine ws_rho (ρ' := [some _, none, none, none, none, none, none, none]) rfl ?_
  refine ws_seq ?_
  refine ws_forB (List.range 2) (fun (i : Nat) => D.int (i : Nat)) (fun (_ : Unit) (_ : Nat) => ()) () [1, 2, 3, 4, 5, 6, 7] (fun _ => [some (.d (.scr ns)), none, none, none, none, none, none, none]) (fun _ => []) ?_ rfl (fun pre2 i post b e1 e2 => ?_) ?_
  · refine wi_rng1 ?_
    walk_at "go"
    exact ⟨by decide, by decide, rfl, rfl⟩
  · have hi : i < 2 := List.mem_range.mp (by rw [e1]; simp)
    clear e1 e2
    walk_at "g1"
    walk_at "nm"
    refine ws_seq (ws_set (we_call0 source_mono (wa_cons (we_var rfl (wa_cons (we_var rfl (wa_nil ⟨ns, i, rfl, rfl, hi, fun p deep seed so => ?_⟩)))))))
    walk_at "nm"
    refine ws_resR (R' := [srcR p deep seed 0]) rfl ?_
    refine ws_seq (ws_set (we_drw ?_))
    walk_at "go"
    refine ⟨rfl, (), rfl, trivial, so, by decide, fun d dp1 c1 ⟨t, e1, tok⟩ so1 hc1 => ?_⟩
    subst e1
    have hc1 : c1 ≤ 0 + 100 := hc1
    have g := tok.g
    have fv := fv_ok g.lin
    have fvb := fv_bd g
    walk_at "nm"
    refine ws_seq (ws_set (we_drw ?_))
    walk_at "go"
    refine ⟨rfl, t, rfl, tok, so1, by show c1 + 2 ≤ 1000000; omega, fun d dp2 c2 ⟨cs, e2⟩ so2 hc2 => ?_⟩
    subst e2
    have hc2 : c2 ≤ c1 + 2 := hc2
    walk_at "nm"
    have Lf : (fvR t).length ≤ 9 := fv.le9
    obtain ⟨rps, hps⟩ := fv.ne
    refine ws_seq (ws_setE (.d (.lst ((fvR t).map encV))) ?_ ?_)
    · walk_at "go"
      exact ⟨(cs, t), rfl, g, rfl, rfl⟩
    walk_at "nm"
    refine ws_seq (ws_if (wt_not (wt_B (we_callD (wa_cons (we_var rfl (wa_cons (we_var rfl (wa_nil ⟨(t, fvR t), rfl, ⟨g, fv, fvb⟩, true, rfl, fun e => (by cases e), fun _ => ws_next ?_⟩)))))))))
    refine ws_seq (ws_asg (we_drw ?_))
    walk_at "go"
    refine ⟨rfl, (fvR t).map encV, rfl, ⟨by rw [hps]; simp, by rw [List.length_map]; omega⟩, so2, by show c2 + 1 ≤ 1000000; omega, fun d dp3 c3 hd so3 hc3 => ?_⟩
    obtain ⟨q, hq, rfl⟩ := List.mem_map.mp hd
    have hc3 : c3 ≤ c2 + 1 := hc3
    walk_at "g2"
    walk_at "nm"
    obtain ⟨v, n⟩ := q
    have hfirst : Least (fun n => valM t n = v) (some n) := fv.first _ hq
    -- its number is the first one
    refine ws_seq (ws_if (wt_cut false ?_ ⟨fun e => (by cases e), fun _ => ws_next ?_⟩))
    · refine wt_and (wt_test (we_opc (we_cbc (wa_cons (we_var rfl (wa_nil (fAbs.i (we_opc (we_cI (we_cI (fI2c.i ⟨by decide, by decide, by decide⟩ (fI2.i ⟨_, rfl, fun h => ?_, fun _ => ⟨rfl, rfl⟩⟩))))))))))))
      have h : (if v < 0 then -v else v) ≤ (10 : Int) ^ (30 : Int).toNat := of_decide_eq_true h
      rw [show (10 : Int) ^ (30 : Int).toNat = 1000000000000000000000000000000 by decide] at h
      have bv : Bd 8000 v := by
        refine Bd.mono (j := 100) ?_ (by omega)
        unfold Bd
        rw [p100]
        split at h <;> omega
      refine wt_not (wt_B (we_callD (wa_cons (we_callD (wa_cons (we_var rfl (wa_cons (we_var rfl (wa_nil ⟨(cs, t, v), rfl, ⟨g, bv⟩, ?_⟩)))))))))
      rw [show (fsM t v [0]).min? = some n from (fn_least g.lin v).uniq hfirst]
      refine wa_cons (we_var rfl (wa_nil ⟨.inl (some n, n), rfl, by show 0 < 2; decide, _, rfl, ?_, rfl⟩))
      show (!decide (some n = some n)) = false
      rw [decide_eq_true rfl]
      rfl
    refine ws_seq (ws_if (wt_not (wt_B (we_callD (wa_cons (we_var rfl (wa_cons (we_var rfl (wa_cons (we_drw ?_))))))))))
    walk_at "go"
    refine ⟨rfl, 9, rfl, ⟨by decide, by decide⟩, so3, by show c3 + 1 ≤ 1000000; omega, fun d dp4 c4 ⟨i4, e4, hi4⟩ so4 hc4 => ?_⟩
    subst e4
    refine wa_nil ⟨(cs, t, fvR t, i4), rfl, ⟨g, fv, hi4⟩, true, rfl, fun e => (by cases e), fun _ => ws_next ?_⟩
    refine ws_lessR (List.nil_sublist _) ?_
    refine ws_if (wt_not (wt_B (we_callD (wa_cons (we_var rfl (wa_cons (we_callD (wa_cons (we_var rfl (wa_nil ⟨(cs, t), rfl, ⟨g, rest_ne g.lin⟩, wa_cons (we_var rfl (wa_nil ⟨(t, fvR t), rfl, ⟨g, fv⟩, true, rfl, fun e => (by cases e), fun _ => ws_next ⟨rfl, rfl⟩⟩))⟩))))))))))
  · exact ws_ret (we_cB ⟨rfl, rfl⟩)
end
end Ms
set_option Elab.async false
set_option linter.all false
set_option maxRecDepth 100000
set_option maxHeartbeats 0
namespace Ms
open PySem PySem.Spec L2 Ab
open PyProof.Rows hiding St
theorem funOf {K : PySem.W.Frag} {x qual : Str} {st : Stmt} {f : Addr} {fd : FuncData} (F : FunD K x qual (defArgs st) (defBody st) (defScope st) [] [] f fd) : Fun K x qual st f fd := by
  obtain ⟨oc, od, dV, kV, doc, pm, an, cdv, ct, osl, e, lk, hc, hD, _⟩ := F.ex
  rcases hD with ⟨_, rfl⟩ | ⟨h, _⟩
  · exact ⟨⟨oc, od, kV, doc, pm, an, cdv, ct, osl, e, lk, hc⟩, F.kp⟩
  · exact absurd rfl h
abbrev BindH (x qual : Str) (st : Stmt) (ps : List Str) : Prop := ∀ (kV doc pm : Value) (an : Option Addr) (cdv ct : Value) (us : List Value), us.length = ps.length → bindArgs (PySem.W.fnOf x qual (defArgs st) (defBody st) (defScope st) .none kV doc pm an cdv ct) ⟨us, []⟩ = pure (ps.zip us)
theorem at_of {K : PySem.W.Frag} {h : Heap} {mg : Str → Option Value} {x : Str} {st : Stmt} {ps : List Str} (X : K.In h) (G : h.Ns mainGlobals mg) (e : ∃ fd, FunD K x x (defArgs st) (defBody st) (defScope st) [] [] (He.ga K x) fd) (hb : BindH x x st ps) (c : (He.Fa.glo x).ok K = true) : Nonempty (At K mg x st ps) := by
  obtain ⟨fd, F⟩ := e
  exact ⟨⟨He.ga K x, fd, funOf F, FunD.bindsN F hb, He.glo_ok X G c⟩⟩
theorem mat_of {K : PySem.W.Frag} {C x qual : Str} {st : Stmt} {ps : List Str} (e : ∃ fd, FunD K x qual (defArgs st) (defBody st) (defScope st) [] [] (He.ma K (He.ga K C) x) fd) (hb : BindH x qual st ps) (c : (He.Fa.meth C x).ok K = true) : ∃ a : MAt K (He.ga K C) x qual st ps, a.f = He.ma K (He.ga K C) x := by
  obtain ⟨fd, F⟩ := e
  exact ⟨⟨He.ma K (He.ga K C) x, fd, funOf F, FunD.bindsN F hb, He.meth_ok c⟩, rfl⟩
theorem txt_of {K : PySem.W.Frag} {w : World} {h : Heap} {mg : Str → Option Value} (X : K.In h) (G : h.Ns mainGlobals mg) (c : He.SaysX hfa hfn hts [] hex w h K) : Nonempty (Txt K w mg) := by
  obtain ⟨a_common_divisor⟩ := at_of (x := "common_divisor") (st := s_common_divisor) (ps := P_common_divisor) X G (c.t.d.def_ 0 (d := fd_common_divisor) rfl) (fun _ _ _ _ _ _ us hl => match us, hl with | [_, _], _ => rfl) (c.t.d.fact 0 (f := .glo "common_divisor") rfl)
  obtain ⟨a_common_multiple⟩ := at_of (x := "common_multiple") (st := s_common_multiple) (ps := P_common_multiple) X G (c.t.d.def_ 1 (d := fd_common_multiple) rfl) (fun _ _ _ _ _ _ us hl => match us, hl with | [_], _ => rfl) (c.t.d.fact 1 (f := .glo "common_multiple") rfl)
  obtain ⟨a_parts_of_tree⟩ := at_of (x := "parts_of_tree") (st := s_parts_of_tree) (ps := P_parts_of_tree) X G (c.t.d.def_ 2 (d := fd_parts_of_tree) rfl) (fun _ _ _ _ _ _ us hl => match us, hl with | [_], _ => rfl) (c.t.d.fact 2 (f := .glo "parts_of_tree") rfl)
  obtain ⟨a_is_linear⟩ := at_of (x := "is_linear") (st := s_is_linear) (ps := P_is_linear) X G (c.t.d.def_ 3 (d := fd_is_linear) rfl) (fun _ _ _ _ _ _ us hl => match us, hl with | [_], _ => rfl) (c.t.d.fact 3 (f := .glo "is_linear") rfl)
  obtain ⟨a_tree_span⟩ := at_of (x := "tree_span") (st := s_tree_span) (ps := P_tree_span) X G (c.t.d.def_ 4 (d := fd_tree_span) rfl) (fun _ _ _ _ _ _ us hl => match us, hl with | [_], _ => rfl) (c.t.d.fact 4 (f := .glo "tree_span") rfl)
  obtain ⟨a_common_span⟩ := at_of (x := "common_span") (st := s_common_span) (ps := P_common_span) X G (c.t.d.def_ 5 (d := fd_common_span) rfl) (fun _ _ _ _ _ _ us hl => match us, hl with | [_], _ => rfl) (c.t.d.fact 5 (f := .glo "common_span") rfl)
  obtain ⟨a_joined⟩ := at_of (x := "joined") (st := s_joined) (ps := P_joined) X G (c.t.d.def_ 6 (d := fd_joined) rfl) (fun _ _ _ _ _ _ us hl => match us, hl with | [_], _ => rfl) (c.t.d.fact 6 (f := .glo "joined") rfl)
  obtain ⟨a_stretches⟩ := at_of (x := "stretches") (st := s_stretches) (ps := P_stretches) X G (c.t.d.def_ 7 (d := fd_stretches) rfl) (fun _ _ _ _ _ _ us hl => match us, hl with | [_], _ => rfl) (c.t.d.fact 7 (f := .glo "stretches") rfl)
  obtain ⟨a_least_end⟩ := at_of (x := "least_end") (st := s_least_end) (ps := P_least_end) X G (c.t.d.def_ 8 (d := fd_least_end) rfl) (fun _ _ _ _ _ _ us hl => match us, hl with | [_, _], _ => rfl) (c.t.d.fact 8 (f := .glo "least_end") rfl)
  obtain ⟨a_overlaid⟩ := at_of (x := "overlaid") (st := s_overlaid) (ps := P_overlaid) X G (c.t.d.def_ 9 (d := fd_overlaid) rfl) (fun _ _ _ _ _ _ us hl => match us, hl with | [_, _], _ => rfl) (c.t.d.fact 9 (f := .glo "overlaid") rfl)
  obtain ⟨a_signed⟩ := at_of (x := "signed") (st := s_signed) (ps := P_signed) X G (c.t.d.def_ 10 (d := fd_signed) rfl) (fun _ _ _ _ _ _ us hl => match us, hl with | [_, _, _, _], _ => rfl) (c.t.d.fact 10 (f := .glo "signed") rfl)
  obtain ⟨a_widened_pieces⟩ := at_of (x := "widened_pieces") (st := s_widened_pieces) (ps := P_widened_pieces) X G (c.t.d.def_ 11 (d := fd_widened_pieces) rfl) (fun _ _ _ _ _ _ us hl => match us, hl with | [_, _], _ => rfl) (c.t.d.fact 11 (f := .glo "widened_pieces") rfl)
  obtain ⟨a_signs_of⟩ := at_of (x := "signs_of") (st := s_signs_of) (ps := P_signs_of) X G (c.t.d.def_ 12 (d := fd_signs_of) rfl) (fun _ _ _ _ _ _ us hl => match us, hl with | [_, _], _ => rfl) (c.t.d.fact 12 (f := .glo "signs_of") rfl)
  obtain ⟨a_combined⟩ := at_of (x := "combined") (st := s_combined) (ps := P_combined) X G (c.t.d.def_ 13 (d := fd_combined) rfl) (fun _ _ _ _ _ _ us hl => match us, hl with | [_, _, _], _ => rfl) (c.t.d.fact 13 (f := .glo "combined") rfl)
  obtain ⟨a_chosen⟩ := at_of (x := "chosen") (st := s_chosen) (ps := P_chosen) X G (c.t.d.def_ 14 (d := fd_chosen) rfl) (fun _ _ _ _ _ _ us hl => match us, hl with | [_, _, _], _ => rfl) (c.t.d.fact 14 (f := .glo "chosen") rfl)
  obtain ⟨a_divided⟩ := at_of (x := "divided") (st := s_divided) (ps := P_divided) X G (c.t.d.def_ 15 (d := fd_divided) rfl) (fun _ _ _ _ _ _ us hl => match us, hl with | [_, _, _], _ => rfl) (c.t.d.fact 15 (f := .glo "divided") rfl)
  obtain ⟨a_refused⟩ := at_of (x := "refused") (st := s_refused) (ps := P_refused) X G (c.t.d.def_ 16 (d := fd_refused) rfl) (fun _ _ _ _ _ _ us hl => match us, hl with | [_], _ => rfl) (c.t.d.fact 16 (f := .glo "refused") rfl)
  obtain ⟨a_classes_of⟩ := at_of (x := "classes_of") (st := s_classes_of) (ps := P_classes_of) X G (c.t.d.def_ 17 (d := fd_classes_of) rfl) (fun _ _ _ _ _ _ us hl => match us, hl with | [_, _], _ => rfl) (c.t.d.fact 17 (f := .glo "classes_of") rfl)
  obtain ⟨a_plural_classes⟩ := at_of (x := "plural_classes") (st := s_plural_classes) (ps := P_plural_classes) X G (c.t.d.def_ 18 (d := fd_plural_classes) rfl) (fun _ _ _ _ _ _ us hl => match us, hl with | [_, _], _ => rfl) (c.t.d.fact 18 (f := .glo "plural_classes") rfl)
  obtain ⟨a_lowest⟩ := at_of (x := "lowest") (st := s_lowest) (ps := P_lowest) X G (c.t.d.def_ 19 (d := fd_lowest) rfl) (fun _ _ _ _ _ _ us hl => match us, hl with | [_], _ => rfl) (c.t.d.fact 19 (f := .glo "lowest") rfl)
  obtain ⟨a_first_number⟩ := at_of (x := "first_number") (st := s_first_number) (ps := P_first_number) X G (c.t.d.def_ 20 (d := fd_first_number) rfl) (fun _ _ _ _ _ _ us hl => match us, hl with | [_, _], _ => rfl) (c.t.d.fact 20 (f := .glo "first_number") rfl)
  obtain ⟨a_first_signed⟩ := at_of (x := "first_signed") (st := s_first_signed) (ps := P_first_signed) X G (c.t.d.def_ 21 (d := fd_first_signed) rfl) (fun _ _ _ _ _ _ us hl => match us, hl with | [_, _, _], _ => rfl) (c.t.d.fact 21 (f := .glo "first_signed") rfl)
  obtain ⟨a_first_outside⟩ := at_of (x := "first_outside") (st := s_first_outside) (ps := P_first_outside) X G (c.t.d.def_ 22 (d := fd_first_outside) rfl) (fun _ _ _ _ _ _ us hl => match us, hl with | [_, _], _ => rfl) (c.t.d.fact 22 (f := .glo "first_outside") rfl)
  obtain ⟨a_first_values⟩ := at_of (x := "first_values") (st := s_first_values) (ps := P_first_values) X G (c.t.d.def_ 23 (d := fd_first_values) rfl) (fun _ _ _ _ _ _ us hl => match us, hl with | [_, _], _ => rfl) (c.t.d.fact 23 (f := .glo "first_values") rfl)
  obtain ⟨a_last_unlike⟩ := at_of (x := "last_unlike") (st := s_last_unlike) (ps := P_last_unlike) X G (c.t.d.def_ 24 (d := fd_last_unlike) rfl) (fun _ _ _ _ _ _ us hl => match us, hl with | [_, _], _ => rfl) (c.t.d.fact 24 (f := .glo "last_unlike") rfl)
  obtain ⟨a_rest_of⟩ := at_of (x := "rest_of") (st := s_rest_of) (ps := P_rest_of) X G (c.t.d.def_ 25 (d := fd_rest_of) rfl) (fun _ _ _ _ _ _ us hl => match us, hl with | [_], _ => rfl) (c.t.d.fact 25 (f := .glo "rest_of") rfl)
  obtain ⟨a_text⟩ := at_of (x := "text") (st := s_text) (ps := P_text) X G (c.t.d.def_ 26 (d := fd_text) rfl) (fun _ _ _ _ _ _ us hl => match us, hl with | [_], _ => rfl) (c.t.d.fact 26 (f := .glo "text") rfl)
  obtain ⟨a_is_digit⟩ := at_of (x := "is_digit") (st := s_is_digit) (ps := P_is_digit) X G (c.t.d.def_ 27 (d := fd_is_digit) rfl) (fun _ _ _ _ _ _ us hl => match us, hl with | [_], _ => rfl) (c.t.d.fact 27 (f := .glo "is_digit") rfl)
  obtain ⟨a_is_word_code⟩ := at_of (x := "is_word_code") (st := s_is_word_code) (ps := P_is_word_code) X G (c.t.d.def_ 28 (d := fd_is_word_code) rfl) (fun _ _ _ _ _ _ us hl => match us, hl with | [_], _ => rfl) (c.t.d.fact 28 (f := .glo "is_word_code") rfl)
  obtain ⟨a_Reader_init, e_Reader_init⟩ := mat_of (C := "Reader") (x := "__init__") (qual := "Reader.__init__") (st := s_Reader_init) (ps := P_Reader_init) (c.t.d.def_ 29 (d := fd_Reader_init) rfl) (fun _ _ _ _ _ _ us hl => match us, hl with | [_, _], _ => rfl) (c.t.d.fact 94 (f := .meth "Reader" "__init__") rfl)
  obtain ⟨a_Reader_move, e_Reader_move⟩ := mat_of (C := "Reader") (x := "move") (qual := "Reader.move") (st := s_Reader_move) (ps := P_Reader_move) (c.t.d.def_ 30 (d := fd_Reader_move) rfl) (fun _ _ _ _ _ _ us hl => match us, hl with | [_], _ => rfl) (c.t.d.fact 95 (f := .meth "Reader" "move") rfl)
  obtain ⟨a_Reader_move_word, e_Reader_move_word⟩ := mat_of (C := "Reader") (x := "move_word") (qual := "Reader.move_word") (st := s_Reader_move_word) (ps := P_Reader_move_word) (c.t.d.def_ 31 (d := fd_Reader_move_word) rfl) (fun _ _ _ _ _ _ us hl => match us, hl with | [_], _ => rfl) (c.t.d.fact 96 (f := .meth "Reader" "move_word") rfl)
  obtain ⟨a_Reader_move_sign, e_Reader_move_sign⟩ := mat_of (C := "Reader") (x := "move_sign") (qual := "Reader.move_sign") (st := s_Reader_move_sign) (ps := P_Reader_move_sign) (c.t.d.def_ 32 (d := fd_Reader_move_sign) rfl) (fun _ _ _ _ _ _ us hl => match us, hl with | [_], _ => rfl) (c.t.d.fact 97 (f := .meth "Reader" "move_sign") rfl)
  obtain ⟨a_Reader_choice, e_Reader_choice⟩ := mat_of (C := "Reader") (x := "choice") (qual := "Reader.choice") (st := s_Reader_choice) (ps := P_Reader_choice) (c.t.d.def_ 33 (d := fd_Reader_choice) rfl) (fun _ _ _ _ _ _ us hl => match us, hl with | [_], _ => rfl) (c.t.d.fact 98 (f := .meth "Reader" "choice") rfl)
  obtain ⟨a_Reader_level, e_Reader_level⟩ := mat_of (C := "Reader") (x := "level") (qual := "Reader.level") (st := s_Reader_level) (ps := P_Reader_level) (c.t.d.def_ 34 (d := fd_Reader_level) rfl) (fun _ _ _ _ _ _ us hl => match us, hl with | [_, _], _ => rfl) (c.t.d.fact 99 (f := .meth "Reader" "level") rfl)
  obtain ⟨a_Reader_operand, e_Reader_operand⟩ := mat_of (C := "Reader") (x := "operand") (qual := "Reader.operand") (st := s_Reader_operand) (ps := P_Reader_operand) (c.t.d.def_ 35 (d := fd_Reader_operand) rfl) (fun _ _ _ _ _ _ us hl => match us, hl with | [_], _ => rfl) (c.t.d.fact 100 (f := .meth "Reader" "operand") rfl)
  obtain ⟨a_Plural_init, e_Plural_init⟩ := mat_of (C := "Plural") (x := "__init__") (qual := "Plural.__init__") (st := s_Plural_init) (ps := P_Plural_init) (c.t.d.def_ 36 (d := fd_Plural_init) rfl) (fun _ _ _ _ _ _ us hl => match us, hl with | [_, _], _ => rfl) (c.t.d.fact 101 (f := .meth "Plural" "__init__") rfl)
  obtain ⟨a_Plural_tree, e_Plural_tree⟩ := mat_of (C := "Plural") (x := "tree") (qual := "Plural.tree") (st := s_Plural_tree) (ps := P_Plural_tree) (c.t.d.def_ 37 (d := fd_Plural_tree) rfl) (fun _ _ _ _ _ _ us hl => match us, hl with | [_], _ => rfl) (c.t.d.fact 102 (f := .meth "Plural" "tree") rfl)
  obtain ⟨a_l_source⟩ := at_of (x := "_law_source") (st := s_l_source) (ps := P_l_source) X G (c.t.d.def_ 38 (d := fd_l_source) rfl) (fun _ _ _ _ _ _ us hl => match us, hl with | [_, _], _ => rfl) (c.t.d.fact 29 (f := .glo "_law_source") rfl)
  obtain ⟨a_l_draw⟩ := at_of (x := "_law_draw") (st := s_l_draw) (ps := P_l_draw) X G (c.t.d.def_ 39 (d := fd_l_draw) rfl) (fun _ _ _ _ _ _ us hl => match us, hl with | [_, _], _ => rfl) (c.t.d.fact 30 (f := .glo "_law_draw") rfl)
  obtain ⟨a_l_pick⟩ := at_of (x := "_law_pick") (st := s_l_pick) (ps := P_l_pick) X G (c.t.d.def_ 40 (d := fd_l_pick) rfl) (fun _ _ _ _ _ _ us hl => match us, hl with | [_, _], _ => rfl) (c.t.d.fact 31 (f := .glo "_law_pick") rfl)
  obtain ⟨a_l_text⟩ := at_of (x := "_law_text") (st := s_l_text) (ps := P_l_text) X G (c.t.d.def_ 41 (d := fd_l_text) rfl) (fun _ _ _ _ _ _ us hl => match us, hl with | [_], _ => rfl) (c.t.d.fact 32 (f := .glo "_law_text") rfl)
  obtain ⟨a_l_handed⟩ := at_of (x := "_law_handed") (st := s_l_handed) (ps := P_l_handed) X G (c.t.d.def_ 42 (d := fd_l_handed) rfl) (fun _ _ _ _ _ _ us hl => match us, hl with | [_, _], _ => rfl) (c.t.d.fact 33 (f := .glo "_law_handed") rfl)
  obtain ⟨a_l_same⟩ := at_of (x := "_law_same") (st := s_l_same) (ps := P_l_same) X G (c.t.d.def_ 43 (d := fd_l_same) rfl) (fun _ _ _ _ _ _ us hl => match us, hl with | [_, _], _ => rfl) (c.t.d.fact 34 (f := .glo "_law_same") rfl)
  obtain ⟨a_l_leaf⟩ := at_of (x := "_law_leaf") (st := s_l_leaf) (ps := P_l_leaf) X G (c.t.d.def_ 44 (d := fd_l_leaf) rfl) (fun _ _ _ _ _ _ us hl => match us, hl with | [_, _], _ => rfl) (c.t.d.fact 35 (f := .glo "_law_leaf") rfl)
  obtain ⟨a_l_linear⟩ := at_of (x := "_law_linear") (st := s_l_linear) (ps := P_l_linear) X G (c.t.d.def_ 45 (d := fd_l_linear) rfl) (fun _ _ _ _ _ _ us hl => match us, hl with | [_, _, _, _], _ => rfl) (c.t.d.fact 36 (f := .glo "_law_linear") rfl)
  obtain ⟨a_l_compare⟩ := at_of (x := "_law_compare") (st := s_l_compare) (ps := P_l_compare) X G (c.t.d.def_ 46 (d := fd_l_compare) rfl) (fun _ _ _ _ _ _ us hl => match us, hl with | [_, _, _], _ => rfl) (c.t.d.fact 37 (f := .glo "_law_compare") rfl)
  obtain ⟨a_l_value⟩ := at_of (x := "_law_value") (st := s_l_value) (ps := P_l_value) X G (c.t.d.def_ 47 (d := fd_l_value) rfl) (fun _ _ _ _ _ _ us hl => match us, hl with | [_, _], _ => rfl) (c.t.d.fact 38 (f := .glo "_law_value") rfl)
  obtain ⟨a_l_rank⟩ := at_of (x := "_law_rank") (st := s_l_rank) (ps := P_l_rank) X G (c.t.d.def_ 48 (d := fd_l_rank) rfl) (fun _ _ _ _ _ _ us hl => match us, hl with | [_], _ => rfl) (c.t.d.fact 39 (f := .glo "_law_rank") rfl)
  obtain ⟨a_l_written⟩ := at_of (x := "_law_written") (st := s_l_written) (ps := P_l_written) X G (c.t.d.def_ 49 (d := fd_l_written) rfl) (fun _ _ _ _ _ _ us hl => match us, hl with | [_], _ => rfl) (c.t.d.fact 40 (f := .glo "_law_written") rfl)
  obtain ⟨a_l_within⟩ := at_of (x := "_law_within") (st := s_l_within) (ps := P_l_within) X G (c.t.d.def_ 50 (d := fd_l_within) rfl) (fun _ _ _ _ _ _ us hl => match us, hl with | [_, _], _ => rfl) (c.t.d.fact 41 (f := .glo "_law_within") rfl)
  obtain ⟨a_l_divisor⟩ := at_of (x := "_law_divisor") (st := s_l_divisor) (ps := P_l_divisor) X G (c.t.d.def_ 51 (d := fd_l_divisor) rfl) (fun _ _ _ _ _ _ us hl => match us, hl with | [_, _], _ => rfl) (c.t.d.fact 42 (f := .glo "_law_divisor") rfl)
  obtain ⟨a_l_multiple⟩ := at_of (x := "_law_multiple") (st := s_l_multiple) (ps := P_l_multiple) X G (c.t.d.def_ 52 (d := fd_l_multiple) rfl) (fun _ _ _ _ _ _ us hl => match us, hl with | [_], _ => rfl) (c.t.d.fact 43 (f := .glo "_law_multiple") rfl)
  obtain ⟨a_l_span⟩ := at_of (x := "_law_span") (st := s_l_span) (ps := P_l_span) X G (c.t.d.def_ 53 (d := fd_l_span) rfl) (fun _ _ _ _ _ _ us hl => match us, hl with | [_], _ => rfl) (c.t.d.fact 44 (f := .glo "_law_span") rfl)
  obtain ⟨a_l_end⟩ := at_of (x := "_law_end") (st := s_l_end) (ps := P_l_end) X G (c.t.d.def_ 54 (d := fd_l_end) rfl) (fun _ _ _ _ _ _ us hl => match us, hl with | [_], _ => rfl) (c.t.d.fact 45 (f := .glo "_law_end") rfl)
  obtain ⟨a_l_plural⟩ := at_of (x := "_law_plural") (st := s_l_plural) (ps := P_l_plural) X G (c.t.d.def_ 55 (d := fd_l_plural) rfl) (fun _ _ _ _ _ _ us hl => match us, hl with | [_, _], _ => rfl) (c.t.d.fact 46 (f := .glo "_law_plural") rfl)
  obtain ⟨a_l_ten⟩ := at_of (x := "_law_ten") (st := s_l_ten) (ps := P_l_ten) X G (c.t.d.def_ 56 (d := fd_l_ten) rfl) (fun _ _ _ _ _ _ us hl => match us, hl with | [_], _ => rfl) (c.t.d.fact 47 (f := .glo "_law_ten") rfl)
  obtain ⟨a_l_far⟩ := at_of (x := "_law_far") (st := s_l_far) (ps := P_l_far) X G (c.t.d.def_ 57 (d := fd_l_far) rfl) (fun _ _ _ _ _ _ us hl => match us, hl with | [_], _ => rfl) (c.t.d.fact 48 (f := .glo "_law_far") rfl)
  obtain ⟨a_l_planted⟩ := at_of (x := "_law_planted") (st := s_l_planted) (ps := P_l_planted) X G (c.t.d.def_ 58 (d := fd_l_planted) rfl) (fun _ _ _ _ _ _ us hl => match us, hl with | [_, _, _, _, _, _], _ => rfl) (c.t.d.fact 49 (f := .glo "_law_planted") rfl)
  obtain ⟨a_l_tails⟩ := at_of (x := "_law_tails") (st := s_l_tails) (ps := P_l_tails) X G (c.t.d.def_ 59 (d := fd_l_tails) rfl) (fun _ _ _ _ _ _ us hl => match us, hl with | [_, _], _ => rfl) (c.t.d.fact 50 (f := .glo "_law_tails") rfl)
  obtain ⟨a_l_pattern⟩ := at_of (x := "_law_pattern") (st := s_l_pattern) (ps := P_l_pattern) X G (c.t.d.def_ 60 (d := fd_l_pattern) rfl) (fun _ _ _ _ _ _ us hl => match us, hl with | [_], _ => rfl) (c.t.d.fact 51 (f := .glo "_law_pattern") rfl)
  obtain ⟨a_l_drawn⟩ := at_of (x := "_law_drawn") (st := s_l_drawn) (ps := P_l_drawn) X G (c.t.d.def_ 61 (d := fd_l_drawn) rfl) (fun _ _ _ _ _ _ us hl => match us, hl with | [_], _ => rfl) (c.t.d.fact 52 (f := .glo "_law_drawn") rfl)
  obtain ⟨a_l_values_right⟩ := at_of (x := "_law_values_right") (st := s_l_values_right) (ps := P_l_values_right) X G (c.t.d.def_ 62 (d := fd_l_values_right) rfl) (fun _ _ _ _ _ _ us hl => match us, hl with | [_, _], _ => rfl) (c.t.d.fact 53 (f := .glo "_law_values_right") rfl)
  obtain ⟨a_l_outside_right⟩ := at_of (x := "_law_outside_right") (st := s_l_outside_right) (ps := P_l_outside_right) X G (c.t.d.def_ 63 (d := fd_l_outside_right) rfl) (fun _ _ _ _ _ _ us hl => match us, hl with | [_, _, _], _ => rfl) (c.t.d.fact 54 (f := .glo "_law_outside_right") rfl)
  obtain ⟨a_l_rest_right⟩ := at_of (x := "_law_rest_right") (st := s_l_rest_right) (ps := P_l_rest_right) X G (c.t.d.def_ 64 (d := fd_l_rest_right) rfl) (fun _ _ _ _ _ _ us hl => match us, hl with | [_, _, _], _ => rfl) (c.t.d.fact 55 (f := .glo "_law_rest_right") rfl)
  obtain ⟨h1, h2⟩ := Bool.and_eq_true_iff.mp c.more
  obtain ⟨h2, h3⟩ := Bool.and_eq_true_iff.mp h2
  obtain ⟨h3, h4⟩ := Bool.and_eq_true_iff.mp h3
  obtain ⟨tg, eg⟩ := He.int_ok X G (c.t.d.fact 81 (f := .int "GREATEST" 1000) rfl)
  obtain ⟨tp, ep⟩ := He.int_ok X G (c.t.d.fact 82 (f := .int "PERCENT" 37) rfl)
  obtain ⟨es, n, kd⟩ := c.t.tab 0 (t := (fun K => He.ga K "WORDS", ["||", "&&"])) rfl
  exact ⟨{
    common_divisor := a_common_divisor,
    common_multiple := a_common_multiple,
    parts_of_tree := a_parts_of_tree,
    is_linear := a_is_linear,
    tree_span := a_tree_span,
    common_span := a_common_span,
    joined := a_joined,
    stretches := a_stretches,
    least_end := a_least_end,
    overlaid := a_overlaid,
    signed := a_signed,
    widened_pieces := a_widened_pieces,
    signs_of := a_signs_of,
    combined := a_combined,
    chosen := a_chosen,
    divided := a_divided,
    refused := a_refused,
    classes_of := a_classes_of,
    plural_classes := a_plural_classes,
    lowest := a_lowest,
    first_number := a_first_number,
    first_signed := a_first_signed,
    first_outside := a_first_outside,
    first_values := a_first_values,
    last_unlike := a_last_unlike,
    rest_of := a_rest_of,
    text := a_text,
    is_digit := a_is_digit,
    is_word_code := a_is_word_code,
    Reader_init := a_Reader_init,
    Reader_move := a_Reader_move,
    Reader_move_word := a_Reader_move_word,
    Reader_move_sign := a_Reader_move_sign,
    Reader_choice := a_Reader_choice,
    Reader_level := a_Reader_level,
    Reader_operand := a_Reader_operand,
    Plural_init := a_Plural_init,
    Plural_tree := a_Plural_tree,
    l_source := a_l_source,
    l_draw := a_l_draw,
    l_pick := a_l_pick,
    l_text := a_l_text,
    l_handed := a_l_handed,
    l_same := a_l_same,
    l_leaf := a_l_leaf,
    l_linear := a_l_linear,
    l_compare := a_l_compare,
    l_value := a_l_value,
    l_rank := a_l_rank,
    l_written := a_l_written,
    l_within := a_l_within,
    l_divisor := a_l_divisor,
    l_multiple := a_l_multiple,
    l_span := a_l_span,
    l_end := a_l_end,
    l_plural := a_l_plural,
    l_ten := a_l_ten,
    l_far := a_l_far,
    l_planted := a_l_planted,
    l_tails := a_l_tails,
    l_pattern := a_l_pattern,
    l_drawn := a_l_drawn,
    l_values_right := a_l_values_right,
    l_outside_right := a_l_outside_right,
    l_rest_right := a_l_rest_right,
    cReader := He.ga K "Reader",
    cPlural := He.ga K "Plural",
    clReader := He.cls_ok (c.t.d.fact 83 (f := .cls "Reader") rfl),
    mkReader := by rw [e_Reader_init]; exact He.mkr_ok (c.t.d.fact 84 (f := .mkr "Reader") rfl),
    gReader := He.glo_ok X G (c.t.d.fact 57 (f := .glo "Reader") rfl),
    clPlural := He.cls_ok (c.t.d.fact 90 (f := .cls "Plural") rfl),
    mkPlural := by rw [e_Plural_init]; exact He.mkr_ok (c.t.d.fact 91 (f := .mkr "Plural") rfl),
    gPlural := He.glo_ok X G (c.t.d.fact 58 (f := .glo "Plural") rfl),
    nReader_codes := He.noat_ok (c.t.d.fact 85 (f := .noat "Reader" "codes") rfl),
    nReader_after := He.noat_ok (c.t.d.fact 86 (f := .noat "Reader" "after") rfl),
    nReader_word := He.noat_ok (c.t.d.fact 87 (f := .noat "Reader" "word") rfl),
    nReader_number := He.noat_ok (c.t.d.fact 88 (f := .noat "Reader" "number") rfl),
    nReader_begin := He.noat_ok (c.t.d.fact 89 (f := .noat "Reader" "begin") rfl),
    nPlural_codes := He.noat_ok (c.t.d.fact 92 (f := .noat "Plural" "codes") rfl),
    nPlural_rule := He.noat_ok (c.t.d.fact 93 (f := .noat "Plural" "rule") rfl),
    b_len := He.free_ok X G (c.t.d.fact 63 (f := .free "len") rfl),
    b_abs := He.free_ok X G (c.t.d.fact 64 (f := .free "abs") rfl),
    b_ord := He.free_ok X G (c.t.d.fact 65 (f := .free "ord") rfl),
    b_isinstance := He.free_ok X G (c.t.d.fact 66 (f := .free "isinstance") rfl),
    b_all := He.free_ok X G (c.t.d.fact 67 (f := .free "all") rfl),
    b_any := He.free_ok X G (c.t.d.fact 68 (f := .free "any") rfl),
    b_max := He.free_ok X G (c.t.d.fact 69 (f := .free "max") rfl),
    b_min := He.free_ok X G (c.t.d.fact 70 (f := .free "min") rfl),
    b_int := He.free_ok X G (c.t.d.fact 71 (f := .free "int") rfl),
    b_str := He.free_ok X G (c.t.d.fact 72 (f := .free "str") rfl),
    b_list := He.free_ok X G (c.t.d.fact 73 (f := .free "list") rfl),
    b_tuple := He.free_ok X G (c.t.d.fact 74 (f := .free "tuple") rfl),
    b_bool := He.free_ok X G (c.t.d.fact 75 (f := .free "bool") rfl),
    b_set := He.free_ok X G (c.t.d.fact 76 (f := .free "set") rfl),
    b_sorted := He.free_ok X G (c.t.d.fact 77 (f := .free "sorted") rfl),
    b_range := He.free_ok X G (c.t.d.fact 78 (f := .free "range") rfl),
    b_enumerate := He.free_ok X G (c.t.d.fact 79 (f := .free "enumerate") rfl),
    b_zip := He.free_ok X G (c.t.d.fact 80 (f := .free "zip") rfl),
    cSIGNS := ⟨He.ga K "SIGNS", He.glo_ok X G (c.t.d.fact 59 (f := .glo "SIGNS") rfl), fun B => strsAt_ok h1 B⟩,
    cLEVELS := ⟨He.ga K "LEVELS", He.glo_ok X G (c.t.d.fact 60 (f := .glo "LEVELS") rfl), fun B => nestAt_ok h2 B⟩,
    cCOMPARISONS := ⟨He.ga K "COMPARISONS", He.glo_ok X G (c.t.d.fact 61 (f := .glo "COMPARISONS") rfl), fun B => strsAt_ok h3 B⟩,
    tGREATEST := tg,
    mGREATEST := eg,
    tPERCENT := tp,
    mPERCENT := ep,
    aWORDS := He.ga K "WORDS",
    mWORDS := He.glo_ok X G (c.t.d.fact 62 (f := .glo "WORDS") rfl),
    kWORDS := ⟨es, n, kd⟩,
    vWORDS := fun x hx => wordAt_ok (List.all_eq_true.mp h4 x hx) }⟩
theorem facts {P : Program} {w : World} {K : PySem.W.Frag} {h : Heap} {mg : Str → Option Value} {f : Addr} (X : K.In h) (G : h.Ns mainGlobals mg) (hf : mg ("law" : Str) = some (.ref f)) (c : He.SaysX hfa hfn hts [] hex w h K) :
    ∃ fd : FuncData, (∀ (s : Shared) (v : Value), BindsTo s fd ⟨[v], []⟩ [("_law_script", v)]) ∧ ∀ base : Heap, K.In base → base.Ns mainGlobals mg → FnOk P w K mg base CX0 202 f fd ["_law_script"] (spG K Det_law) := by
  obtain ⟨T⟩ := txt_of X G c
  obtain ⟨fd, F⟩ := c.t.d.def_ 65 (d := fd_law) rfl
  have e := hf.symm.trans (He.glo_ok X G (c.t.d.fact 56 (f := .glo "law") rfl))
  cases e
  have b := FunD.bindsA (ps := ["_law_script"]) F fun _ _ _ _ _ _ us hl => match us, hl with | [_], _ => rfl
  exact ⟨fd, fun s v => b s [v] rfl, fun base _ _ => ok_law T (funOf F)⟩
end Ms
set_option Elab.async false
set_option linter.all false
set_option maxRecDepth 100000
set_option maxHeartbeats 0
open PySem PySem.W PySem.Calls PyProof.Rows
theorem PySem.Challenge.cw_messageshelf_k26_whole_answers_fit_toget_holds : PySem.Challenge.rw_messageshelf_k26_whole_answers_fit_toget.Holds := by
  w_on; o_law
  refine HandSHeadRun.head_any (r := Ms.hR) (q := view Ms.hR.prog [78]) (H := Ms.hk) (ob := Ms.hob) (M := 8000) (loose := Ms.hnm) (d := HandSHeadRun.topDef Ms.hR.prog 78) (kwd := []) Ms.hob_eq
    (by kernel_rfl) (fun s => by kernel_rfl) Ms.hrun (by kernel_rfl) (by kernel_rfl) (by kernel_rfl) (by rfl) (by first | assumption | decide +kernel) (by decide +kernel) ⟨rfl, rfl, rfl, rfl, rfl, by decide +kernel⟩ ?hw ?hc
  case hw => w_witness2
  case hc =>
    refine L2.walk_ofE (l := PySem.Challenge.rw_messageshelf_k26_whole_answers_fit_toget) (n := 63) (k := 202) (x := "_law_script") (CX := L2.CX0) rfl (by decide) (by kernel_rfl) ⟨rfl, by decide, by decide⟩ ?F (fun _ _ _ _ z => z)
    intro w mg fa h Y G hmg0
    obtain ⟨K, KX, c⟩ := Y
    have hmg : mg ("law" : PySem.Str) = some (.ref fa) := by
      have e : (HandSHeadRun.topDef Ms.hR.prog 78).name = ("law" : PySem.Str) := by kernel_rfl
      rw [← e]
      exact hmg0
    obtain ⟨fd, hb, hF⟩ := Ms.facts (P := (PySem.Challenge.rw_messageshelf_k26_whole_answers_fit_toget).prog) (w := w) KX G hmg c
    exact ⟨K, fd, Ab.spG K Ms.Det_law, KX, hb, fun H a ns hl _ hS => ⟨H, [.d (.scr ns)], [], L2.Same.refl H, .cons (Ab.DV.scr hS) .nil, ⟨fun x hx => (by cases hx), List.nodup_nil⟩, ns, rfl, rfl, trivial, fun B' H' v _ _ _ r => Ab.dv_bl r⟩, hF⟩
