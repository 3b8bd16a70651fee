import PyProof.Rows.All
import Wide.All
import OpenK.AllK
import Wide.FinOn
import HandS.ForMost
import HandS.Deep
import HandS.Zip
import HandS.TupAny
import KE.SortData
import KE.DataMinMax
import KE.DataAny
import KE.DataIsa
import KE.DataEq
import HandS.TupMul
import HandS.Conv
import KE.KTupSum
import PySem.Challenge.RW_forewarned_k87_posts_that_look_at_one_an
set_option Elab.async false
set_option linter.all false
set_option maxRecDepth 100000
set_option maxHeartbeats 4000000
set_option autoImplicit false
/-! DL, part A: what an expression is worth, as plain data: the judgements EX, TX, AX over a family of contexts, and their rules. -/
namespace DL
open PySem PySem.Spec PyProof.Rows L2

/-- what a value is worth: data that stays; a list that nobody else has; a list to look at now; a value told; the state's own object -/
inductive Rv where
  | dat (d : PyData)
  | own (ds : List PyData)
  | bor (ds : List PyData)
  | val (v : V)
  | tok
abbrev Ev := List (Option Rv)

/-- a state beside the data: its objects (foot), the pointer to it, what it is in the heap -/
structure Res (τ : Type) where
  foot : Addr → Prop
  ptr : V
  R : τ → Hp → Hp → Prop
  keep : ∀ {s : τ} {G H G' H' : Hp}, R s G H → (∀ a o, G a = some o → G' a = some o) → (∀ a, foot a → H' a = H a) → R s G' H'

structure Ext (F : Addr → Prop) (G H G' H' : Hp) : Prop where
  g : ∀ a o, G a = some o → G' a = some o
  h : ∀ a o, H a = some o → ¬ F a → H' a = some o
  n : ∀ a, H a ≠ none → H' a ≠ none
  f : ∀ a, H a ≠ none → G a = none → G' a = none
section
variable {F : Addr → Prop} {G H G1 H1 G2 H2 G' H' : Hp}
theorem Ext.refl : Ext F G H G H := ⟨fun _ _ h => h, fun _ _ h _ => h, fun _ h => h, fun _ _ h => h⟩
theorem Ext.trans (a : Ext F G H G1 H1) (b : Ext F G1 H1 G2 H2) : Ext F G H G2 H2 :=
  ⟨fun x o h => b.g x o (a.g x o h), fun x o h k => b.h x o (a.h x o h k) k, fun x h => b.n x (a.n x h), fun x h k => b.f x (a.n x h) (a.f x h k)⟩
theorem ne_upd {p a : Addr} {o : HO} (h : H a ≠ none) : upd H p o a ≠ none := by
  unfold upd
  split
  · intro z; cases z
  · exact h
theorem ne_fresh {p a : Addr} (h : H a ≠ none) (hp : H p = none) : a ≠ p := fun e => h (by rw [e]; exact hp)
/-- a new object, not data (yet) -/
theorem Ext.new {p : Addr} {o : HO} (hp : H p = none) : Ext F G H G (upd H p o) :=
  ⟨fun _ _ h => h, fun a u h _ => by rw [upd_ne (ne_of_none h hp)]; exact h, fun a h => ne_upd h, fun _ _ h => h⟩
/-- a new object of the data -/
theorem Ext.newD {p : Addr} {o : HO} (hp : H p = none) (le : ∀ a o, G a = some o → H a = some o) : Ext F G H (upd G p o) (upd H p o) :=
  ⟨fun a u h => by rw [upd_ne (ne_of_none (le a u h) hp)]; exact h, fun a u h _ => by rw [upd_ne (ne_of_none h hp)]; exact h, fun a h => ne_upd h, fun a h k => by rw [upd_ne (ne_fresh h hp)]; exact k⟩
/-- an object that is new since H is frozen -/
theorem Ext.frz {p : Addr} {o : HO} (e : Ext F G H G1 H1) (hp : H p = none) (hg : G1 p = none) : Ext F G H (upd G1 p o) H1 :=
  ⟨fun a u h => by rw [upd_ne (ne_of_none (e.g a u h) hg)]; exact e.g a u h, e.h, e.n, fun a h k => by rw [upd_ne (ne_fresh h hp)]; exact e.f a h k⟩
/-- an object that is new since H is written -/
theorem Ext.put {p : Addr} {o : HO} (e : Ext F G H G1 H1) (hp : H p = none) : Ext F G H G1 (upd H1 p o) :=
  ⟨e.g, fun a u h k => by rw [upd_ne (ne_of_none h hp)]; exact e.h a u h k, fun a h => ne_upd (e.n a h), e.f⟩
end

structure GH {τ : Type} (Rs : Res τ) (s : τ) (G H : Hp) : Prop where
  le : ∀ a o, G a = some o → H a = some o
  off : ∀ a, Rs.foot a → G a = none
  ft : ∀ a, Rs.foot a → H a ≠ none
  res : Rs.R s G H
section
variable {τ : Type} {Rs : Res τ} {s : τ} {G H G' H' : Hp}
theorem GH.new {p : Addr} {o : HO} (g : GH Rs s G H) (hp : H p = none) : GH Rs s G (upd H p o) where
  le := fun a u h => by rw [upd_ne (ne_of_none (g.le a u h) hp)]; exact g.le a u h
  off := g.off
  ft := fun a h => ne_upd (g.ft a h)
  res := Rs.keep g.res (fun _ _ h => h) fun a h => upd_ne (ne_fresh (g.ft a h) hp)
theorem GH.newD {p : Addr} {o : HO} (g : GH Rs s G H) (hp : H p = none) : GH Rs s (upd G p o) (upd H p o) where
  le := fun a u h => by
    by_cases e : a = p
    · subst e; rw [upd_same] at h ⊢; exact h
    · rw [upd_ne e] at h ⊢; exact g.le a u h
  off := fun a h => by rw [upd_ne (ne_fresh (g.ft a h) hp)]; exact g.off a h
  ft := fun a h => ne_upd (g.ft a h)
  res := Rs.keep g.res (fun a u h => by rw [upd_ne (ne_of_none (g.le a u h) hp)]; exact h) fun a h => upd_ne (ne_fresh (g.ft a h) hp)
theorem GH.frz {p : Addr} {o : HO} (g : GH Rs s G H) (hp : H p = some o) (hf : ¬ Rs.foot p) (hg : G p = none) : GH Rs s (upd G p o) H where
  le := fun a u h => by
    by_cases e : a = p
    · subst e; rw [upd_same] at h; rw [hp]; exact h
    · rw [upd_ne e] at h; exact g.le a u h
  off := fun a h => by rw [upd_ne (show a ≠ p from fun e => hf (e ▸ h))]; exact g.off a h
  ft := g.ft
  res := Rs.keep g.res (fun a u h => by rw [upd_ne (ne_of_none h hg)]; exact h) fun _ _ => rfl
theorem GH.put {p : Addr} {o : HO} (g : GH Rs s G H) (hg : G p = none) (hf : ¬ Rs.foot p) : GH Rs s G (upd H p o) where
  le := fun a u h => by rw [upd_ne (ne_of_none h hg)]; exact g.le a u h
  off := g.off
  ft := fun a h => ne_upd (g.ft a h)
  res := Rs.keep g.res (fun _ _ h => h) fun a h => upd_ne (show a ≠ p from fun e => hf (e ▸ h))
theorem GH.nofoot {p : Addr} (g : GH Rs s G H) (hp : H p = none) : ¬ Rs.foot p := fun h => g.ft p h hp
theorem GH.nog {p : Addr} (g : GH Rs s G H) (hp : H p = none) : G p = none := by
  cases e : G p with
  | none => rfl
  | some o => have := g.le p o e; rw [hp] at this; cases this
end

/-! ### data stay where the heap grows -/
theorem sqT_mono {K : PySem.W.Frag} {G G' : Hp} {a : Addr} {xs : List V} (e : ∀ a o, G a = some o → G' a = some o) (h : SqT K G a xs) : SqT K G' a xs := by
  rcases h with (h | ⟨o, h⟩) | h
  · exact .inl (.inl (e _ _ h))
  · exact .inl (.inr ⟨o, e _ _ h⟩)
  · exact .inr h
theorem sqL_mono {K : PySem.W.Frag} {G G' : Hp} {a : Addr} {xs : List V} (e : ∀ a o, G a = some o → G' a = some o) (h : SqL K G a xs) : SqL K G' a xs := by
  rcases h with (h | ⟨o, h⟩) | h
  · exact .inl (.inl (e _ _ h))
  · exact .inl (.inr ⟨o, e _ _ h⟩)
  · exact .inr h
mutual
theorem dp_mono {K : PySem.W.Frag} {G G' : Hp} (e : ∀ a o, G a = some o → G' a = some o) : ∀ (d : PyData) (v : V), Dp K G v d → Dp K G' v d
  | .none, _, h => by cases h; exact .non
  | .bool b, _, h => by cases h; exact .bl b
  | .int i, _, h => by cases h; exact .int i
  | .str x, _, h => by cases h; exact .str x
  | .list ds, _, h => by
    cases h with
    | lst hs ha => exact .lst (sqL_mono e hs) (dpa_mono e ds _ ha)
  | .tuple ds, _, h => by
    cases h with
    | tup hs ha => exact .tup (sqT_mono e hs) (dpa_mono e ds _ ha)
  | .dict _, _, h => by cases h
theorem dpa_mono {K : PySem.W.Frag} {G G' : Hp} (e : ∀ a o, G a = some o → G' a = some o) : ∀ (ds : List PyData) (vs : List V), DpAll K G vs ds → DpAll K G' vs ds
  | [], _, h => by cases h; exact .nil
  | d :: ds, _, h => by
    cases h with
    | cons h1 h2 => exact .cons (dp_mono e d _ h1) (dpa_mono e ds _ h2)
end
section
variable {K : PySem.W.Frag} {G H : Hp}
theorem dpa_len : ∀ {vs : List V} {ds : List PyData}, DpAll K G vs ds → vs.length = ds.length
  | _, _, .nil => rfl
  | _, _, .cons _ t => by rw [List.length_cons, List.length_cons, dpa_len t]
theorem dpa_app : ∀ {vs ws : List V} {ds es : List PyData}, DpAll K G vs ds → DpAll K G ws es → DpAll K G (vs ++ ws) (ds ++ es)
  | _, _, _, _, .nil, s => s
  | _, _, _, _, .cons r t, s => .cons r (dpa_app t s)
theorem dpa_snoc {vs : List V} {ds : List PyData} {v : V} {d : PyData} (h : DpAll K G vs ds) (r : Dp K G v d) : DpAll K G (vs ++ [v]) (ds ++ [d]) := dpa_app h (.cons r .nil)
theorem dpa_get : ∀ {vs : List V} {ds : List PyData} {i : Nat} {v : V}, DpAll K G vs ds → vs[i]? = some v → ∃ d, ds[i]? = some d ∧ Dp K G v d
  | _, _, _, _, .nil, e => by simp at e
  | _, _, 0, _, .cons r _, e => by simp at e; subst e; exact ⟨_, rfl, r⟩
  | _, _, i + 1, _, .cons _ t, e => by
    obtain ⟨d, h1, h2⟩ := dpa_get (i := i) t (by simpa using e)
    exact ⟨d, by simpa using h1, h2⟩
theorem dpa_get' : ∀ {vs : List V} {ds : List PyData} {i : Nat} {d : PyData}, DpAll K G vs ds → ds[i]? = some d → ∃ v, vs[i]? = some v ∧ Dp K G v d
  | _, _, _, _, .nil, e => by simp at e
  | _, _, 0, _, .cons r _, e => by simp at e; subst e; exact ⟨_, rfl, r⟩
  | _, _, i + 1, _, .cons _ t, e => by
    obtain ⟨d, h1, h2⟩ := dpa_get' (i := i) t (by simpa using e)
    exact ⟨d, by simpa using h1, h2⟩
theorem dpa_take : ∀ {vs : List V} {ds : List PyData} (n : Nat), DpAll K G vs ds → DpAll K G (vs.take n) (ds.take n)
  | _, _, 0, _ => .nil
  | _, _, _ + 1, .nil => .nil
  | _, _, n + 1, .cons r t => .cons r (dpa_take n t)
theorem dpa_drop : ∀ {vs : List V} {ds : List PyData} (n : Nat), DpAll K G vs ds → DpAll K G (vs.drop n) (ds.drop n)
  | _, _, 0, r => r
  | _, _, _ + 1, .nil => .nil
  | _, _, n + 1, .cons _ t => dpa_drop n t
theorem dpa_ints : ∀ {vs : List V} (ns : List Int), DpAll K G vs (ns.map PyData.int) → vs = ns.map V.int
  | _, [], h => by cases h; rfl
  | _, n :: ns, h => by
    cases h with
    | cons h1 h2 => cases h1; rw [dpa_ints ns h2]; rfl
theorem dpa_of_ints : ∀ (ns : List Int), DpAll K G (ns.map V.int) (ns.map PyData.int)
  | [] => .nil
  | n :: ns => .cons (.int n) (dpa_of_ints ns)
theorem dpa_bools : ∀ {vs : List V} (bs : List Bool), DpAll K G vs (bs.map PyData.bool) → vs = bs.map V.bl
  | _, [], h => by cases h; rfl
  | _, n :: ns, h => by
    cases h with
    | cons h1 h2 => cases h1; rw [dpa_bools ns h2]; rfl
end

/-! ### what a result is, in the heap -/
def Rr {τ : Type} (K : PySem.W.Frag) (Rs : Res τ) (G H : Hp) (v : V) : Rv → Prop
  | .dat d => Dp K G v d
  | .own ds => ∃ p vs, v = .ref p ∧ ¬ Rs.foot p ∧ G p = none ∧ H p = some (.lst vs) ∧ DpAll K G vs ds
  | .bor ds => ∃ p vs, v = .ref p ∧ ¬ Rs.foot p ∧ H p = some (.lst vs) ∧ DpAll K G vs ds
  | .val x => v = x
  | .tok => v = Rs.ptr
/-- an own list is new since H -/
def Frs (H : Hp) (v : V) : Rv → Prop
  | .own _ => ∀ p, v = .ref p → H p = none
  | _ => True
section
variable {τ : Type} {K : PySem.W.Frag} {Rs : Res τ} {G H G' H' : Hp} {v : V} {r : Rv}
theorem Rr.ext (h : Rr K Rs G H v r) (e : Ext Rs.foot G H G' H') : Rr K Rs G' H' v r := by
  cases r with
  | dat d => exact dp_mono e.g d v h
  | own ds =>
    obtain ⟨p, vs, rfl, hf, hg, hh, hd⟩ := h
    exact ⟨p, vs, rfl, hf, e.f p (by rw [hh]; exact fun z => nomatch z) hg, e.h p _ hh hf, dpa_mono e.g ds _ hd⟩
  | bor ds =>
    obtain ⟨p, vs, rfl, hf, hh, hd⟩ := h
    exact ⟨p, vs, rfl, hf, e.h p _ hh hf, dpa_mono e.g ds _ hd⟩
  | val x => exact h
  | tok => exact h
/-- as data to be read now -/
def asD : Rv → Option PyData
  | .dat d => some d
  | .own ds => some (.list ds)
  | .bor ds => some (.list ds)
  | _ => none
theorem Rr.dp {d : PyData} (h : Rr K Rs G H v r) (le : ∀ a o, G a = some o → H a = some o) (e : asD r = some d) : Dp K H v d := by
  cases r with
  | dat d' => cases e; exact dp_mono le d v h
  | own ds =>
    cases e
    obtain ⟨p, vs, rfl, hf, hg, hh, hd⟩ := h
    exact .lst (SqL.of hh) (dpa_mono le ds _ hd)
  | bor ds =>
    cases e
    obtain ⟨p, vs, rfl, hf, hh, hd⟩ := h
    exact .lst (SqL.of hh) (dpa_mono le ds _ hd)
  | val x => cases e
  | tok => cases e
/-- a list or a tuple: its items -/
def itemsOf : Rv → Option (List PyData)
  | .dat (.list ds) => some ds
  | .dat (.tuple ds) => some ds
  | .own ds => some ds
  | .bor ds => some ds
  | _ => none
theorem Rr.seq {ds : List PyData} (h : Rr K Rs G H v r) (le : ∀ a o, G a = some o → H a = some o) (e : itemsOf r = some ds) :
    ∃ p vs, v = .ref p ∧ (SqL K H p vs ∨ SqT K H p vs) ∧ DpAll K G vs ds := by
  cases r with
  | dat d =>
    cases d with
    | list xs =>
      cases e
      cases h with
      | lst hs ha => exact ⟨_, _, rfl, .inl (sqL_mono le hs), ha⟩
    | tuple xs =>
      cases e
      cases h with
      | tup hs ha => exact ⟨_, _, rfl, .inr (sqT_mono le hs), ha⟩
    | _ => cases e
  | own ds =>
    cases e
    obtain ⟨p, vs, rfl, hf, hg, hh, hd⟩ := h
    exact ⟨p, vs, rfl, .inl (SqL.of hh), hd⟩
  | bor ds =>
    cases e
    obtain ⟨p, vs, rfl, hf, hh, hd⟩ := h
    exact ⟨p, vs, rfl, .inl (SqL.of hh), hd⟩
  | val x => cases e
  | tok => cases e
def listOf : Rv → Option (List PyData)
  | .dat (.list ds) => some ds
  | .own ds => some ds
  | .bor ds => some ds
  | _ => none
theorem Rr.lst {ds : List PyData} (h : Rr K Rs G H v r) (le : ∀ a o, G a = some o → H a = some o) (e : listOf r = some ds) :
    ∃ p vs, v = .ref p ∧ SqL K H p vs ∧ DpAll K G vs ds := by
  cases r with
  | dat d =>
    cases d with
    | list xs =>
      cases e
      cases h with
      | lst hs ha => exact ⟨_, _, rfl, sqL_mono le hs, ha⟩
    | _ => cases e
  | own ds =>
    cases e
    obtain ⟨p, vs, rfl, hf, hg, hh, hd⟩ := h
    exact ⟨p, vs, rfl, (SqL.of hh), hd⟩
  | bor ds =>
    cases e
    obtain ⟨p, vs, rfl, hf, hh, hd⟩ := h
    exact ⟨p, vs, rfl, (SqL.of hh), hd⟩
  | val x => cases e
  | tok => cases e
end

/-! ### the frame's slots -/
structure SI {τ : Type} (K : PySem.W.Frag) (Rs : Res τ) (G0 H0 : Hp) (ρ : Ev) (σ : L2.St) (G H : Hp) : Prop where
  base : Ext Rs.foot G0 H0 G H
  len : σ.length = ρ.length
  slot : ∀ (i : Nat) (r : Rv), ρ[i]? = some (some r) → ∃ v, σ[i]? = some (some v) ∧ Rr K Rs G H v r
  own : ∀ (i j : Nat) (p : Addr) (ds es : List PyData), ρ[i]? = some (some (.own ds)) → ρ[j]? = some (some (.own es)) → σ[i]? = some (some (.ref p)) → σ[j]? = some (some (.ref p)) → i = j
  new : ∀ (i : Nat) (p : Addr) (ds : List PyData), ρ[i]? = some (some (.own ds)) → σ[i]? = some (some (.ref p)) → H0 p = none
  nob : ∀ (i : Nat) (ds : List PyData), ρ[i]? ≠ some (some (.bor ds))
section
variable {τ : Type} {K : PySem.W.Frag} {Rs : Res τ} {G0 H0 G H G' H' : Hp} {ρ : Ev} {σ : L2.St}
theorem SI.ext (h : SI K Rs G0 H0 ρ σ G H) (e : Ext Rs.foot G H G' H') : SI K Rs G0 H0 ρ σ G' H' :=
  ⟨h.base.trans e, h.len, fun i r q => by
    obtain ⟨v, e1, e2⟩ := h.slot i r q
    exact ⟨v, e1, e2.ext e⟩, h.own, h.new, h.nob⟩
end

/-- what follows from a result -/
def Post {τ : Type} (K : PySem.W.Frag) (Rs : Res τ) (G H : Hp) (s' : τ) (r : Rv) (Q : VK) : Prop :=
  ∀ v G' H', GH Rs s' G' H' → Ext Rs.foot G H G' H' → Rr K Rs G' H' v r → Frs H v r → Q v H'
def ESem {τ : Type} (K : PySem.W.Frag) (Rs : Res τ) (t : TE) (f : Ev → τ → Option (Rv × τ)) : Prop :=
  ∀ G0 H0 ρ s r s' σ G H (Q : VK), f ρ s = some (r, s') → SI K Rs G0 H0 ρ σ G H → GH Rs s G H → Post K Rs G H s' r Q → t σ H Q
def EX {ι π τ : Type} (Y : ι → Cx) (K : PySem.W.Frag) (Rs : π → Res τ) (e : Expr) (f : Ev → τ → Option (Rv × τ)) : Prop := ∃ t, (∀ i, PE (Y i) e t) ∧ ∀ pp, ESem K (Rs pp) t f
def PostT {τ : Type} (Rs : Res τ) (G H : Hp) (s' : τ) (b : Bool) (Q : Bool → Hp → Prop) : Prop :=
  ∀ G' H', GH Rs s' G' H' → Ext Rs.foot G H G' H' → Q b H'
def TSem {τ : Type} (K : PySem.W.Frag) (Rs : Res τ) (t : TT) (f : Ev → τ → Option (Bool × τ)) : Prop :=
  ∀ G0 H0 ρ s b s' σ G H (Q : Bool → Hp → Prop), f ρ s = some (b, s') → SI K Rs G0 H0 ρ σ G H → GH Rs s G H → PostT Rs G H s' b Q → t σ H Q
def TX {ι π τ : Type} (Y : ι → Cx) (K : PySem.W.Frag) (Rs : π → Res τ) (e : Expr) (f : Ev → τ → Option (Bool × τ)) : Prop := ∃ t, (∀ i, PT (Y i) e t) ∧ ∀ pp, TSem K (Rs pp) t f
def WX {ι π τ : Type} (Y : ι → Cx) (K : PySem.W.Frag) (Rs : π → Res τ) (e : Expr) (f : Ev → τ → Option (Bool × τ)) : Prop := ∃ t, (∀ i, PW (Y i) e t) ∧ ∀ pp, TSem K (Rs pp) t f
abbrev Rrs {τ : Type} (K : PySem.W.Frag) (Rs : Res τ) (G H : Hp) : List V → List Rv → Prop := Paired fun v r => Rr K Rs G H v r
theorem Rrs.ext {τ : Type} {K : PySem.W.Frag} {Rs : Res τ} {G H G' H' : Hp} (e : Ext Rs.foot G H G' H') : ∀ {vs : List V} {rs : List Rv}, Rrs K Rs G H vs rs → Rrs K Rs G' H' vs rs
  | _, _, .nil => .nil
  | _, _, .cons r t => .cons (r.ext e) (Rrs.ext e t)
def PostA {τ : Type} (K : PySem.W.Frag) (Rs : Res τ) (G H : Hp) (s' : τ) (rs : List Rv) (Q : List V → Hp → Prop) : Prop :=
  ∀ vs G' H', GH Rs s' G' H' → Ext Rs.foot G H G' H' → Rrs K Rs G' H' vs rs → Q vs H'
def ASem {τ : Type} (K : PySem.W.Frag) (Rs : Res τ) (t : TA) (f : Ev → τ → Option (List Rv × τ)) : Prop :=
  ∀ G0 H0 ρ s rs s' σ G H (Q : List V → Hp → Prop), f ρ s = some (rs, s') → SI K Rs G0 H0 ρ σ G H → GH Rs s G H → PostA K Rs G H s' rs Q → t σ H Q
def AX {ι π τ : Type} (Y : ι → Cx) (K : PySem.W.Frag) (Rs : π → Res τ) (es : List Expr) (f : Ev → τ → Option (List Rv × τ)) : Prop := ∃ t, (∀ i, PA (Y i) es t) ∧ ∀ pp, ASem K (Rs pp) t f

/-! ### the plain functions -/
section
variable {τ : Type}
abbrev EF (τ : Type) := Ev → τ → Option (Rv × τ)
abbrev BF (τ : Type) := Ev → τ → Option (Bool × τ)
abbrev AF (τ : Type) := Ev → τ → Option (List Rv × τ)
def seen : Rv → Rv
  | .own ds => .bor ds
  | r => r
def dVar (i : Nat) : EF τ := fun ρ s => match ρ[i]? with
  | some (some r) => some (seen r, s)
  | _ => none
def dC (r : Rv) : EF τ := fun _ s => some (r, s)
def dBin (op : Rv → Rv → Option Rv) (fa fb : EF τ) : EF τ := fun ρ s => (fa ρ s).bind fun x => (fb ρ x.2).bind fun y => (op x.1 y.1).map fun r => (r, y.2)
def dUn (op : Rv → Option Rv) (fa : EF τ) : EF τ := fun ρ s => (fa ρ s).bind fun x => (op x.1).map fun r => (r, x.2)
/-- an own list is made data -/
def frz : Rv → Option Rv
  | .own ds => some (.dat (.list ds))
  | .bor _ => none
  | r => some r
def dFrz (fa : EF τ) : EF τ := fun ρ s => (fa ρ s).bind fun x => (frz x.1).map fun r => (r, x.2)
def dTest (fa : EF τ) : BF τ := fun ρ s => (fa ρ s).bind fun x => match x.1 with
  | .dat (.bool b) => some (b, x.2)
  | _ => none
def dNot (f : BF τ) : BF τ := fun ρ s => (f ρ s).map fun x => (!x.1, x.2)
def dAnd (f g : BF τ) : BF τ := fun ρ s => (f ρ s).bind fun x => if x.1 = true then g ρ x.2 else some (false, x.2)
def dOr (f g : BF τ) : BF τ := fun ρ s => (f ρ s).bind fun x => if x.1 = true then some (true, x.2) else g ρ x.2
def dAndV (f : EF τ) (g : EF τ) : EF τ := fun ρ s => (dTest f ρ s).bind fun x => if x.1 = true then g ρ x.2 else some (.dat (.bool false), x.2)
def dOrV (f : EF τ) (g : EF τ) : EF τ := fun ρ s => (dTest f ρ s).bind fun x => if x.1 = true then some (.dat (.bool true), x.2) else g ρ x.2
def dNotV (f : EF τ) : EF τ := fun ρ s => (dTest f ρ s).map fun x => (.dat (.bool (!x.1)), x.2)
def dIf (c : BF τ) (a b : EF τ) : EF τ := fun ρ s => (c ρ s).bind fun x => if x.1 = true then a ρ x.2 else b ρ x.2
def dNil : AF τ := fun _ s => some ([], s)
def dCons (fa : EF τ) (fr : AF τ) : AF τ := fun ρ s => (fa ρ s).bind fun x => (fr ρ x.2).map fun y => (x.1 :: y.1, y.2)
def datsOf : List Rv → Option (List PyData)
  | [] => some []
  | .dat d :: r => (datsOf r).map fun ds => d :: ds
  | _ :: _ => none
def dTup (fr : AF τ) : EF τ := fun ρ s => (fr ρ s).bind fun x => if x.1.length ≤ 16777216 then (datsOf x.1).map fun ds => (.dat (.tuple ds), x.2) else none
def dLst (fr : AF τ) : EF τ := fun ρ s => (fr ρ s).bind fun x => if x.1.length ≤ 16777216 then (datsOf x.1).map fun ds => (.own ds, x.2) else none
def dCall (fn : List Rv → Option Rv) (fr : AF τ) : EF τ := fun ρ s => (fr ρ s).bind fun x => (fn x.1).map fun r => (r, x.2)
/-- a call of a def: the arguments are data -/
def argOk : Rv → Bool
  | .dat _ => true
  | .val _ => true
  | .tok => true
  | _ => false
def dFn (F : List Rv → τ → Option (Rv × τ)) (fr : AF τ) : EF τ := fun ρ s => (fr ρ s).bind fun x => if x.1.all argOk = true then F x.1 x.2 else none
end

/-! ### rules -/
section
variable {ι π τ : Type} {Y : ι → Cx} {K : PySem.W.Frag} {RR : π → Res τ} {Rs : Res τ} {x : Str} {pos p : Pos} {a b c e : Expr} {es : List Expr} {fa fb f g : EF τ} {fr : AF τ} {bf bg : BF τ}
theorem esem_c {v : V} {r : Rv} (h : ∀ G H, Rr K Rs G H v r) (hn : ∀ H, Frs H v r) : ESem K Rs (tC v) (dC r) := by
  intro G0 H0 ρ s r' s' σ G H Q e si g q
  cases e
  exact q v G H g .refl (h G H) (hn H)
theorem e_int {i : Int} {j} : EX Y K RR (.Constant (.int i) j pos) (dC (.dat (.int i))) := ⟨_, fun _ => pe_int, fun _ => esem_c (fun _ _ => Dp.int i) fun _ => trivial⟩
theorem e_bool {i : Bool} {j} : EX Y K RR (.Constant (.bool i) j pos) (dC (.dat (.bool i))) := ⟨_, fun _ => pe_bl, fun _ => esem_c (fun _ _ => Dp.bl i) fun _ => trivial⟩
theorem e_none {j} : EX Y K RR (.Constant .none j pos) (dC (.dat .none)) := ⟨_, fun _ => pe_non, fun _ => esem_c (fun _ _ => Dp.non) fun _ => trivial⟩
theorem e_str {i : Str} {j} : EX Y K RR (.Constant (.str i) j pos) (dC (.dat (.str i))) := ⟨_, fun _ => pe_str, fun _ => esem_c (fun _ _ => Dp.str i) fun _ => trivial⟩
/-- a built-in's name as a value -/
theorem e_bltn {v : V} {u : Value} (hg : ∀ i, Gl (Y i) x) (hm : ∀ i, (Y i).mg x = none) (hv : bootBuiltins x = some u) (r : RelV v u) (hn : x ≠ "__name__" := by decide) (hd : (x == ("__debug__" : Str)) = false := by decide) :
    EX Y K RR (.Name x pos) (dC (.val v)) := ⟨_, fun i => pe_bltn (hg i) (hm i) hv r hn hd, fun _ => esem_c (fun _ _ => rfl) fun _ => trivial⟩
theorem e_var (i : Nat) (hN : ∀ j, (Y j).N[i]? = some x := by intro _; rfl) (hv : ∀ j, Vis (Y j).env.scope x := by intro _; first | exact Or.inl rfl | exact Or.inr (Or.inl rfl) | exact Or.inr (Or.inr rfl))
    (hd : (x == ("__debug__" : Str)) = false := by decide) (hcd : (x == ("__classdict__" : Str)) = false := by decide) : EX Y K RR (.Name x pos) (dVar i) := by
  refine ⟨_, fun j => pe_var (hN j) (hv j) hd hcd, ?_⟩
  intro pp G0 H0 ρ s r s' σ G H Q e si g q
  unfold dVar at e
  split at e
  · rename_i r0 e0
    cases e
    obtain ⟨v, e1, e2⟩ := si.slot i r0 e0
    refine ⟨v, e1, ?_⟩
    cases r0 with
    | own ds =>
      obtain ⟨p, vs, rfl, hf, hg, hh, hd⟩ := e2
      exact q _ G H g .refl ⟨p, vs, rfl, hf, hh, hd⟩ trivial
    | dat d => exact q v G H g .refl e2 trivial
    | bor d => exact q v G H g .refl e2 trivial
    | val d => exact q v G H g .refl e2 trivial
    | tok => exact q v G H g .refl e2 trivial
  · cases e

/-- an operation on values -/
def OSem {τ : Type} (K : PySem.W.Frag) (Rs : Res τ) (r2 : R2) (op : Rv → Rv → Option Rv) : Prop :=
  ∀ (s : τ) x y r v w G H (Q : VK), op x y = some r → GH Rs s G H → Rr K Rs G H v x → Rr K Rs G H w y → Post K Rs G H s r Q → r2 v w H Q
def OX {ι π τ : Type} (Y : ι → Cx) (K : PySem.W.Frag) (Rs : π → Res τ) (F : Value → Value → Sem Value) (op : Rv → Rv → Option Rv) : Prop := ∃ r2, (∀ i, OpR (Y i) F r2) ∧ ∀ pp, OSem K (Rs pp) r2 op
theorem post_le {G H G1 H1 : Hp} {s' : τ} {r : Rv} {Q : VK} (e : Ext Rs.foot G H G1 H1) (q : Post K Rs G H s' r Q) : Post K Rs G1 H1 s' r Q := fun v G' H' g e' rr fr => by
  refine q v G' H' g (e.trans e') rr ?_
  cases r with
  | own ds =>
    intro p hp
    have h1 : H1 p = none := fr p hp
    cases h2 : H p with
    | none => rfl
    | some o => exact absurd h1 (e.n p (by rw [h2]; exact fun z => nomatch z))
  | _ => trivial
theorem e_tOp {r2 : R2} {op : Rv → Rv → Option Rv} {ta tb : TE} (ho : OSem K Rs r2 op) (ha : ESem K Rs ta fa) (hb : ESem K Rs tb fb) : ESem K Rs (tOp r2 ta tb) (dBin op fa fb) := by
  intro G0 H0 ρ s r s' σ G H Q e si g q
  unfold dBin at e
  cases e1 : fa ρ s with
  | none => rw [e1] at e; cases e
  | some x =>
    obtain ⟨x, s1⟩ := x
    rw [e1] at e
    cases e2 : fb ρ s1 with
    | none => simp only [Option.bind_some, e2] at e; cases e
    | some y =>
      obtain ⟨y, s2⟩ := y
      simp only [Option.bind_some, e2] at e
      cases e3 : op x y with
      | none => rw [e3] at e; cases e
      | some z =>
        rw [e3] at e
        cases e
        refine ha G0 H0 ρ s x s1 σ G H _ e1 si g fun v G1 H1 g1 x1 r1 _ => ?_
        refine hb G0 H0 ρ s1 y _ σ G1 H1 _ e2 (si.ext x1) g1 fun w G2 H2 g2 x2 r2' _ => ?_
        exact ho _ x y _ v w G2 H2 Q e3 g2 (r1.ext x2) r2' (post_le (x1.trans x2) q)
theorem e_bin {op : Operator} {o : Rv → Rv → Option Rv} (ho : OX Y K RR (binaryOp op) o) (ha : EX Y K RR a fa) (hb : EX Y K RR b fb) : EX Y K RR (.BinOp a op b pos) (dBin o fa fb) := by
  obtain ⟨r2, h1, h2⟩ := ho
  obtain ⟨ta, a1, a2⟩ := ha
  obtain ⟨tb, b1, b2⟩ := hb
  exact ⟨_, fun i => pe_op (h1 i) (a1 i) (b1 i), fun pp => e_tOp (h2 pp) (a2 pp) (b2 pp)⟩
theorem e_cmp {op : CmpOp} {o : Rv → Rv → Option Rv} (ho : OX Y K RR (compareOp op) o) (ha : EX Y K RR a fa) (hb : EX Y K RR b fb) (hm : behindInMarks op b = false := by first | exact nomark _ | rfl) : EX Y K RR (.Compare a [op] [b] pos) (dBin o fa fb) := by
  obtain ⟨r2, h1, h2⟩ := ho
  obtain ⟨ta, a1, a2⟩ := ha
  obtain ⟨tb, b1, b2⟩ := hb
  exact ⟨_, fun i => pe_cmpR (h1 i) (a1 i) (b1 i) hm, fun pp => e_tOp (h2 pp) (a2 pp) (b2 pp)⟩
theorem tsem_of {te : TE} (h : ESem K Rs te f) : TSem K Rs (tTest te) (dTest f) := by
  intro G0 H0 ρ s b s' σ G H Q e si g q
  unfold dTest at e
  cases e1 : f ρ s with
  | none => rw [e1] at e; cases e
  | some x =>
    obtain ⟨x, s1⟩ := x
    rw [e1] at e
    simp only [Option.bind_some] at e
    split at e
    · rename_i b' hx
      cases e
      refine h G0 H0 ρ s _ _ σ G H _ e1 si g fun v G1 H1 g1 x1 r1 _ => ?_
      cases r1
      exact ⟨_, rfl, q G1 H1 g1 x1⟩
    · cases e
theorem t_cmp {op : CmpOp} {o : Rv → Rv → Option Rv} (ho : OX Y K RR (compareOp op) o) (ha : EX Y K RR a fa) (hb : EX Y K RR b fb) (hm : behindInMarks op b = false := by first | exact nomark _ | rfl) : TX Y K RR (.Compare a [op] [b] pos) (dTest (dBin o fa fb)) := by
  obtain ⟨r2, h1, h2⟩ := ho
  obtain ⟨ta, a1, a2⟩ := ha
  obtain ⟨tb, b1, b2⟩ := hb
  exact ⟨_, fun i => pt_cmpR (h1 i) (a1 i) (b1 i) hm, fun pp => tsem_of (e_tOp (h2 pp) (a2 pp) (b2 pp))⟩
theorem t_val (h : EX Y K RR e f) (he : ∀ i, ∀ whole, isTrue e (Y i).env whole = (do let v ← whole; standAt e.pos; holding [v] (truthy v)) := by intro _ _; rfl) : TX Y K RR e (dTest f) := by
  obtain ⟨t, h1, h2⟩ := h
  exact ⟨_, fun i => pt_val (h1 i) (he i), fun pp => tsem_of (h2 pp)⟩
theorem t_not (h : TX Y K RR e bf) : TX Y K RR (.UnaryOp .Not e pos) (dNot bf) := by
  obtain ⟨t, h1, h2⟩ := h
  refine ⟨_, fun i => pt_not (h1 i), ?_⟩
  intro pp G0 H0 ρ s b s' σ G H Q e si g q
  unfold dNot at e
  cases e1 : bf ρ s with
  | none => rw [e1] at e; cases e
  | some x =>
    obtain ⟨x, s1⟩ := x
    rw [e1] at e
    cases e
    exact h2 pp G0 H0 ρ s x s1 σ G H _ e1 si g fun G1 H1 g1 x1 => q G1 H1 g1 x1
theorem t_pw (h : WX Y K RR e bf) : TX Y K RR e bf := by
  obtain ⟨t, h1, h2⟩ := h
  exact ⟨t, fun i => (h1 i).pt, h2⟩
theorem w_and1 (h : TX Y K RR a bf) : WX Y K RR (.BoolOp .And [a] pos) bf := by
  obtain ⟨t, h1, h2⟩ := h
  exact ⟨t, fun i => pw_and1 (h1 i), h2⟩
theorem w_or1 (h : TX Y K RR a bf) : WX Y K RR (.BoolOp .Or [a] pos) bf := by
  obtain ⟨t, h1, h2⟩ := h
  exact ⟨t, fun i => pw_or1 (h1 i), h2⟩
theorem postT_le {G H G1 H1 : Hp} {s' : τ} {b : Bool} {Q : Bool → Hp → Prop} (e : Ext Rs.foot G H G1 H1) (q : PostT Rs G H s' b Q) : PostT Rs G1 H1 s' b Q := fun G' H' g e' => q G' H' g (e.trans e')
theorem w_and {r : List Expr} (h : TX Y K RR a bf) (h' : WX Y K RR (.BoolOp .And (b :: r) pos) bg) : WX Y K RR (.BoolOp .And (a :: b :: r) pos) (dAnd bf bg) := by
  obtain ⟨t, h1, h2⟩ := h
  obtain ⟨u, k1, k2⟩ := h'
  refine ⟨_, fun i => pw_and (h1 i) (k1 i), ?_⟩
  intro pp G0 H0 ρ s b s' σ G H Q e si g q
  unfold dAnd at e
  cases e1 : bf ρ s with
  | none => rw [e1] at e; cases e
  | some x =>
    obtain ⟨x, s1⟩ := x
    rw [e1] at e
    simp only [Option.bind_some] at e
    refine h2 pp G0 H0 ρ s x s1 σ G H _ e1 si g fun G1 H1 g1 x1 => ?_
    cases x with
    | true =>
      rw [if_pos rfl] at e
      rw [if_pos rfl]
      exact k2 pp G0 H0 ρ s1 b s' σ G1 H1 _ e (si.ext x1) g1 (postT_le x1 q)
    | false =>
      rw [if_neg Bool.false_ne_true] at e
      rw [if_neg Bool.false_ne_true]
      cases e
      exact q G1 H1 g1 x1
theorem w_or {r : List Expr} (h : TX Y K RR a bf) (h' : WX Y K RR (.BoolOp .Or (b :: r) pos) bg) : WX Y K RR (.BoolOp .Or (a :: b :: r) pos) (dOr bf bg) := by
  obtain ⟨t, h1, h2⟩ := h
  obtain ⟨u, k1, k2⟩ := h'
  refine ⟨_, fun i => pw_or (h1 i) (k1 i), ?_⟩
  intro pp G0 H0 ρ s b s' σ G H Q e si g q
  unfold dOr at e
  cases e1 : bf ρ s with
  | none => rw [e1] at e; cases e
  | some x =>
    obtain ⟨x, s1⟩ := x
    rw [e1] at e
    simp only [Option.bind_some] at e
    refine h2 pp G0 H0 ρ s x s1 σ G H _ e1 si g fun G1 H1 g1 x1 => ?_
    cases x with
    | true =>
      rw [if_pos rfl] at e
      rw [if_pos rfl]
      cases e
      exact q G1 H1 g1 x1
    | false =>
      rw [if_neg Bool.false_ne_true] at e
      rw [if_neg Bool.false_ne_true]
      exact k2 pp G0 H0 ρ s1 b s' σ G1 H1 _ e (si.ext x1) g1 (postT_le x1 q)
theorem dTest_some {ρ : Ev} {s s' : τ} {b : Bool} (e : dTest f ρ s = some (b, s')) : f ρ s = some (.dat (.bool b), s') := by
  unfold dTest at e
  cases e1 : f ρ s with
  | none => rw [e1] at e; cases e
  | some x =>
    obtain ⟨x, s1⟩ := x
    rw [e1] at e
    simp only [Option.bind_some] at e
    split at e
    · rename_i b' hx
      cases e
      rfl
    · cases e
theorem e_one {op} (h : EX Y K RR a fa) : EX Y K RR (.BoolOp op [a] pos) fa := by
  obtain ⟨t, h1, h2⟩ := h
  exact ⟨t, fun i => pe_one (h1 i), h2⟩
theorem e_and {r : List Expr} (h : EX Y K RR a fa) (h' : EX Y K RR (.BoolOp .And (b :: r) pos) fb) : EX Y K RR (.BoolOp .And (a :: b :: r) pos) (dAndV fa fb) := by
  obtain ⟨t, h1, h2⟩ := h
  obtain ⟨u, k1, k2⟩ := h'
  refine ⟨_, fun i => pe_and (h1 i) (k1 i), ?_⟩
  intro pp G0 H0 ρ s r s' σ G H Q e si g q
  unfold dAndV at e
  cases e1 : dTest fa ρ s with
  | none => rw [e1] at e; cases e
  | some x =>
    obtain ⟨x, s1⟩ := x
    rw [e1] at e
    simp only [Option.bind_some] at e
    refine h2 pp G0 H0 ρ s _ s1 σ G H _ (dTest_some e1) si g fun v G1 H1 g1 x1 r1 _ => ?_
    cases r1
    refine ⟨x, rfl, ?_⟩
    cases x with
    | true =>
      rw [if_pos rfl] at e
      rw [if_pos rfl]
      exact k2 pp G0 H0 ρ s1 r s' σ G1 H1 _ e (si.ext x1) g1 (post_le x1 q)
    | false =>
      rw [if_neg Bool.false_ne_true] at e
      rw [if_neg Bool.false_ne_true]
      cases e
      exact q _ G1 H1 g1 x1 (Dp.bl false) trivial
theorem e_or {r : List Expr} (h : EX Y K RR a fa) (h' : EX Y K RR (.BoolOp .Or (b :: r) pos) fb) : EX Y K RR (.BoolOp .Or (a :: b :: r) pos) (dOrV fa fb) := by
  obtain ⟨t, h1, h2⟩ := h
  obtain ⟨u, k1, k2⟩ := h'
  refine ⟨_, fun i => pe_or (h1 i) (k1 i), ?_⟩
  intro pp G0 H0 ρ s r s' σ G H Q e si g q
  unfold dOrV at e
  cases e1 : dTest fa ρ s with
  | none => rw [e1] at e; cases e
  | some x =>
    obtain ⟨x, s1⟩ := x
    rw [e1] at e
    simp only [Option.bind_some] at e
    refine h2 pp G0 H0 ρ s _ s1 σ G H _ (dTest_some e1) si g fun v G1 H1 g1 x1 r1 _ => ?_
    cases r1
    refine ⟨x, rfl, ?_⟩
    cases x with
    | true =>
      rw [if_pos rfl] at e
      rw [if_pos rfl]
      cases e
      exact q _ G1 H1 g1 x1 (Dp.bl true) trivial
    | false =>
      rw [if_neg Bool.false_ne_true] at e
      rw [if_neg Bool.false_ne_true]
      exact k2 pp G0 H0 ρ s1 r s' σ G1 H1 _ e (si.ext x1) g1 (post_le x1 q)
theorem e_not (h : EX Y K RR a fa) : EX Y K RR (.UnaryOp .Not a pos) (dNotV fa) := by
  obtain ⟨t, h1, h2⟩ := h
  refine ⟨_, fun i => pe_not (h1 i), ?_⟩
  intro pp G0 H0 ρ s r s' σ G H Q e si g q
  unfold dNotV at e
  cases e1 : dTest fa ρ s with
  | none => rw [e1] at e; cases e
  | some x =>
    obtain ⟨x, s1⟩ := x
    rw [e1] at e
    cases e
    refine h2 pp G0 H0 ρ s _ s1 σ G H _ (dTest_some e1) si g fun v G1 H1 g1 x1 r1 _ => ?_
    cases r1
    exact ⟨x, rfl, q _ G1 H1 g1 x1 (Dp.bl (!x)) trivial⟩
theorem e_if (hc : TX Y K RR c bf) (ha : EX Y K RR a fa) (hb : EX Y K RR b fb) : EX Y K RR (.IfExp c a b pos) (dIf bf fa fb) := by
  obtain ⟨t, h1, h2⟩ := hc
  obtain ⟨ta, a1, a2⟩ := ha
  obtain ⟨tb, b1, b2⟩ := hb
  refine ⟨_, fun i => pe_ifExp (h1 i) (a1 i) (b1 i), ?_⟩
  intro pp G0 H0 ρ s r s' σ G H Q e si g q
  unfold dIf at e
  cases e1 : bf ρ s with
  | none => rw [e1] at e; cases e
  | some x =>
    obtain ⟨x, s1⟩ := x
    rw [e1] at e
    simp only [Option.bind_some] at e
    refine h2 pp G0 H0 ρ s x s1 σ G H _ e1 si g fun G1 H1 g1 x1 => ?_
    cases x with
    | true =>
      rw [if_pos rfl] at e
      rw [if_pos rfl]
      exact a2 pp G0 H0 ρ s1 r s' σ G1 H1 _ e (si.ext x1) g1 (post_le x1 q)
    | false =>
      rw [if_neg Bool.false_ne_true] at e
      rw [if_neg Bool.false_ne_true]
      exact b2 pp G0 H0 ρ s1 r s' σ G1 H1 _ e (si.ext x1) g1 (post_le x1 q)
theorem e_frz (h : EX Y K RR e f) : EX Y K RR e (dFrz f) := by
  obtain ⟨t, h1, h2⟩ := h
  refine ⟨t, h1, ?_⟩
  intro pp G0 H0 ρ s r s' σ G H Q e si g q
  unfold dFrz at e
  cases e1 : f ρ s with
  | none => rw [e1] at e; cases e
  | some x =>
    obtain ⟨x, s1⟩ := x
    rw [e1] at e
    simp only [Option.bind_some] at e
    cases e2 : frz x with
    | none => rw [e2] at e; cases e
    | some z =>
      rw [e2] at e
      cases e
      refine h2 pp G0 H0 ρ s x _ σ G H _ e1 si g fun v G1 H1 g1 x1 r1 n1 => ?_
      cases x with
      | own ds =>
        cases e2
        obtain ⟨p, vs, rfl, hf, hg, hh, hd⟩ := r1
        have hp : H p = none := n1 p rfl
        refine q _ (upd G1 p (.lst vs)) H1 (g1.frz hh hf hg) (x1.frz hp hg) (Dp.lst (SqL.of upd_same) (dpa_mono (fun a u h => ?_) ds _ hd)) trivial
        rw [upd_ne (ne_of_none h hg)]
        exact h
      | bor ds => cases e2
      | dat d => cases e2; exact q _ G1 H1 g1 x1 r1 trivial
      | val d => cases e2; exact q _ G1 H1 g1 x1 r1 trivial
      | tok => cases e2; exact q _ G1 H1 g1 x1 r1 trivial
/-! arguments, displays -/
theorem a_nil : AX Y K RR [] (dNil (τ := τ)) := ⟨_, fun _ => pa_nil, fun pp G0 H0 ρ s rs s' σ G H Q e si g q => by
  cases e
  exact q [] G H g .refl .nil⟩
theorem a_cons (ha : EX Y K RR e fa) (hr : AX Y K RR es fr) (hs : ∀ i, starEach (e :: es) (Y i).env = (false, eval e (Y i).env) :: starEach es (Y i).env := by intro _; rfl) : AX Y K RR (e :: es) (dCons fa fr) := by
  obtain ⟨t, h1, h2⟩ := ha
  obtain ⟨u, k1, k2⟩ := hr
  refine ⟨_, fun i => pa_cons (h1 i) (k1 i) (hs i), ?_⟩
  intro pp G0 H0 ρ s rs s' σ G H Q e si g q
  unfold dCons at e
  cases e1 : fa ρ s with
  | none => rw [e1] at e; cases e
  | some x =>
    obtain ⟨x, s1⟩ := x
    rw [e1] at e
    simp only [Option.bind_some] at e
    cases e2 : fr ρ s1 with
    | none => rw [e2] at e; cases e
    | some y =>
      obtain ⟨y, s2⟩ := y
      rw [e2] at e
      cases e
      refine h2 pp G0 H0 ρ s x s1 σ G H _ e1 si g fun v G1 H1 g1 x1 r1 _ => ?_
      refine k2 pp G0 H0 ρ s1 y _ σ G1 H1 _ e2 (si.ext x1) g1 fun vs G2 H2 g2 x2 r2 => ?_
      exact q _ G2 H2 g2 (x1.trans x2) (.cons (r1.ext x2) r2)
theorem datsOf_ok {G H : Hp} : ∀ {rs : List Rv} {ds : List PyData} {vs : List V}, datsOf rs = some ds → Rrs K Rs G H vs rs → DpAll K G vs ds
  | [], _, _, e, h => by
    cases e
    cases h
    exact .nil
  | r :: rs, ds, _, e, h => by
    cases h with
    | cons h1 h2 =>
      cases r with
      | dat d =>
        unfold datsOf at e
        cases e1 : datsOf rs with
        | none => rw [e1] at e; cases e
        | some es =>
          rw [e1] at e
          cases e
          exact .cons h1 (datsOf_ok e1 h2)
      | own _ => cases e
      | bor _ => cases e
      | val _ => cases e
      | tok => cases e
theorem Rrs.len {G H : Hp} : ∀ {vs : List V} {rs : List Rv}, Rrs K Rs G H vs rs → vs.length = rs.length
  | _, _, .nil => rfl
  | _, _, .cons _ t => by rw [List.length_cons, List.length_cons, Rrs.len t]
theorem size_of {n : Nat} (h : n ≤ 16777216) : n ≤ sizeLine := by rw [sizeLine_eq]; omega
theorem e_tup {k : Nat} (h : AX Y K RR es fr) : EX Y K RR (.Tuple es k pos) (dTup fr) := by
  obtain ⟨t, h1, h2⟩ := h
  refine ⟨_, fun i => pe_tup (h1 i), ?_⟩
  intro pp G0 H0 ρ s r s' σ G H Q e si g q
  unfold dTup at e
  cases e1 : fr ρ s with
  | none => rw [e1] at e; cases e
  | some x =>
    obtain ⟨x, s1⟩ := x
    rw [e1] at e
    simp only [Option.bind_some] at e
    split at e
    · rename_i hl
      cases e2 : datsOf x with
      | none => rw [e2] at e; cases e
      | some ds =>
        rw [e2] at e
        cases e
        refine h2 pp G0 H0 ρ s x _ σ G H _ e1 si g fun vs G1 H1 g1 x1 r1 => ?_
        refine ⟨by rw [r1.len]; exact size_of hl, fun p hp => ?_⟩
        refine q _ _ _ (g1.newD hp) (x1.trans (.newD hp g1.le)) (Dp.tup (SqT.of upd_same) (dpa_mono (fun a u h => ?_) ds _ (datsOf_ok e2 r1))) trivial
        rw [upd_ne (ne_of_none (g1.le a u h) hp)]
        exact h
    · cases e
theorem e_lst (h : AX Y K RR es fr) : EX Y K RR (.List es pos) (dLst fr) := by
  obtain ⟨t, h1, h2⟩ := h
  refine ⟨_, fun i => pe_lst (h1 i), ?_⟩
  intro pp G0 H0 ρ s r s' σ G H Q e si g q
  unfold dLst at e
  cases e1 : fr ρ s with
  | none => rw [e1] at e; cases e
  | some x =>
    obtain ⟨x, s1⟩ := x
    rw [e1] at e
    simp only [Option.bind_some] at e
    split at e
    · rename_i hl
      cases e2 : datsOf x with
      | none => rw [e2] at e; cases e
      | some ds =>
        rw [e2] at e
        cases e
        refine h2 pp G0 H0 ρ s x _ σ G H _ e1 si g fun vs G1 H1 g1 x1 r1 => ?_
        refine ⟨by rw [r1.len]; exact size_of hl, fun p hp => ?_⟩
        refine q _ G1 _ (g1.new hp) (x1.trans (.new hp)) ⟨p, vs, rfl, g1.nofoot hp, g1.nog hp, upd_same, datsOf_ok e2 r1⟩ fun p' e' => ?_
        cases e'
        cases hh : H p with
        | none => rfl
        | some o => exact absurd hp (x1.n p (by rw [hh]; exact fun z => nomatch z))
    · cases e
/-! calls of built-ins -/
def CSem {τ : Type} (K : PySem.W.Frag) (Rs : Res τ) (r : List V → Hp → VK → Prop) (fn : List Rv → Option Rv) : Prop :=
  ∀ (s : τ) xs z vs G H (Q : VK), fn xs = some z → GH Rs s G H → Rrs K Rs G H vs xs → Post K Rs G H s z Q → r vs H Q
def CA {ι π τ : Type} (Y : ι → Cx) (K : PySem.W.Frag) (Rs : π → Res τ) (f : Value) (fn : List Rv → Option Rv) : Prop := ∃ r, (∀ i, CallR (Y i) f r) ∧ ∀ pp, CSem K (Rs pp) r fn
theorem csem_tcb {r : List V → Hp → VK → Prop} {fn : List Rv → Option Rv} {t : TA} (hc : CSem K Rs r fn) (h : ASem K Rs t fr) : ESem K Rs (tCB r t) (dCall fn fr) := by
  intro G0 H0 ρ s r s' σ G H Q e si g q
  unfold dCall at e
  cases e1 : fr ρ s with
  | none => rw [e1] at e; cases e
  | some x =>
    obtain ⟨x, s1⟩ := x
    rw [e1] at e
    simp only [Option.bind_some] at e
    cases e2 : fn x with
    | none => rw [e2] at e; cases e
    | some z =>
      rw [e2] at e
      cases e
      refine h G0 H0 ρ s x _ σ G H _ e1 si g fun vs G1 H1 g1 x1 r1 => ?_
      exact hc _ x _ vs G1 H1 Q e2 g1 r1 (post_le x1 q)
theorem e_callB {id : String} {fn : List Rv → Option Rv} (hc : CA Y K RR (.builtin id) fn) (hg : ∀ i, Gl (Y i) x) (hm : ∀ i, (Y i).mg x = none) (hv : bootBuiltins x = some (.builtin id)) (ha : AX Y K RR (e :: es) fr) (hn : x ≠ "__name__" := by decide) (hdb : (x == ("__debug__" : Str)) = false := by decide)
    (he : ∀ i, starEach (e :: es) (Y i).env = (false, eval e (Y i).env) :: starEach es (Y i).env := by intro _; rfl) (hpl : ∀ i, (backTo pos (starEach es (Y i).env)).any (·.1) = false := by intro _; rfl) : EX Y K RR (.Call (.Name x p) (e :: es) [] pos) (dCall fn fr) := by
  obtain ⟨r, h1, h2⟩ := hc
  obtain ⟨t, k1, k2⟩ := ha
  exact ⟨_, fun i => pe_callB (h1 i) (hg i) (hm i) hv (k1 i) hn hdb (he i) (hpl i), fun pp => csem_tcb (h2 pp) (k2 pp)⟩
theorem e_callTy {T : String} {fn : List Rv → Option Rv} (hc : CA Y K RR (.type T) fn) (hg : ∀ i, Gl (Y i) x) (hm : ∀ i, (Y i).mg x = none) (hv : bootBuiltins x = some (.type T)) (ha : AX Y K RR (e :: es) fr) (hn : x ≠ "__name__" := by decide) (hdb : (x == ("__debug__" : Str)) = false := by decide)
    (he : ∀ i, starEach (e :: es) (Y i).env = (false, eval e (Y i).env) :: starEach es (Y i).env := by intro _; rfl) (hpl : ∀ i, (backTo pos (starEach es (Y i).env)).any (·.1) = false := by intro _; rfl) : EX Y K RR (.Call (.Name x p) (e :: es) [] pos) (dCall fn fr) := by
  obtain ⟨r, h1, h2⟩ := hc
  obtain ⟨t, k1, k2⟩ := ha
  exact ⟨_, fun i => pe_callTy (h1 i) (hg i) (hm i) hv (k1 i) hn hdb (he i) (hpl i), fun pp => csem_tcb (h2 pp) (k2 pp)⟩
/-! calls of defs -/
/-- a def's promise: from data (and the state) what F says -/
def spD {π τ : Type} (K : PySem.W.Frag) (Rs : π → Res τ) (n : Nat) (F : List Rv → τ → Option (Rv × τ)) : Sp := fun vs H Q _ =>
  ∃ pp G rs s r s', vs.length = n ∧ GH (Rs pp) s G H ∧ Rrs K (Rs pp) G H vs rs ∧ rs.all argOk = true ∧ F rs s = some (r, s') ∧ argOk r = true ∧ ∀ v G' H', GH (Rs pp) s' G' H' → Ext (Rs pp).foot G H G' H' → Rr K (Rs pp) G' H' v r → Q v H'
theorem e_call {P : Program} {w : World} {mg : Str → Option Value} {base : Heap} {k n : Nat} {fA : Addr} {fd : FuncData} {ps : List Str} {F : List Rv → τ → Option (Rv × τ)}
    (hF : FnOk P w K mg base CX0 k fA fd ps (spD K RR n F)) (hP : ∀ i, (Y i).prog = P ∧ (Y i).w = w ∧ (Y i).K = K ∧ (Y i).mg = mg ∧ (Y i).base = base) (hr : ∀ i, Room k (Y i).A) (hg : ∀ i, Gl (Y i) x) (hm : mg x = some (.ref fA)) (hk : PySem.W.keepIn K (.ref fA) = true) (hb : Binds K fd ps [])
    (hn : (e :: es).length = n) (hz : ∀ rs s r s', F rs s = some (r, s') → argOk r = true)
    (ha : AX Y K RR (e :: es) fr) (hdb : (x == ("__debug__" : Str)) = false := by decide) (he : ∀ i, starEach (e :: es) (Y i).env = (false, eval e (Y i).env) :: starEach es (Y i).env := by intro _; rfl) (hpl : ∀ i, (backTo pos (starEach es (Y i).env)).any (·.1) = false := by intro _; rfl)
    (hl : ∀ ρ s x, fr ρ s = some x → x.1.length = n) : EX Y K RR (.Call (.Name x p) (e :: es) [] pos) (dFn F fr) := by
  obtain ⟨t, k1, k2⟩ := ha
  refine ⟨tCall (spD K RR n F) [] E0 t, fun i => ?_, ?_⟩
  · obtain ⟨rfl, rfl, e3, rfl, rfl⟩ := hP i
    subst e3
    exact pe_call hF (hr i) (hg i) hm hk hb .nil pass0 (k1 i) hdb (he i) (hpl i)
  · intro pp G0 H0 ρ s r s' σ G H Q e si g q
    unfold dFn at e
    cases e1 : fr ρ s with
    | none => rw [e1] at e; cases e
    | some x =>
      obtain ⟨x, s1⟩ := x
      rw [e1] at e
      simp only [Option.bind_some] at e
      split at e
      · rename_i hx
        refine k2 pp G0 H0 ρ s x s1 σ G H _ e1 si g fun vs G1 H1 g1 x1 r1 => ?_
        rw [List.append_nil]
        refine ⟨pp, G1, x, s1, r, s', by rw [r1.len]; exact hl ρ s _ e1, g1, r1, hx, e, hz _ _ _ _ e, fun v G' H' g' x' rr => q v G' H' g' (x1.trans x') rr ?_⟩
        have := hz _ _ _ _ e
        cases r with
        | own _ => cases this
        | _ => trivial
      · cases e
end
end DL

set_option Elab.async false
set_option linter.all false
set_option maxRecDepth 100000
set_option maxHeartbeats 4000000
set_option autoImplicit false
/-! DL, part B: operations on values and built-ins. -/
namespace DL
open PySem PySem.Spec PyProof.Rows L2

/-! ### facts for the rules -/
def okD (d : PyData) : Bool := d.plain && decide (d.depth ≤ 64)
theorem okD_iff {d : PyData} : okD d = true ↔ d.plain = true ∧ d.depth ≤ 64 := by
  unfold okD
  rw [Bool.and_eq_true, decide_eq_true_eq]
section
variable {X : Cx} {pins : List (Addr × Obj)} {σ : L2.St} {H : Hp} {s : Shared}
theorem room_min {k m n : Nat} {A : Around} (r : Room k A) (h : m ≤ 64) : A.units + 1 + min n m < cLine := by
  have := r.un
  have := Nat.min_le_right n m
  omega
theorem room_minL {k m n : Nat} {A : Around} (r : Room k A) (h : m ≤ 64) : A.units + min m n < cLine := by
  have := r.un
  have := Nat.min_le_left m n
  omega
def rEqP (K : PySem.W.Frag) : R2 := fun x y H Q => ∃ d e, Dp K H x d ∧ Dp K H y e ∧ okD d = true ∧ okD e = true ∧ Q (.bl (PyData.eqv d e)) H
def rNeP (K : PySem.W.Frag) : R2 := fun x y H Q => ∃ d e, Dp K H x d ∧ Dp K H y e ∧ okD d = true ∧ okD e = true ∧ Q (.bl (!PyData.eqv d e)) H
theorem op_eqP {k : Nat} (hr : Room k X.A) : OpR X (compareOp .Eq) (rEqP X.K) := by
  intro pins s σ H x y v u Q I rx ry h
  obtain ⟨d, e, hd, he, sd, se, q⟩ := h
  obtain ⟨as, r1⟩ := Dp.reads I d x v hd rx
  obtain ⟨bs, r2⟩ := Dp.reads I e y u he ry
  exact PySem.SeqAt.eq_plain r1 r2 (okD_iff.mp sd).1 (okD_iff.mp se).1 (room_minL hr (okD_iff.mp sd).2) ⟨.bl _, H, I, rfl, q⟩
theorem op_neP {k : Nat} (hr : Room k X.A) : OpR X (compareOp .NotEq) (rNeP X.K) := by
  intro pins s σ H x y v u Q I rx ry h
  obtain ⟨d, e, hd, he, sd, se, q⟩ := h
  obtain ⟨as, r1⟩ := Dp.reads I d x v hd rx
  obtain ⟨bs, r2⟩ := Dp.reads I e y u he ry
  exact PySem.SeqAt.ne_plain r1 r2 (okD_iff.mp sd).1 (okD_iff.mp se).1 (room_minL hr (okD_iff.mp sd).2) ⟨.bl _, H, I, rfl, q⟩
/-- x in a list or a tuple -/
def rInP (K : PySem.W.Frag) (neg : Bool) : R2 := fun x y H Q => ∃ d ds, Dp K H x d ∧ (Dp K H y (.list ds) ∨ Dp K H y (.tuple ds)) ∧ okD d = true ∧ PyData.plainAll ds = true ∧
  Q (.bl (if neg then !ds.any fun z => PyData.eqv z d else ds.any fun z => PyData.eqv z d)) H
theorem op_inP {k : Nat} (hr : Room k X.A) : OpR X (compareOp .In) (rInP X.K false) := by
  intro pins s σ H x y v u Q I rx ry h
  obtain ⟨d, ds, hd, he, sd, se, q⟩ := h
  obtain ⟨as, r1⟩ := Dp.reads I d x v hd rx
  rcases he with he | he
  · obtain ⟨bs, r2⟩ := Dp.reads I _ y u he ry
    exact PySem.SeqAt.in_list_data r2 r1 se (okD_iff.mp sd).1 (room_min hr (okD_iff.mp sd).2) ⟨.bl _, H, I, rfl, q⟩
  · obtain ⟨bs, r2⟩ := Dp.reads I _ y u he ry
    exact PySem.SeqAt.in_tuple_data r2 r1 se (okD_iff.mp sd).1 (room_min hr (okD_iff.mp sd).2) ⟨.bl _, H, I, rfl, q⟩
theorem op_notInP {k : Nat} (hr : Room k X.A) : OpR X (compareOp .NotIn) (rInP X.K true) := by
  intro pins s σ H x y v u Q I rx ry h
  obtain ⟨d, ds, hd, he, sd, se, q⟩ := h
  obtain ⟨as, r1⟩ := Dp.reads I d x v hd rx
  rcases he with he | he
  · obtain ⟨bs, r2⟩ := Dp.reads I _ y u he ry
    exact PySem.SeqAt.notIn_list_data r2 r1 se (okD_iff.mp sd).1 (room_min hr (okD_iff.mp sd).2) ⟨.bl _, H, I, rfl, q⟩
  · obtain ⟨bs, r2⟩ := Dp.reads I _ y u he ry
    exact PySem.SeqAt.notIn_tuple_data r2 r1 se (okD_iff.mp sd).1 (room_min hr (okD_iff.mp sd).2) ⟨.bl _, H, I, rfl, q⟩
/-- an order of alike data -/
def okC (d e : PyData) : Bool := PySem.W.alike d e && decide (d.depth ≤ 64) && (match d with | .none => false | _ => true)
theorem okC_iff {d e : PyData} (h : okC d e = true) : PySem.W.alike d e = true ∧ d.depth ≤ 64 ∧ d ≠ .none := by
  unfold okC at h
  rw [Bool.and_eq_true, Bool.and_eq_true, decide_eq_true_eq] at h
  exact ⟨h.1.1, h.1.2, fun e => by rw [e] at h; cases h.2⟩
def rOrd (K : PySem.W.Frag) (g : PyData → PyData → Bool) : R2 := fun x y H Q => ∃ d e, Dp K H x d ∧ Dp K H y e ∧ okC d e = true ∧ Q (.bl (g d e)) H
theorem op_ltP {k : Nat} (hr : Room k X.A) : OpR X (compareOp .Lt) (rOrd X.K fun d e => PySem.W.dataLt d e) := by
  intro pins s σ H x y v u Q I rx ry h
  obtain ⟨d, e, hd, he, sd, q⟩ := h
  obtain ⟨as, r1⟩ := Dp.reads I d x v hd rx
  obtain ⟨bs, r2⟩ := Dp.reads I e y u he ry
  obtain ⟨o1, o2, o3⟩ := okC_iff sd
  exact PySem.W.lt_data r1 r2 o1 o3 (room_minL hr o2) ⟨.bl _, H, I, rfl, q⟩
theorem op_gtP {k : Nat} (hr : Room k X.A) : OpR X (compareOp .Gt) (rOrd X.K fun d e => PySem.W.dataLt e d) := by
  intro pins s σ H x y v u Q I rx ry h
  obtain ⟨d, e, hd, he, sd, q⟩ := h
  obtain ⟨as, r1⟩ := Dp.reads I d x v hd rx
  obtain ⟨bs, r2⟩ := Dp.reads I e y u he ry
  obtain ⟨o1, o2, o3⟩ := okC_iff sd
  exact PySem.W.gt_data r1 r2 o1 o3 (room_minL hr o2) ⟨.bl _, H, I, rfl, q⟩
theorem op_leP {k : Nat} (hr : Room k X.A) : OpR X (compareOp .LtE) (rOrd X.K fun d e => !PySem.W.dataLt e d) := by
  intro pins s σ H x y v u Q I rx ry h
  obtain ⟨d, e, hd, he, sd, q⟩ := h
  obtain ⟨as, r1⟩ := Dp.reads I d x v hd rx
  obtain ⟨bs, r2⟩ := Dp.reads I e y u he ry
  obtain ⟨o1, o2, o3⟩ := okC_iff sd
  exact PySem.W.le_data r1 r2 o1 o3 (room_minL hr o2) ⟨.bl _, H, I, rfl, q⟩
theorem op_geP {k : Nat} (hr : Room k X.A) : OpR X (compareOp .GtE) (rOrd X.K fun d e => !PySem.W.dataLt d e) := by
  intro pins s σ H x y v u Q I rx ry h
  obtain ⟨d, e, hd, he, sd, q⟩ := h
  obtain ⟨as, r1⟩ := Dp.reads I d x v hd rx
  obtain ⟨bs, r2⟩ := Dp.reads I e y u he ry
  obtain ⟨o1, o2, o3⟩ := okC_iff sd
  exact PySem.W.ge_data r1 r2 o1 o3 (room_minL hr o2) ⟨.bl _, H, I, rfl, q⟩
/-- list + list, whatever lists -/
def rCatL (K : PySem.W.Frag) : R2 := fun x y H Q => ∃ l b xs zs, x = .ref l ∧ y = .ref b ∧ SqL K H l xs ∧ SqL K H b zs ∧ xs.length + zs.length ≤ sizeLine ∧ ∀ p, H p = none → Q (.ref p) (upd H p (.lst (xs ++ zs)))
theorem op_catL : OpR X (binaryOp .Add) (rCatL X.K) := by
  intro pins s σ H x y v u Q I rx ry h
  obtain ⟨l, b, xs, zs, rfl, rfl, hH, hB, hz, q⟩ := h
  cases rx
  cases ry
  obtain ⟨its, r, ⟨⟨cls, dd, data, sl⟩, n, e, hc, hdn, hd⟩, z⟩ := I.list hH
  obtain ⟨its2, r2, ⟨⟨cls2, dd2, data2, sl2⟩, n2, e2, hc2, hdn2, hd2⟩, z2⟩ := I.list hB
  simp only at hc hdn hd hc2 hdn2 hd2
  subst hc hdn hd hc2 hdn2 hd2
  have hl := r.length
  have hl2 := r2.length
  have ea : its.toArray ++ its2.toArray = (its ++ its2).toArray := by simp
  refine concat_meets ⟨_, e, rfl⟩ ⟨_, e2, rfl⟩ noFill_list_add seq_list_add PySem.F.slot_list_add PySem.F.entry_list_add (PySem.F.args_list_add_2 _ _)
    (PyProof.Rows.list_addW l b its.toArray its2.toArray n n2 none none sl sl2 (by rw [List.size_toArray, List.size_toArray]; omega)) ⟨e, e2, ?_⟩
  rw [ea]
  exact ⟨.ref _, _, I.lnew (t' := s.toks) (r.append r2) (by rw [List.length_append]; omega), rfl, q _ I.fresh⟩
end

/-! ### the plain operations -/
def dInt2 (g : Int → Int → PyData) (x y : Rv) : Option Rv := match x, y with
  | .dat (.int a), .dat (.int b) => some (.dat (g a b))
  | _, _ => none
def dInt2C (c : Int → Int → Bool) (g : Int → Int → PyData) (x y : Rv) : Option Rv := match x, y with
  | .dat (.int a), .dat (.int b) => if c a b = true then some (.dat (g a b)) else none
  | _, _ => none
def dTupAdd (x y : Rv) : Option Rv := match x, y with
  | .dat (.tuple a), .dat (.tuple b) => if a.length + b.length ≤ 16777216 then some (.dat (.tuple (a ++ b))) else none
  | _, _ => none
def dStrAdd (x y : Rv) : Option Rv := match x, y with
  | .dat (.str a), .dat (.str b) => if a.length + b.length ≤ 16777216 then some (.dat (.str (a ++ b))) else none
  | _, _ => none
def dLstAdd (x y : Rv) : Option Rv := (listOf x).bind fun a => (listOf y).bind fun b => if a.length + b.length ≤ 16777216 then some (.own (a ++ b)) else none
def orR (f g : Rv → Rv → Option Rv) (x y : Rv) : Option Rv := match f x y with
  | some r => some r
  | none => g x y
def dAdd : Rv → Rv → Option Rv := orR (dInt2 fun a b => .int (a + b)) (orR dTupAdd (orR dLstAdd dStrAdd))
def dSub : Rv → Rv → Option Rv := dInt2 fun a b => .int (a - b)
def dMulI : Rv → Rv → Option Rv := dInt2C (fun a b => decide (a.natAbs < 18446744073709551616) || decide (b.natAbs < 18446744073709551616)) fun a b => .int (a * b)
def dFdiv : Rv → Rv → Option Rv := dInt2C (fun _ b => decide (0 < b) && decide (b < 1073741824)) fun a b => .int (a / b)
def dMod : Rv → Rv → Option Rv := dInt2C (fun _ b => decide (0 < b)) fun a b => .int (a % b)
def dPow : Rv → Rv → Option Rv := dInt2C (fun a b => decide (0 ≤ b) && decide (b ≤ 1000000) && decide (a.natAbs < 18446744073709551616)) fun a b => .int (a ^ b.toNat)
def dNeg (x : Rv) : Option Rv := match x with
  | .dat (.int a) => some (.dat (.int (-a)))
  | _ => none
def dRel (c : PyData → PyData → Bool) (g : PyData → PyData → Bool) (x y : Rv) : Option Rv := (asD x).bind fun d => (asD y).bind fun e => if c d e = true then some (.dat (.bool (g d e))) else none
def dEq : Rv → Rv → Option Rv := dRel (fun d e => okD d && okD e) fun d e => PyData.eqv d e
def dNe : Rv → Rv → Option Rv := dRel (fun d e => okD d && okD e) fun d e => !PyData.eqv d e
def dLt : Rv → Rv → Option Rv := dRel okC fun d e => PySem.W.dataLt d e
def dGt : Rv → Rv → Option Rv := dRel okC fun d e => PySem.W.dataLt e d
def dLe : Rv → Rv → Option Rv := dRel okC fun d e => !PySem.W.dataLt e d
def dGe : Rv → Rv → Option Rv := dRel okC fun d e => !PySem.W.dataLt d e
def dIn (neg : Bool) (x y : Rv) : Option Rv := (asD x).bind fun d => (itemsOf y).bind fun ds => if (okD d && PyData.plainAll ds) = true then some (.dat (.bool (if neg then !ds.any fun z => PyData.eqv z d else ds.any fun z => PyData.eqv z d))) else none
def isNone : PyData → Bool
  | .none => true
  | _ => false
def dIsN (x : Rv) : Option Rv := (asD x).map fun d => .dat (.bool (isNone d))
def dNotN (x : Rv) : Option Rv := (asD x).map fun d => .dat (.bool (!isNone d))
def dIx (x y : Rv) : Option Rv := match y with
  | .dat (.int i) => (itemsOf x).bind fun ds => (atI ds i).map .dat
  | _ => none
section
variable {ι π τ : Type} {Y : ι → Cx} {K : PySem.W.Frag} {RR : π → Res τ} {Rs : Res τ}
theorem post_now {G H : Hp} {s : τ} {r : Rv} {Q : VK} {v : V} (q : Post K Rs G H s r Q) (g : GH Rs s G H) (h : Rr K Rs G H v r) (n : Frs H v r) : Q v H := q v G H g .refl h n
theorem post_own {G H : Hp} {s : τ} {ds : List PyData} {vs : List V} {Q : VK} {p : Addr} (q : Post K Rs G H s (.own ds) Q) (g : GH Rs s G H) (hp : H p = none) (h : DpAll K G vs ds) : Q (.ref p) (upd H p (.lst vs)) :=
  q _ G _ (g.new hp) (.new hp) ⟨p, vs, rfl, g.nofoot hp, g.nog hp, upd_same, h⟩ fun p' e => by cases e; exact hp
theorem newD_le {G H : Hp} {s : τ} {p : Addr} {o : HO} (g : GH Rs s G H) (hp : H p = none) : ∀ a u, G a = some u → upd G p o a = some u := fun a u h => by
  rw [upd_ne (ne_of_none (g.le a u h) hp)]
  exact h
theorem post_tup {G H : Hp} {s : τ} {ds : List PyData} {vs : List V} {Q : VK} {p : Addr} (q : Post K Rs G H s (.dat (.tuple ds)) Q) (g : GH Rs s G H) (hp : H p = none) (h : DpAll K G vs ds) : Q (.ref p) (upd H p (.tup vs)) :=
  q _ _ _ (g.newD hp) (.newD hp g.le) (Dp.tup (SqT.of upd_same) (dpa_mono (newD_le g hp) ds _ h)) trivial
theorem o_int2 {F : Value → Value → Sem Value} {g : Int → Int → V} {gd : Int → Int → PyData} (h : ∀ i, OpR (Y i) F (rI0 g)) (hg : ∀ (G : Hp) a b, Dp K G (g a b) (gd a b)) : OX Y K RR F (dInt2 gd) := by
  refine ⟨_, h, fun pp s x y r v w G H Q e gh rx ry q => ?_⟩
  unfold dInt2 at e
  split at e
  · cases e
    cases rx
    cases ry
    exact ⟨_, _, rfl, rfl, post_now q gh (hg G _ _) trivial⟩
  · cases e
theorem o_int2C {F : Value → Value → Sem Value} {C : Int → Int → Prop} {c : Int → Int → Bool} {g : Int → Int → V} {gd : Int → Int → PyData} (h : ∀ i, OpR (Y i) F (rI C g)) (hc : ∀ a b, c a b = true → C a b) (hg : ∀ (G : Hp) a b, Dp K G (g a b) (gd a b)) : OX Y K RR F (dInt2C c gd) := by
  refine ⟨_, h, fun pp s x y r v w G H Q e gh rx ry q => ?_⟩
  unfold dInt2C at e
  split at e
  · split at e
    · rename_i hh
      cases e
      cases rx
      cases ry
      exact ⟨_, _, rfl, rfl, hc _ _ hh, post_now q gh (hg G _ _) trivial⟩
    · cases e
  · cases e
theorem OX.or {F : Value → Value → Sem Value} {f g : Rv → Rv → Option Rv} (h : OX Y K RR F f) (h' : OX Y K RR F g) : OX Y K RR F (orR f g) := by
  obtain ⟨r1, a1, a2⟩ := h
  obtain ⟨r2, b1, b2⟩ := h'
  refine ⟨_, fun i => (a1 i).or (b1 i), fun pp s x y r v w G H Q e gh rx ry q => ?_⟩
  unfold orR at e
  split at e
  · rename_i r0 e0
    cases e
    exact .inl (a2 pp s x y _ v w G H Q e0 gh rx ry q)
  · exact .inr (b2 pp s x y r v w G H Q e gh rx ry q)
theorem o_tupAdd (hK : ∀ i, (Y i).K = K) : OX Y K RR (binaryOp .Add) dTupAdd := by
  refine ⟨rCatA K, fun i => by rw [← hK i]; exact op_catA, fun pp s x y r v w G H Q e gh rx ry q => ?_⟩
  unfold dTupAdd at e
  split at e
  · split at e
    · rename_i hl
      cases e
      cases rx with
      | tup h1 a1 =>
        cases ry with
        | tup h2 a2 =>
          refine ⟨_, _, _, _, rfl, rfl, sqT_mono gh.le h1, sqT_mono gh.le h2, by rw [dpa_len a1, dpa_len a2]; exact size_of hl, fun e => ?_, fun _ e => ?_, fun _ _ p hp => ?_⟩
          · subst e
            cases a1
            exact post_now q gh (Dp.tup h2 a2) trivial
          · subst e
            cases a2
            rw [List.append_nil] at q
            exact post_now q gh (Dp.tup h1 a1) trivial
          · exact post_tup q gh hp (dpa_app a1 a2)
    · cases e
  · cases e
theorem o_strAdd : OX Y K RR (binaryOp .Add) dStrAdd := by
  refine ⟨_, fun i => op_add_str, fun pp s x y r v w G H Q e gh rx ry q => ?_⟩
  unfold dStrAdd at e
  split at e
  · split at e
    · rename_i hl
      cases e
      cases rx
      cases ry
      exact ⟨_, _, rfl, rfl, size_of hl, post_now q gh (Dp.str _) trivial⟩
    · cases e
  · cases e
theorem o_lstAdd (hK : ∀ i, (Y i).K = K) : OX Y K RR (binaryOp .Add) dLstAdd := by
  refine ⟨rCatL K, fun i => by rw [← hK i]; exact op_catL, fun pp s x y r v w G H Q e gh rx ry q => ?_⟩
  unfold dLstAdd at e
  cases e1 : listOf x with
  | none => rw [e1] at e; cases e
  | some a =>
    cases e2 : listOf y with
    | none => rw [e1, e2] at e; cases e
    | some b =>
      rw [e1, e2] at e
      simp only [Option.bind_some] at e
      split at e
      · rename_i hl
        cases e
        obtain ⟨p1, vs, rfl, h1, a1⟩ := rx.lst gh.le e1
        obtain ⟨p2, ws, rfl, h2, a2⟩ := ry.lst gh.le e2
        exact ⟨p1, p2, vs, ws, rfl, rfl, h1, h2, by rw [dpa_len a1, dpa_len a2]; exact size_of hl, fun p hp => post_own q gh hp (dpa_app a1 a2)⟩
      · cases e
theorem o_add (hK : ∀ i, (Y i).K = K) : OX Y K RR (binaryOp .Add) dAdd := (o_int2 (fun _ => op_add) fun _ _ _ => .int _).or ((o_tupAdd hK).or ((o_lstAdd hK).or o_strAdd))
theorem o_sub : OX Y K RR (binaryOp .Sub) dSub := o_int2 (fun _ => op_sub) fun _ _ _ => .int _
theorem o_mulI : OX Y K RR (binaryOp .Mult) dMulI := o_int2C (fun _ => op_mul) (fun a b h => by
  rw [Bool.or_eq_true, decide_eq_true_eq, decide_eq_true_eq] at h
  unfold CMul
  omega) fun _ _ _ => .int _
theorem o_fdiv : OX Y K RR (binaryOp .FloorDiv) dFdiv := o_int2C (fun _ => op_fdiv) (fun a b h => by
  rw [Bool.and_eq_true, decide_eq_true_eq, decide_eq_true_eq] at h
  exact h) fun _ _ _ => .int _
theorem o_mod : OX Y K RR (binaryOp .Mod) dMod := o_int2C (fun _ => op_mod) (fun a b h => of_decide_eq_true h) fun _ _ _ => .int _
theorem o_pow : OX Y K RR (binaryOp .Pow) dPow := o_int2C (fun _ => op_pow) (fun a b h => by
  rw [Bool.and_eq_true, Bool.and_eq_true, decide_eq_true_eq, decide_eq_true_eq, decide_eq_true_eq] at h
  exact ⟨h.1.1, h.1.2, by have := h.2; omega⟩) fun _ _ _ => .int _
theorem o_rel {F : Value → Value → Sem Value} {c : PyData → PyData → Bool} {g : PyData → PyData → Bool} {r2 : R2} (h : ∀ i, OpR (Y i) F r2)
    (hq : ∀ x y d e H (Q : VK), Dp K H x d → Dp K H y e → c d e = true → Q (.bl (g d e)) H → r2 x y H Q) : OX Y K RR F (dRel c g) := by
  refine ⟨r2, h, fun pp s x y r v w G H Q e gh rx ry q => ?_⟩
  unfold dRel at e
  cases e1 : asD x with
  | none => rw [e1] at e; cases e
  | some a =>
    cases e2 : asD y with
    | none => rw [e1, e2] at e; cases e
    | some b =>
      rw [e1, e2] at e
      simp only [Option.bind_some] at e
      split at e
      · rename_i hl
        cases e
        exact hq v w a b H Q (rx.dp gh.le e1) (ry.dp gh.le e2) hl (post_now q gh (Dp.bl _) trivial)
      · cases e
theorem and2 {a b : Bool} (h : (a && b) = true) : a = true ∧ b = true := by
  rw [Bool.and_eq_true] at h
  exact h
theorem o_eq {k : Nat} (hr : ∀ i, Room k (Y i).A) (hK : ∀ i, (Y i).K = K) : OX Y K RR (compareOp .Eq) dEq := o_rel (r2 := rEqP K) (fun i => by rw [← hK i]; exact op_eqP (hr i)) fun x y d e H Q h1 h2 h3 q => ⟨d, e, h1, h2, (and2 h3).1, (and2 h3).2, q⟩
theorem o_ne {k : Nat} (hr : ∀ i, Room k (Y i).A) (hK : ∀ i, (Y i).K = K) : OX Y K RR (compareOp .NotEq) dNe := o_rel (r2 := rNeP K) (fun i => by rw [← hK i]; exact op_neP (hr i)) fun x y d e H Q h1 h2 h3 q => ⟨d, e, h1, h2, (and2 h3).1, (and2 h3).2, q⟩
theorem o_lt {k : Nat} (hr : ∀ i, Room k (Y i).A) (hK : ∀ i, (Y i).K = K) : OX Y K RR (compareOp .Lt) dLt := o_rel (r2 := rOrd K _) (fun i => by rw [← hK i]; exact op_ltP (hr i)) fun x y d e H Q h1 h2 h3 q => ⟨d, e, h1, h2, h3, q⟩
theorem o_gt {k : Nat} (hr : ∀ i, Room k (Y i).A) (hK : ∀ i, (Y i).K = K) : OX Y K RR (compareOp .Gt) dGt := o_rel (r2 := rOrd K _) (fun i => by rw [← hK i]; exact op_gtP (hr i)) fun x y d e H Q h1 h2 h3 q => ⟨d, e, h1, h2, h3, q⟩
theorem o_le {k : Nat} (hr : ∀ i, Room k (Y i).A) (hK : ∀ i, (Y i).K = K) : OX Y K RR (compareOp .LtE) dLe := o_rel (r2 := rOrd K _) (fun i => by rw [← hK i]; exact op_leP (hr i)) fun x y d e H Q h1 h2 h3 q => ⟨d, e, h1, h2, h3, q⟩
theorem o_ge {k : Nat} (hr : ∀ i, Room k (Y i).A) (hK : ∀ i, (Y i).K = K) : OX Y K RR (compareOp .GtE) dGe := o_rel (r2 := rOrd K _) (fun i => by rw [← hK i]; exact op_geP (hr i)) fun x y d e H Q h1 h2 h3 q => ⟨d, e, h1, h2, h3, q⟩
theorem seq_dp {G H : Hp} {v : V} {y : Rv} {ds : List PyData} (h : Rr K Rs G H v y) (le : ∀ a o, G a = some o → H a = some o) (e : itemsOf y = some ds) : Dp K H v (.list ds) ∨ Dp K H v (.tuple ds) := by
  obtain ⟨p, vs, rfl, hq, ha⟩ := h.seq le e
  rcases hq with hq | hq
  · exact .inl (.lst hq (dpa_mono le ds _ ha))
  · exact .inr (.tup hq (dpa_mono le ds _ ha))
theorem o_inN {F : Value → Value → Sem Value} {neg : Bool} (h : ∀ i, OpR (Y i) F (rInP K neg)) : OX Y K RR F (dIn neg) := by
  refine ⟨rInP K neg, h, fun pp s x y r v w G H Q e gh rx ry q => ?_⟩
  unfold dIn at e
  cases e1 : asD x with
  | none => rw [e1] at e; cases e
  | some a =>
    cases e2 : itemsOf y with
    | none => rw [e1, e2] at e; cases e
    | some b =>
      rw [e1, e2] at e
      simp only [Option.bind_some] at e
      split at e
      · rename_i hl
        cases e
        exact ⟨a, b, rx.dp gh.le e1, seq_dp ry gh.le e2, (and2 hl).1, (and2 hl).2, post_now q gh (Dp.bl _) trivial⟩
      · cases e
theorem o_in {k : Nat} (hr : ∀ i, Room k (Y i).A) (hK : ∀ i, (Y i).K = K) : OX Y K RR (compareOp .In) (dIn false) := o_inN fun i => by rw [← hK i]; exact op_inP (hr i)
theorem o_notin {k : Nat} (hr : ∀ i, Room k (Y i).A) (hK : ∀ i, (Y i).K = K) : OX Y K RR (compareOp .NotIn) (dIn true) := o_inN fun i => by rw [← hK i]; exact op_notInP (hr i)
/-! one place -/
def USem {τ : Type} (K : PySem.W.Frag) (Rs : Res τ) (r : V → Hp → VK → Prop) (fn : Rv → Option Rv) : Prop :=
  ∀ (s : τ) x z v G H (Q : VK), fn x = some z → GH Rs s G H → Rr K Rs G H v x → Post K Rs G H s z Q → r v H Q
theorem usem_t {r : V → Hp → VK → Prop} {fn : Rv → Option Rv} {t : TE} {fa : EF τ} (hc : USem K Rs r fn) (h : ESem K Rs t fa) : ESem K Rs (tUn r t) (dUn fn fa) := by
  intro G0 H0 ρ s r s' σ G H Q e si g q
  unfold dUn at e
  cases e1 : fa ρ s with
  | none => rw [e1] at e; cases e
  | some x =>
    obtain ⟨x, s1⟩ := x
    rw [e1] at e
    simp only [Option.bind_some] at e
    cases e2 : fn x with
    | none => rw [e2] at e; cases e
    | some z =>
      rw [e2] at e
      cases e
      refine h G0 H0 ρ s x _ σ G H _ e1 si g fun v G1 H1 g1 x1 r1 _ => ?_
      exact hc _ x _ v G1 H1 Q e2 g1 r1 (post_le x1 q)
theorem e_neg {a : Expr} {pos : Pos} {fa : EF τ} (h : EX Y K RR a fa) : EX Y K RR (.UnaryOp .USub a pos) (dUn dNeg fa) := by
  obtain ⟨t, h1, h2⟩ := h
  refine ⟨_, fun i => pe_un un_neg (h1 i), fun pp => usem_t (fun s x z v G H Q e g r q => ?_) (h2 pp)⟩
  unfold dNeg at e
  split at e
  · cases e
    cases r
    exact ⟨_, rfl, post_now q g (Dp.int _) trivial⟩
  · cases e
theorem dp_none {H : Hp} {v : V} {d : PyData} (h : Dp K H v d) : decide (v = .non) = isNone d := by
  cases h with
  | non => rfl
  | _ => rfl
theorem e_isN {a : Expr} {pos p2 : Pos} {j} {fa : EF τ} (h : EX Y K RR a fa) : EX Y K RR (.Compare a [.Is] [.Constant .none j p2] pos) (dUn dIsN fa) := by
  obtain ⟨t, h1, h2⟩ := h
  refine ⟨_, fun i => pe_cmp (pc_isN (h1 i)) rfl, fun pp => usem_t (r := fun v H Q => Q (.bl (decide (v = .non))) H) (fun s x z v G H Q e g r q => ?_) (h2 pp)⟩
  unfold dIsN at e
  cases e1 : asD x with
  | none => rw [e1] at e; cases e
  | some d =>
    rw [e1] at e
    cases e
    rw [dp_none (r.dp g.le e1)]
    exact post_now q g (Dp.bl _) trivial
theorem e_notN {a : Expr} {pos p2 : Pos} {j} {fa : EF τ} (h : EX Y K RR a fa) : EX Y K RR (.Compare a [.IsNot] [.Constant .none j p2] pos) (dUn dNotN fa) := by
  obtain ⟨t, h1, h2⟩ := h
  refine ⟨_, fun i => pe_cmp (pc_notN (h1 i)) rfl, fun pp => usem_t (r := fun v H Q => Q (.bl (!decide (v = .non))) H) (fun s x z v G H Q e g r q => ?_) (h2 pp)⟩
  unfold dNotN at e
  cases e1 : asD x with
  | none => rw [e1] at e; cases e
  | some d =>
    rw [e1] at e
    cases e
    rw [dp_none (r.dp g.le e1)]
    exact post_now q g (Dp.bl _) trivial
theorem t_cmp1 {e : Expr} {f : EF τ} {a b : Expr} {op : CmpOp} {pos : Pos} {t : TE} (h : ∀ i, PC (Y i) op a b t) (hm : behindInMarks op b = false) (hs : ∀ pp, ESem K (RR pp) t f) : TX Y K RR (.Compare a [op] [b] pos) (dTest f) :=
  ⟨_, fun i => pt_cmp (h i) hm, fun pp => tsem_of (hs pp)⟩
theorem t_isN {a : Expr} {pos p2 : Pos} {j} {fa : EF τ} (h : EX Y K RR a fa) : TX Y K RR (.Compare a [.Is] [.Constant .none j p2] pos) (dTest (dUn dIsN fa)) := by
  obtain ⟨t, h1, h2⟩ := h
  refine ⟨_, fun i => pt_cmp (pc_isN (h1 i)) rfl, fun pp => tsem_of (usem_t (r := fun v H Q => Q (.bl (decide (v = .non))) H) (fun s x z v G H Q e g r q => ?_) (h2 pp))⟩
  unfold dIsN at e
  cases e1 : asD x with
  | none => rw [e1] at e; cases e
  | some d =>
    rw [e1] at e
    cases e
    rw [dp_none (r.dp g.le e1)]
    exact post_now q g (Dp.bl _) trivial
theorem t_notN {a : Expr} {pos p2 : Pos} {j} {fa : EF τ} (h : EX Y K RR a fa) : TX Y K RR (.Compare a [.IsNot] [.Constant .none j p2] pos) (dTest (dUn dNotN fa)) := by
  obtain ⟨t, h1, h2⟩ := h
  refine ⟨_, fun i => pt_cmp (pc_notN (h1 i)) rfl, fun pp => tsem_of (usem_t (r := fun v H Q => Q (.bl (!decide (v = .non))) H) (fun s x z v G H Q e g r q => ?_) (h2 pp))⟩
  unfold dNotN at e
  cases e1 : asD x with
  | none => rw [e1] at e; cases e
  | some d =>
    rw [e1] at e
    cases e
    rw [dp_none (r.dp g.le e1)]
    exact post_now q g (Dp.bl _) trivial
/-! a place -/
theorem atI_dpa {G : Hp} {vs : List V} {ds : List PyData} {i : Int} {d : PyData} (h : DpAll K G vs ds) (e : atI ds i = some d) : ∃ v, atI vs i = some v ∧ Dp K G v d := by
  unfold atI at e ⊢
  rw [dpa_len h]
  cases q : ixN ds.length i with
  | none => rw [q] at e; cases e
  | some j =>
    rw [q] at e
    exact dpa_get' h e
theorem e_ix {a b : Expr} {pos : Pos} {fa fb : EF τ} (hK : ∀ i, (Y i).K = K) (ha : EX Y K RR a fa) (hb : EX Y K RR b fb) (hs : PlainIx b := by exact fun _ _ => rfl) : EX Y K RR (.Subscript a b pos) (dBin dIx fa fb) := by
  obtain ⟨ta, a1, a2⟩ := ha
  obtain ⟨tb, b1, b2⟩ := hb
  refine ⟨tOp (rIx K) ta tb, fun i => by rw [← hK i]; exact pe_ix ix_seq (a1 i) (b1 i) hs, fun pp => e_tOp (fun s x y r v w G H Q e gh rx ry q => ?_) (a2 pp) (b2 pp)⟩
  unfold dIx at e
  split at e
  · rename_i i
    cases ry
    cases e1 : itemsOf x with
    | none => rw [e1] at e; cases e
    | some ds =>
      rw [e1] at e
      simp only [Option.bind_some] at e
      cases e2 : atI ds i with
      | none => rw [e2] at e; cases e
      | some d =>
        rw [e2] at e
        cases e
        obtain ⟨p, vs, rfl, hq, ha⟩ := rx.seq gh.le e1
        obtain ⟨z, h1, h2⟩ := atI_dpa ha e2
        have qq : Q z H := post_now q gh h2 trivial
        rcases hq with hq | hq
        · exact .inl ⟨p, vs, i, z, rfl, rfl, hq, h1, qq⟩
        · exact .inr (.inl ⟨p, vs, i, z, rfl, rfl, hq, h1, qq⟩)
  · cases e
end
end DL

set_option Elab.async false
set_option linter.all false
set_option maxRecDepth 100000
set_option maxHeartbeats 4000000
set_option autoImplicit false
/-! DL, part C: built-in functions, sorting, slices. -/
namespace DL
open PySem PySem.Spec PyProof.Rows L2

section
variable {ι π τ : Type} {Y : ι → Cx} {K : PySem.W.Frag} {RR : π → Res τ} {Rs : Res τ}
theorem rrs1 {G H : Hp} {vs : List V} {x : Rv} (h : Rrs K Rs G H vs [x]) : ∃ v, vs = [v] ∧ Rr K Rs G H v x := by
  cases h with
  | cons r t => cases t; exact ⟨_, rfl, r⟩
theorem rrs2 {G H : Hp} {vs : List V} {x y : Rv} (h : Rrs K Rs G H vs [x, y]) : ∃ v w, vs = [v, w] ∧ Rr K Rs G H v x ∧ Rr K Rs G H w y := by
  cases h with
  | cons r t =>
    cases t with
    | cons r' t =>
      cases t
      exact ⟨_, _, rfl, r, r'⟩
/-- a call of one argument -/
def fn1 (f : Rv → Option Rv) : List Rv → Option Rv
  | [x] => f x
  | _ => none
def fn2 (f : Rv → Rv → Option Rv) : List Rv → Option Rv
  | [x, y] => f x y
  | _ => none
theorem csem1 {r : List V → Hp → VK → Prop} {f : Rv → Option Rv}
    (h : ∀ (s : τ) x z v G H (Q : VK), f x = some z → GH Rs s G H → Rr K Rs G H v x → Post K Rs G H s z Q → r [v] H Q) : CSem K Rs r (fn1 f) := by
  intro s xs z vs G H Q e g rr q
  match xs with
  | [x] =>
    obtain ⟨v, rfl, h1⟩ := rrs1 rr
    exact h s x z v G H Q e g h1 q
  | [] => cases e
  | _ :: _ :: _ => cases e
theorem csem2 {r : List V → Hp → VK → Prop} {f : Rv → Rv → Option Rv}
    (h : ∀ (s : τ) x y z v w G H (Q : VK), f x y = some z → GH Rs s G H → Rr K Rs G H v x → Rr K Rs G H w y → Post K Rs G H s z Q → r [v, w] H Q) : CSem K Rs r (fn2 f) := by
  intro s xs z vs G H Q e g rr q
  match xs with
  | [x, y] =>
    obtain ⟨v, w, rfl, h1, h2⟩ := rrs2 rr
    exact h s x y z v w G H Q e g h1 h2 q
  | [] => cases e
  | [_] => cases e
  | _ :: _ :: _ :: _ => cases e
def orC (f g : List Rv → Option Rv) (x : List Rv) : Option Rv := match f x with
  | some r => some r
  | none => g x
theorem CA.or {F : Value} {f g : List Rv → Option Rv} (h : CA Y K RR F f) (h' : CA Y K RR F g) : CA Y K RR F (orC f g) := by
  obtain ⟨r1, a1, a2⟩ := h
  obtain ⟨r2, b1, b2⟩ := h'
  refine ⟨_, fun i => (a1 i).or (b1 i), fun pp s xs z vs G H Q e gh rr q => ?_⟩
  unfold orC at e
  split at e
  · rename_i r0 e0
    cases e
    exact .inl (a2 pp s xs _ vs G H Q e0 gh rr q)
  · exact .inr (b2 pp s xs z vs G H Q e gh rr q)

/-! len, abs, int -/
def dLen1 (x : Rv) : Option Rv := (itemsOf x).map fun ds => .dat (.int ds.length)
def dLenS (x : Rv) : Option Rv := match x with
  | .dat (.str z) => if z.length ≤ 16777216 then some (.dat (.int z.length)) else none
  | _ => none
def bLen : List Rv → Option Rv := orC (fn1 dLen1) (fn1 dLenS)
theorem c_len (hK : ∀ i, (Y i).K = K) : CA Y K RR (.builtin "len") bLen := by
  refine CA.or ⟨fun xs H Q => ∃ p ys, xs = [.ref p] ∧ (SqL K H p ys ∨ SqT K H p ys) ∧ Q (.int ys.length) H, fun i => by rw [← hK i]; exact call_len_seq, fun pp => csem1 fun s x z v G H Q e g r q => ?_⟩ ⟨_, fun i => call_len_str, fun pp => csem1 fun s x z v G H Q e g r q => ?_⟩
  · unfold dLen1 at e
    cases e1 : itemsOf x with
    | none => rw [e1] at e; cases e
    | some ds =>
      rw [e1] at e
      cases e
      obtain ⟨p, vs, rfl, hq, ha⟩ := r.seq g.le e1
      exact ⟨p, vs, rfl, hq, by rw [dpa_len ha]; exact post_now q g (Dp.int _) trivial⟩
  · unfold dLenS at e
    split at e
    · split at e
      · rename_i hl
        cases e
        cases r
        exact ⟨_, rfl, size_of hl, post_now q g (Dp.int _) trivial⟩
      · cases e
    · cases e
def dAbs (x : Rv) : Option Rv := match x with
  | .dat (.int i) => some (.dat (.int (if i < 0 then -i else i)))
  | _ => none
def bAbs : List Rv → Option Rv := fn1 dAbs
theorem c_abs : CA Y K RR (.builtin "abs") bAbs := by
  refine ⟨_, fun i => call_abs, fun pp => csem1 fun s x z v G H Q e g r q => ?_⟩
  unfold dAbs at e
  split at e
  · cases e
    cases r
    exact ⟨_, rfl, post_now q g (Dp.int _) trivial⟩
  · cases e
def dInt (x : Rv) : Option Rv := match x with
  | .dat (.int i) => some (.dat (.int i))
  | .dat (.bool b) => some (.dat (.int (if b then 1 else 0)))
  | _ => none
def bInt : List Rv → Option Rv := fn1 dInt
theorem c_int : CA Y K RR (.type "int") bInt := by
  refine ⟨_, fun i => call_int1, fun pp => csem1 fun s x z v G H Q e g r q => ?_⟩
  unfold dInt at e
  split at e
  · cases e
    cases r
    exact .inl ⟨_, rfl, post_now q g (Dp.int _) trivial⟩
  · cases e
    cases r
    exact .inr ⟨_, rfl, post_now q g (Dp.int _) trivial⟩
  · cases e
/-! min, max of two numbers -/
def dMin2 (x y : Rv) : Option Rv := match x, y with
  | .dat (.int i), .dat (.int j) => some (.dat (.int (if j < i then j else i)))
  | _, _ => none
def dMax2 (x y : Rv) : Option Rv := match x, y with
  | .dat (.int i), .dat (.int j) => some (.dat (.int (if j > i then j else i)))
  | _, _ => none
theorem c_min2 (hc : ∀ i, (Y i).calm = true) : CA Y K RR (.builtin "min") (fn2 dMin2) := by
  refine ⟨_, fun i => call_min2 (hc i), fun pp => csem2 fun s x y z v w G H Q e g r r' q => ?_⟩
  unfold dMin2 at e
  split at e
  · cases e
    cases r
    cases r'
    exact ⟨_, _, rfl, post_now q g (Dp.int _) trivial⟩
  · cases e
theorem c_max2 (hc : ∀ i, (Y i).calm = true) : CA Y K RR (.builtin "max") (fn2 dMax2) := by
  refine ⟨_, fun i => call_max2 (hc i), fun pp => csem2 fun s x y z v w G H Q e g r r' q => ?_⟩
  unfold dMax2 at e
  split at e
  · cases e
    cases r
    cases r'
    exact ⟨_, _, rfl, post_now q g (Dp.int _) trivial⟩
  · cases e
/-! list, tuple -/
def dList (x : Rv) : Option Rv := (itemsOf x).map .own
def bList : List Rv → Option Rv := fn1 dList
theorem c_list (hK : ∀ i, (Y i).K = K) : CA Y K RR (.type "list") bList := by
  refine ⟨fun xs H Q => ∃ p ys, xs = [.ref p] ∧ (SqL K H p ys ∨ SqT K H p ys) ∧ ∀ l, H l = none → Q (.ref l) (upd H l (.lst ys)), fun i => by rw [← hK i]; exact call_list_of, fun pp => csem1 fun s x z v G H Q e g r q => ?_⟩
  unfold dList at e
  cases e1 : itemsOf x with
  | none => rw [e1] at e; cases e
  | some ds =>
    rw [e1] at e
    cases e
    obtain ⟨p, vs, rfl, hq, ha⟩ := r.seq g.le e1
    exact ⟨p, vs, rfl, hq, fun l hl => post_own q g hl ha⟩
def dTuple (x : Rv) : Option Rv := (itemsOf x).map fun ds => .dat (.tuple ds)
def bTuple : List Rv → Option Rv := fn1 dTuple
theorem c_tuple (hK : ∀ i, (Y i).K = K) : CA Y K RR (.type "tuple") bTuple := by
  refine ⟨fun xs H Q => ∃ p ys, xs = [.ref p] ∧ ((SqL K H p ys ∧ ∀ l, H l = none → Q (.ref l) (upd H l (.tup ys))) ∨ (SqT K H p ys ∧ Q (.ref p) H)), fun i => by rw [← hK i]; exact call_tuple_of, fun pp => csem1 fun s x z v G H Q e g r q => ?_⟩
  unfold dTuple at e
  cases x with
  | dat d =>
    cases d with
    | tuple ds =>
      cases e
      cases r with
      | tup h1 ha => exact ⟨_, _, rfl, .inr ⟨sqT_mono g.le h1, post_now q g (Dp.tup h1 ha) trivial⟩⟩
    | list ds =>
      cases e
      obtain ⟨p, vs, rfl, hq, ha⟩ := Rr.lst (ds := ds) r g.le rfl
      exact ⟨p, vs, rfl, .inl ⟨hq, fun l hl => post_tup q g hl ha⟩⟩
    | _ => cases e
  | own ds =>
    cases e
    obtain ⟨p, vs, rfl, hq, ha⟩ := Rr.lst (ds := ds) r g.le rfl
    exact ⟨p, vs, rfl, .inl ⟨hq, fun l hl => post_tup q g hl ha⟩⟩
  | bor ds =>
    cases e
    obtain ⟨p, vs, rfl, hq, ha⟩ := Rr.lst (ds := ds) r g.le rfl
    exact ⟨p, vs, rfl, .inl ⟨hq, fun l hl => post_tup q g hl ha⟩⟩
  | val _ => cases e
  | tok => cases e
/-! sum, any, all -/
def intsOf : List PyData → Option (List Int)
  | [] => some []
  | .int i :: r => (intsOf r).map fun l => i :: l
  | _ :: _ => none
theorem intsOf_eq : ∀ {ds : List PyData} {ns : List Int}, intsOf ds = some ns → ds = ns.map PyData.int
  | [], _, e => by cases e; rfl
  | d :: ds, ns, e => by
    cases d with
    | int i =>
      unfold intsOf at e
      cases e1 : intsOf ds with
      | none => rw [e1] at e; cases e
      | some l =>
        rw [e1] at e
        cases e
        rw [intsOf_eq e1]
        rfl
    | _ => cases e
theorem intsOf_map : ∀ ns : List Int, intsOf (ns.map PyData.int) = some ns
  | [] => rfl
  | n :: ns => by
    show (intsOf (ns.map PyData.int)).map (fun l => n :: l) = some (n :: ns)
    rw [intsOf_map ns]
    rfl
def boolsOf : List PyData → Option (List Bool)
  | [] => some []
  | .bool i :: r => (boolsOf r).map fun l => i :: l
  | _ :: _ => none
theorem boolsOf_eq : ∀ {ds : List PyData} {ns : List Bool}, boolsOf ds = some ns → ds = ns.map PyData.bool
  | [], _, e => by cases e; rfl
  | d :: ds, ns, e => by
    cases d with
    | bool i =>
      unfold boolsOf at e
      cases e1 : boolsOf ds with
      | none => rw [e1] at e; cases e
      | some l =>
        rw [e1] at e
        cases e
        rw [boolsOf_eq e1]
        rfl
    | _ => cases e
theorem boolsOf_map : ∀ ns : List Bool, boolsOf (ns.map PyData.bool) = some ns
  | [] => rfl
  | n :: ns => by
    show (boolsOf (ns.map PyData.bool)).map (fun l => n :: l) = some (n :: ns)
    rw [boolsOf_map ns]
    rfl
def dSumL (x : Rv) : Option Rv := (listOf x).bind fun ds => (intsOf ds).map fun ns => .dat (.int ns.sum)
theorem c_sumL (hc : ∀ i, (Y i).calm = true) (hK : ∀ i, (Y i).K = K) : CA Y K RR (.builtin "sum") (fn1 dSumL) := by
  refine ⟨rSum K, fun i => by rw [← hK i]; exact cr_sum (hc i), fun pp => csem1 fun s x z v G H Q e g r q => ?_⟩
  unfold dSumL at e
  cases e1 : listOf x with
  | none => rw [e1] at e; cases e
  | some ds =>
    rw [e1] at e
    simp only [Option.bind_some] at e
    cases e2 : intsOf ds with
    | none => rw [e2] at e; cases e
    | some ns =>
      rw [e2] at e
      cases e
      obtain ⟨p, vs, rfl, hq, ha⟩ := r.lst g.le e1
      have e3 := intsOf_eq e2
      subst e3
      have e4 := dpa_ints ns ha
      subst e4
      exact ⟨p, ns, rfl, hq, post_now q g (Dp.int _) trivial⟩
def dAny (x : Rv) : Option Rv := (listOf x).bind fun ds => (boolsOf ds).map fun bs => .dat (.bool (bs.any id))
def dAll (x : Rv) : Option Rv := (listOf x).bind fun ds => (boolsOf ds).map fun bs => .dat (.bool (bs.all id))
def bAny : List Rv → Option Rv := fn1 dAny
def bAll : List Rv → Option Rv := fn1 dAll
theorem c_any (hc : ∀ i, (Y i).calm = true) (hK : ∀ i, (Y i).K = K) : CA Y K RR (.builtin "any") bAny := by
  refine ⟨rAny K, fun i => by rw [← hK i]; exact cr_any (hc i), fun pp => csem1 fun s x z v G H Q e g r q => ?_⟩
  unfold dAny at e
  cases e1 : listOf x with
  | none => rw [e1] at e; cases e
  | some ds =>
    rw [e1] at e
    simp only [Option.bind_some] at e
    cases e2 : boolsOf ds with
    | none => rw [e2] at e; cases e
    | some ns =>
      rw [e2] at e
      cases e
      obtain ⟨p, vs, rfl, hq, ha⟩ := r.lst g.le e1
      have e3 := boolsOf_eq e2
      subst e3
      have e4 := dpa_bools ns ha
      subst e4
      exact ⟨p, ns, rfl, hq, post_now q g (Dp.bl _) trivial⟩
theorem c_all (hc : ∀ i, (Y i).calm = true) (hK : ∀ i, (Y i).K = K) : CA Y K RR (.builtin "all") bAll := by
  refine ⟨rAll K, fun i => by rw [← hK i]; exact cr_all (hc i), fun pp => csem1 fun s x z v G H Q e g r q => ?_⟩
  unfold dAll at e
  cases e1 : listOf x with
  | none => rw [e1] at e; cases e
  | some ds =>
    rw [e1] at e
    simp only [Option.bind_some] at e
    cases e2 : boolsOf ds with
    | none => rw [e2] at e; cases e
    | some ns =>
      rw [e2] at e
      cases e
      obtain ⟨p, vs, rfl, hq, ha⟩ := r.lst g.le e1
      have e3 := boolsOf_eq e2
      subst e3
      have e4 := dpa_bools ns ha
      subst e4
      exact ⟨p, ns, rfl, hq, post_now q g (Dp.bl _) trivial⟩
/-! isinstance(x, T), T one built-in class -/
def isTy : String → Option (PyData → Bool)
  | "tuple" => some PyData.isTuple
  | "list" => some PyData.isList
  | "int" => some PyData.isInt
  | "str" => some PyData.isStr
  | "bool" => some PyData.isBool
  | "dict" => some PyData.isDict
  | _ => none
def dIsi (x y : Rv) : Option Rv := match y with
  | .val (.ty t) => (isTy t).bind fun f => (asD x).map fun d => .dat (.bool (f d))
  | _ => none
def bIsi : List Rv → Option Rv := fn2 dIsi
def rIsiD (K : PySem.W.Frag) : List V → Hp → VK → Prop := fun xs H Q => ∃ x t d f, xs = [x, .ty t] ∧ isTy t = some f ∧ Dp K H x d ∧ Q (.bl (f d)) H
theorem call_isiD {X : Cx} : CallR X (.builtin "isinstance") (rIsiD X.K) := by
  intro pins s σ H xs us Q I r h
  obtain ⟨x, t, d, f, rfl, ht, hd, q⟩ := h
  obtain ⟨u1, u2, rfl, r1, r2⟩ := vals2 r
  cases (show u2 = Value.type t from r2)
  obtain ⟨as, rd⟩ := Dp.reads I d x u1 hd r1
  have fin : ∀ tk, s.toks ≤ tk → EP X pins σ Q (.bool (f d)) { s with toks := tk } := fun tk _ => ⟨.bl (f d), H, I.tok tk, rfl, q⟩
  unfold isTy at ht
  split at ht
  · cases ht; exact PySem.W.isinstance_tuple_data rd fin
  · cases ht; exact PySem.W.isinstance_list_data rd fin
  · cases ht; exact PySem.W.isinstance_int_data rd fin
  · cases ht; exact PySem.W.isinstance_str_data rd fin
  · cases ht; exact PySem.W.isinstance_bool_data rd fin
  · cases ht; exact PySem.W.isinstance_dict_data rd fin
  · cases ht
theorem c_isi (hK : ∀ i, (Y i).K = K) : CA Y K RR (.builtin "isinstance") bIsi := by
  refine ⟨rIsiD K, fun i => by rw [← hK i]; exact call_isiD, fun pp => csem2 fun s x y z v w G H Q e g r r' q => ?_⟩
  unfold dIsi at e
  split at e
  · rename_i t
    cases e1 : isTy t with
    | none => rw [e1] at e; cases e
    | some f =>
      rw [e1] at e
      simp only [Option.bind_some] at e
      cases e2 : asD x with
      | none => rw [e2] at e; cases e
      | some d =>
        rw [e2] at e
        cases e
        cases (show w = V.ty t from r')
        exact ⟨v, t, d, f, rfl, e1, r.dp g.le e2, post_now q g (Dp.bl _) trivial⟩
  · cases e
end

/-! ### sorted -/
section
variable {α : Type} (le : α → α → Bool)
def mgF : Nat → List α → List α → List α
  | 0, xs, _ => xs
  | _ + 1, [], ys => ys
  | _ + 1, x :: xs, [] => x :: xs
  | n + 1, x :: xs, y :: ys => if le x y = true then x :: mgF n xs (y :: ys) else y :: mgF n (x :: xs) ys
theorem mgF_eq : ∀ (n : Nat) (xs ys : List α), xs.length + ys.length < n → mgF le n xs ys = List.merge xs ys le
  | 0, _, _, h => by omega
  | _ + 1, [], ys, _ => by simp [mgF]
  | _ + 1, x :: xs, [], _ => by simp [mgF]
  | n + 1, x :: xs, y :: ys, h => by
    rw [mgF, List.cons_merge_cons]
    rw [mgF_eq n xs (y :: ys) (by simp at h ⊢; omega), mgF_eq n (x :: xs) ys (by simp at h ⊢; omega)]
def msF : Nat → List α → List α
  | 0, l => l
  | _ + 1, [] => []
  | _ + 1, [a] => [a]
  | n + 1, a :: b :: xs => mgF le ((a :: b :: xs).length + 1) (msF n ((a :: b :: xs).take (((a :: b :: xs).length + 1) / 2))) (msF n ((a :: b :: xs).drop (((a :: b :: xs).length + 1) / 2)))
theorem msF_eq : ∀ (n : Nat) (l : List α), l.length ≤ n → msF le n l = l.mergeSort le
  | 0, l, h => by
    have : l = [] := List.length_eq_zero_iff.mp (by omega)
    subst this
    simp [msF]
  | _ + 1, [], _ => by simp [msF]
  | _ + 1, [a], _ => by simp [msF]
  | n + 1, a :: b :: xs, h => by
    have h1 : (a :: b :: xs).length = xs.length + 2 := rfl
    rw [msF, msF_eq n _ (by rw [List.length_take]; omega), msF_eq n _ (by rw [List.length_drop]; omega), mgF_eq]
    · rw [List.mergeSort]
      simp [List.MergeSort.Internal.splitInTwo_fst, List.MergeSort.Internal.splitInTwo_snd]
    · rw [List.length_mergeSort, List.length_mergeSort, List.length_take, List.length_drop]
      omega
end
section
variable {X : Cx} {pins : List (Addr × Obj)} {σ : L2.St} {H : Hp} {s : Shared} {K : PySem.W.Frag}
theorem zip_vals : ∀ {vs : List V} {us : List Value} {ds : List PyData}, Vals vs us → vs.length = ds.length → PySem.W.EachIs (fun u (b : PyData × V) => RelV b.2 u) us (ds.zip vs)
  | _, _, [], .nil, _ => .nil
  | _, _, _ :: _, .nil, h => by simp at h
  | _, _, [], .cons _ _, h => by simp at h
  | _, _, d :: ds, .cons r t, h => .cons r (zip_vals t (by simpa using h))
theorem zip_reads : ∀ {vs : List V} {us : List Value} {ds : List PyData} {as : List Addr}, ReadsAll s.heap us ds as → vs.length = ds.length → PySem.W.EachIs (fun u (b : PyData × V) => ∃ as, Reads s.heap u b.1 as) us (ds.zip vs)
  | [], _, [], _, .nil, _ => .nil
  | _ :: _, _, [], _, .nil, h => by simp at h
  | [], _, _ :: _, _, _, h => by simp at h
  | v :: vs, _, d :: ds, _, .cons r t, h => .cons ⟨_, r⟩ (zip_reads t (by simpa using h))
theorem vals_of_each : ∀ {us : List Value} {bs : List (PyData × V)}, PySem.W.EachIs (fun u (b : PyData × V) => RelV b.2 u) us bs → Vals (bs.map Prod.snd) us
  | _, _, .nil => .nil
  | _, _, .cons h t => .cons h (vals_of_each t)
abbrev leD (a b : PyData) : Bool := !PySem.W.dataLt b a
def sortD (ds : List PyData) : List PyData := msF leD ds.length ds
theorem sortD_eq (ds : List PyData) : sortD ds = ds.mergeSort leD := msF_eq _ _ _ (Nat.le_refl _)
def srtV (ds : List PyData) (vs : List V) : List V := ((ds.zip vs).mergeSort fun a b => leD a.1 b.1).map Prod.snd
theorem srt_dpa {G : Hp} {ds : List PyData} {vs : List V} (h : DpAll K G vs ds) : DpAll K G (srtV ds vs) (sortD ds) := by
  have e : ((ds.zip vs).mergeSort fun a b => leD a.1 b.1).map Prod.fst = sortD ds := by
    rw [List.map_mergeSort (s := leD) (fun a _ b _ => rfl), List.map_fst_zip (by rw [dpa_len h]; exact Nat.le_refl _), sortD_eq]
  have all : ∀ (bs : List (PyData × V)), (∀ b ∈ bs, Dp K G b.2 b.1) → DpAll K G (bs.map Prod.snd) (bs.map Prod.fst) := by
    intro bs
    induction bs with
    | nil => intro _; exact .nil
    | cons b bs ih => intro hb; exact .cons (hb b List.mem_cons_self) (ih fun c hc => hb c (List.mem_cons_of_mem _ hc))
  have zp : ∀ {ds : List PyData} {vs : List V}, DpAll K G vs ds → ∀ b ∈ ds.zip vs, Dp K G b.2 b.1 := by
    intro ds vs h
    induction h using DpAll.rec (motive_1 := fun _ _ _ => True) with
    | non => trivial
    | bl => trivial
    | int => trivial
    | str => trivial
    | lst => trivial
    | tup => trivial
    | nil => intro b hb; cases hb
    | cons h1 _ _ ih =>
      intro b hb
      rcases List.mem_cons.mp hb with rfl | hb
      · exact h1
      · exact ih b hb
  rw [← e]
  exact all _ fun b hb => zp h b ((List.mergeSort_perm _ _).mem_iff.mp hb)
theorem srt_len {ds : List PyData} {vs : List V} (h : vs.length = ds.length) : (srtV ds vs).length = vs.length := by
  unfold srtV
  rw [List.length_map, List.length_mergeSort, List.length_zip, h, Nat.min_self]
def okSortP (ds : List PyData) : Prop := PySem.W.AllAlike ds ∧ PySem.W.Sortable ds ∧ ∀ d ∈ ds, d.depth ≤ 64
def rSortD (K : PySem.W.Frag) : List V → Hp → VK → Prop := fun xs H Q => ∃ a vs ds, xs = [.ref a] ∧ SqL K H a vs ∧ DpAll K H vs ds ∧ okSortP ds ∧ ∀ p, H p = none → Q (.ref p) (upd H p (.lst (srtV ds vs)))
theorem cr_sortD {k : Nat} (hr : Room k X.A) : CallR X (.builtin "sorted") (rSortD X.K) := by
  intro pins s σ H xs us Q I r h
  obtain ⟨a, vs, ds, rfl, hs, ha, ⟨ok1, ok2, ok3⟩, q⟩ := h
  obtain ⟨its, rv, hl, hz⟩ := I.list hs
  obtain ⟨u, rfl, ru⟩ := vals1 r
  obtain rfl : u = Value.ref a := ru
  obtain ⟨as, rd⟩ := Dp.readsAll I ds vs its ha rv
  have hlen := dpa_len ha
  have mf : (ds.zip vs).map Prod.fst = ds := List.map_fst_zip (by rw [hlen]; exact Nat.le_refl _)
  refine PySem.W.sorted_data (vs := its) (bs := ds.zip vs) (enc := Prod.fst) (R := fun u b => RelV b.2 u) hl.isList (zip_vals rv hlen) (zip_reads rd hlen) (by rw [mf]; exact ok1) (by rw [mf]; exact ok2) (by rw [List.length_zip, hlen, Nat.min_self, ← hlen]; exact hz) (fun b hb => ?_) fun out ho eo => ?_
  · have h1 : b.1 ∈ ds := by rw [← mf]; exact List.mem_map.mpr ⟨b, hb, rfl⟩
    have := ok3 _ h1
    have := hr.un
    omega
  · obtain ⟨n, hn⟩ := sortedAll_at s.heap its (List.toArray out)
    have e : (ds.zip vs).mergeSort (PySem.W.dataLe false Prod.fst) = (ds.zip vs).mergeSort fun a b => leD a.1 b.1 := rfl
    rw [e] at eo
    refine ⟨.ref (s.heap.objs.size + 1), upd H (s.heap.objs.size + 1) (.lst (srtV ds vs)), I.laid (t' := s.toks) (fun b o e => sortedAll_old e) (Nat.le_succ _) ⟨?_, out, n, vals_of_each eo, hn⟩, rfl, q _ (I.hok.fresh (Nat.le_succ _))⟩
    rw [srt_len hlen]
    exact hz
end
section
variable {ι π τ : Type} {Y : ι → Cx} {K : PySem.W.Frag} {RR : π → Res τ} {Rs : Res τ}
def neTup : PyData → Bool
  | .tuple (_ :: _) => true
  | _ => false
def plainKey : PyData → Bool
  | .none => false
  | .tuple _ => false
  | _ => true
def okSort (ds : List PyData) : Bool := (ds.all fun d => ds.all fun e => PySem.W.alike d e) && (ds.all neTup || ds.all plainKey) && ds.all fun d => decide (d.depth ≤ 64)
theorem okSort_iff {ds : List PyData} (h : okSort ds = true) : okSortP ds := by
  unfold okSort at h
  rw [Bool.and_eq_true, Bool.and_eq_true, Bool.or_eq_true] at h
  obtain ⟨⟨h1, h2⟩, h3⟩ := h
  refine ⟨fun d hd e he => ?_, ?_, fun d hd => of_decide_eq_true (List.all_eq_true.mp h3 d hd)⟩
  · exact List.all_eq_true.mp (List.all_eq_true.mp h1 d hd) e he
  · rcases h2 with h2 | h2
    · refine .inl fun d hd => ?_
      have := List.all_eq_true.mp h2 d hd
      unfold neTup at this
      split at this
      · exact ⟨_, _, rfl⟩
      · cases this
    · refine .inr fun d hd => ?_
      have := List.all_eq_true.mp h2 d hd
      unfold plainKey at this
      split at this
      · cases this
      · cases this
      · rename_i a b
        exact ⟨a, b⟩
def dSorted (x : Rv) : Option Rv := (listOf x).bind fun ds => if okSort ds = true then some (.own (sortD ds)) else none
def bSorted : List Rv → Option Rv := fn1 dSorted
theorem c_sorted {k : Nat} (hr : ∀ i, Room k (Y i).A) (hK : ∀ i, (Y i).K = K) : CA Y K RR (.builtin "sorted") bSorted := by
  refine ⟨rSortD K, fun i => by rw [← hK i]; exact cr_sortD (hr i), fun pp => csem1 fun s x z v G H Q e g r q => ?_⟩
  unfold dSorted at e
  cases e1 : listOf x with
  | none => rw [e1] at e; cases e
  | some ds =>
    rw [e1] at e
    simp only [Option.bind_some] at e
    split at e
    · rename_i ok
      cases e
      obtain ⟨p, vs, rfl, hq, ha⟩ := r.lst g.le e1
      exact ⟨p, vs, ds, rfl, hq, dpa_mono g.le ds _ ha, okSort_iff ok, fun l hl => post_own q g hl (srt_dpa ha)⟩
    · cases e
/-! ### slices -/
def OSm {τ : Type} (K : PySem.W.Frag) (Rs : Res τ) (t : TO) (f : Ev → τ → Option (Option Int × τ)) : Prop :=
  ∀ G0 H0 ρ s o s' σ G H (Q : Option Int → Hp → Prop), f ρ s = some (o, s') → SI K Rs G0 H0 ρ σ G H → GH Rs s G H → (∀ G' H', GH Rs s' G' H' → Ext Rs.foot G H G' H' → Q o H') → t σ H Q
def PX {ι π τ : Type} (Y : ι → Cx) (K : PySem.W.Frag) (Rs : π → Res τ) (e : Option Expr) (f : Ev → τ → Option (Option Int × τ)) : Prop := ∃ t, (∀ i, PO (Y i) e t) ∧ ∀ pp, OSm K (Rs pp) t f
def dNo : Ev → τ → Option (Option Int × τ) := fun _ s => some (none, s)
def dPart (fa : EF τ) : Ev → τ → Option (Option Int × τ) := fun ρ s => (fa ρ s).bind fun x => match x.1 with
  | .dat (.int i) => some (some i, x.2)
  | _ => none
theorem p_none : PX Y K RR none (dNo (τ := τ)) := ⟨_, fun _ => po_none, fun pp G0 H0 ρ s o s' σ G H Q e si g q => by
  cases e
  exact q G H g .refl⟩
theorem p_some {e : Expr} {fa : EF τ} (h : EX Y K RR e fa) : PX Y K RR (some e) (dPart fa) := by
  obtain ⟨t, h1, h2⟩ := h
  refine ⟨_, fun i => po_some (h1 i), fun pp G0 H0 ρ s o s' σ G H Q e si g q => ?_⟩
  unfold dPart at e
  cases e1 : fa ρ s with
  | none => rw [e1] at e; cases e
  | some x =>
    obtain ⟨x, s1⟩ := x
    rw [e1] at e
    simp only [Option.bind_some] at e
    split at e
    · cases e
      refine h2 pp G0 H0 ρ s _ _ σ G H _ e1 si g fun v G1 H1 g1 x1 r1 _ => ?_
      cases r1
      exact ⟨_, rfl, q G1 H1 g1 x1⟩
    · cases e
/-- the items of xs[lo:hi] -/
def cutD (xs : List PyData) (lo hi : Option Int) : List PyData := (xs.drop (HT.sIx xs.length 0 lo)).take (HT.sIx xs.length xs.length hi - HT.sIx xs.length 0 lo)
theorem cut_dpa {G : Hp} {vs : List V} {ds : List PyData} (lo hi : Option Int) (h : DpAll K G vs ds) : DpAll K G (cutV vs lo hi) (cutD ds lo hi) := by
  unfold cutV cutD
  rw [dpa_len h]
  exact dpa_take _ (dpa_drop _ h)
def dCut (x : Rv) (lo hi : Option Int) : Option Rv := match x with
  | .dat (.tuple ds) => some (.dat (.tuple (cutD ds lo hi)))
  | x => (listOf x).map fun ds => .own (cutD ds lo hi)
def dSl (fa : EF τ) (fl fh : Ev → τ → Option (Option Int × τ)) : EF τ := fun ρ s => (fa ρ s).bind fun x => (fl ρ x.2).bind fun l => (fh ρ l.2).bind fun h => (dCut x.1 l.1 h.1).map fun r => (r, h.2)
theorem cut_whole {ds : List PyData} {lo hi : Option Int} (h : HT.sIx ds.length 0 lo = 0 ∧ HT.sIx ds.length ds.length hi = ds.length) : cutD ds lo hi = ds := by
  unfold cutD
  rw [h.1, h.2, List.drop_zero, Nat.sub_zero, List.take_length]
theorem e_sl {e : Expr} {lo hi : Option Expr} {p2 pos : Pos} {fa : EF τ} {fl fh : Ev → τ → Option (Option Int × τ)} (hK : ∀ i, (Y i).K = K) (h : EX Y K RR e fa) (hl : PX Y K RR lo fl) (hh : PX Y K RR hi fh) : EX Y K RR (.Subscript e (.Slice lo hi none p2) pos) (dSl fa fl fh) := by
  obtain ⟨ta, a1, a2⟩ := h
  obtain ⟨tl, b1, b2⟩ := hl
  obtain ⟨th, c1, c2⟩ := hh
  refine ⟨tSl (fun x lo hi H Q => rSlL K x lo hi H Q ∨ rSlA K x lo hi H Q) ta tl th, fun i => by rw [← hK i]; exact pe_slice (sl_list.or sl_tupA) (a1 i) (b1 i) (c1 i), ?_⟩
  intro pp G0 H0 ρ s r s' σ G H Q e si g q
  unfold dSl at e
  cases e1 : fa ρ s with
  | none => rw [e1] at e; cases e
  | some x =>
    obtain ⟨x, s1⟩ := x
    rw [e1] at e
    simp only [Option.bind_some] at e
    cases e2 : fl ρ s1 with
    | none => rw [e2] at e; cases e
    | some l =>
      obtain ⟨l, s2⟩ := l
      rw [e2] at e
      simp only [Option.bind_some] at e
      cases e3 : fh ρ s2 with
      | none => rw [e3] at e; cases e
      | some h =>
        obtain ⟨h, s3⟩ := h
        rw [e3] at e
        simp only [Option.bind_some] at e
        cases e4 : dCut x l h with
        | none => rw [e4] at e; cases e
        | some z =>
          rw [e4] at e
          cases e
          refine a2 pp G0 H0 ρ s x _ σ G H _ e1 si g fun v G1 H1 g1 x1 r1 _ => ?_
          refine b2 pp G0 H0 ρ s1 l _ σ G1 H1 _ e2 (si.ext x1) g1 fun G2 H2 g2 x2 => ?_
          refine c2 pp G0 H0 ρ s2 h _ σ G2 H2 _ e3 (si.ext (x1.trans x2)) g2 fun G3 H3 g3 x3 => ?_
          have r3 := (r1.ext x2).ext x3
          have q3 := post_le ((x1.trans x2).trans x3) q
          unfold dCut at e4
          split at e4
          · cases e4
            cases r3 with
            | tup hT ha =>
              refine .inr ⟨_, _, rfl, sqT_mono g3.le hT, fun hw => ?_, fun _ p hp => post_tup q3 g3 hp (cut_dpa l h ha)⟩
              rw [dpa_len ha] at hw
              rw [cut_whole hw] at q3
              exact post_now q3 g3 (Dp.tup hT ha) trivial
          · cases e5 : listOf x with
            | none => rw [e5] at e4; cases e4
            | some ds =>
              rw [e5] at e4
              cases e4
              obtain ⟨p, vs, rfl, hq, ha⟩ := r3.lst g3.le e5
              exact .inl ⟨p, vs, rfl, hq, fun p hp => post_own q3 g3 hp (cut_dpa l h ha)⟩
end
end DL

set_option Elab.async false
set_option linter.all false
set_option maxRecDepth 100000
set_option maxHeartbeats 4000000
set_option autoImplicit false
/-! DL, part D: what is walked, targets, comprehensions. -/
namespace DL
open PySem PySem.Spec PyProof.Rows L2

/-! ### what is walked -/
/-- within expressions -/
structure ItOk {τ : Type} (K : PySem.W.Frag) (Rs : Res τ) (J : It) (ds : List PyData) (G1 H1 : Hp) : Prop where
  go : ∀ G H (s : τ), Ext Rs.foot G1 H1 G H → GH Rs s G H → ∀ i, i < ds.length → J.go i H
  yld : ∀ G H (s : τ), Ext Rs.foot G1 H1 G H → GH Rs s G H → ∀ (i : Nat) x H', J.yld i H x H' → ∀ d, ds[i]? = some d → ∃ G', Ext Rs.foot G H G' H' ∧ GH Rs s G' H' ∧ Dp K G' x d
  stop : ∀ G H (s : τ), Ext Rs.foot G1 H1 G H → GH Rs s G H → ∀ i, ds.length ≤ i → J.stop i H
/-- within statements: only data stay -/
structure ItOkS {τ : Type} (K : PySem.W.Frag) (Rs : Res τ) (J : It) (ds : List PyData) (G1 : Hp) : Prop where
  go : ∀ G H (s : τ), (∀ a o, G1 a = some o → G a = some o) → GH Rs s G H → ∀ i, i < ds.length → J.go i H
  yld : ∀ G H (s : τ), (∀ a o, G1 a = some o → G a = some o) → GH Rs s G H → ∀ (i : Nat) x H', J.yld i H x H' → ∀ d, ds[i]? = some d → ∃ G', Ext Rs.foot G H G' H' ∧ GH Rs s G' H' ∧ Dp K G' x d
  stop : ∀ G H (s : τ), (∀ a o, G1 a = some o → G a = some o) → GH Rs s G H → ∀ i, ds.length ≤ i → J.stop i H
theorem ItOkS.e {τ : Type} {K : PySem.W.Frag} {Rs : Res τ} {J : It} {ds : List PyData} {G1 H1 : Hp} (h : ItOkS K Rs J ds G1) : ItOk K Rs J ds G1 H1 :=
  ⟨fun G H s e => h.go G H s e.g, fun G H s e => h.yld G H s e.g, fun G H s e => h.stop G H s e.g⟩
abbrev IF (τ : Type) := Ev → τ → Option (List PyData × τ)
def ISem {τ : Type} (K : PySem.W.Frag) (Rs : Res τ) (wi : TI) (f : IF τ) : Prop :=
  ∀ G0 H0 ρ s ds s' σ G H (R : It → Hp → Prop), f ρ s = some (ds, s') → SI K Rs G0 H0 ρ σ G H → GH Rs s G H →
    (∀ J G' H', GH Rs s' G' H' → Ext Rs.foot G H G' H' → ItOk K Rs J ds G' H' → ds.length ≤ sizeLine → R J H') → wi σ H R
def ISemS {τ : Type} (K : PySem.W.Frag) (Rs : Res τ) (wi : TI) (f : IF τ) : Prop :=
  ∀ G0 H0 ρ s ds s' σ G H (R : It → Hp → Prop), f ρ s = some (ds, s') → SI K Rs G0 H0 ρ σ G H → GH Rs s G H →
    (∀ J G' H', GH Rs s' G' H' → Ext Rs.foot G H G' H' → ItOkS K Rs J ds G' → R J H') → wi σ H R
def IX {ι π τ : Type} (Y : ι → Cx) (K : PySem.W.Frag) (Rs : π → Res τ) (tg e : Expr) (f : IF τ) : Prop := ∃ wi, (∀ i, PI (Y i) tg e wi) ∧ ∀ pp, ISem K (Rs pp) wi f
def ISX {ι π τ : Type} (Y : ι → Cx) (K : PySem.W.Frag) (Rs : π → Res τ) (tg e : Expr) (f : IF τ) : Prop := ∃ wi, (∀ i, PI (Y i) tg e wi) ∧ ∀ pp, ISemS K (Rs pp) wi f

section
variable {X : Cx} {tg : Expr}
/-- a list or a tuple; how long it is is known -/
def iSeq (K : PySem.W.Frag) (tl : TE) : TI := fun σ H R => tl σ H fun x H1 => ∃ a, x = .ref a ∧ ((∃ xs, SqL K H1 a xs ∧ (xs.length ≤ sizeLine → R (Itl K a) H1)) ∨ (∃ xs, SqT K H1 a xs ∧ (xs.length ≤ sizeLine → R (Itt K a) H1)))
theorem pi_seq {l : Expr} {tl : TE} (hl : PE X l tl) : PI X tg l (iSeq X.K tl) := by
  refine ⟨fun pins s σ H R I h => ?_⟩
  refine thn (hl.run pins s σ H _ I h) fun v s1 ⟨x, H1, I1, r1, q1⟩ => ?_
  obtain ⟨a, e, h⟩ := q1
  subst e
  cases r1
  rcases h with ⟨xs, hq, q⟩ | ⟨xs, hq, q⟩
  · obtain ⟨its, rv, p, hz⟩ := I1.list hq
    refine wpAny_pyIter_list p.isList ?_
    refine ⟨s1.heap.objs.size, [s1.heap.objs.size], _, _, H1, rfl, I1.kept (t' := s1.toks) fun b o e => Heap.get?_push_of_some _ e, turn_list a _, ⟨_, Heap.get?_push_size _ rfl, rfl, rfl⟩, fun b hb => ?_, q hz⟩
    have e : b = s1.heap.objs.size := by simpa using hb
    subst e
    exact I1.fpOk (Nat.le_refl _) (I1.hok.fresh (Nat.le_refl _))
  · obtain ⟨its, rv, p, hz⟩ := I1.tuple hq
    refine wpAny_pyIter_tuple (show s1.heap.IsTuple a its.toArray from p) ?_
    refine ⟨s1.heap.objs.size, [s1.heap.objs.size], _, _, H1, rfl, I1.kept (t' := s1.toks) fun b o e => Heap.get?_push_of_some _ e, turn_tuple a _, ⟨_, Heap.get?_push_size _ rfl, rfl, rfl⟩, fun b hb => ?_, q hz⟩
    have e : b = s1.heap.objs.size := by simpa using hb
    subst e
    exact I1.fpOk (Nat.le_refl _) (I1.hok.fresh (Nat.le_refl _))
end
section
variable {ι π τ : Type} {Y : ι → Cx} {K : PySem.W.Frag} {RR : π → Res τ} {Rs : Res τ} {tg e a b : Expr} {fa fb : EF τ} {fr : AF τ}
def dItems (fa : EF τ) : IF τ := fun ρ s => (fa ρ s).bind fun x => (itemsOf x.1).map fun ds => (ds, x.2)
def datItems : Rv → Option (List PyData)
  | .dat (.list ds) => some ds
  | .dat (.tuple ds) => some ds
  | _ => none
def dItemsS (fa : EF τ) : IF τ := fun ρ s => (dFrz fa ρ s).bind fun x => (datItems x.1).map fun ds => (ds, x.2)
theorem itl_ok {G1 H1 : Hp} {p : Addr} {vs : List V} {ds : List PyData} (ha : DpAll K G1 vs ds) (st : ∀ G H (s : τ), Ext Rs.foot G1 H1 G H → GH Rs s G H → SqL K H p vs) : ItOk K Rs (Itl K p) ds G1 H1 where
  go := fun G H s e g i hi => by
    have hl : i < vs.length := by rw [dpa_len ha]; exact hi
    exact ⟨vs, vs[i], st G H s e g, List.getElem?_eq_getElem hl⟩
  yld := fun G H s e g i x H' y d hd => by
    obtain ⟨rfl, y⟩ := y
    obtain ⟨v, h1, h2⟩ := dpa_get' ha hd
    have := y vs (st G _ s e g)
    rw [h1] at this
    cases this
    exact ⟨G, .refl, g, dp_mono e.g d _ h2⟩
  stop := fun G H s e g i hi => ⟨vs, st G H s e g, by rw [dpa_len ha]; exact hi⟩
theorem itt_ok {G1 H1 : Hp} {p : Addr} {vs : List V} {ds : List PyData} (ha : DpAll K G1 vs ds) (st : ∀ G H (s : τ), Ext Rs.foot G1 H1 G H → GH Rs s G H → SqT K H p vs) : ItOk K Rs (Itt K p) ds G1 H1 where
  go := fun G H s e g i hi => by
    have hl : i < vs.length := by rw [dpa_len ha]; exact hi
    exact ⟨vs, vs[i], st G H s e g, List.getElem?_eq_getElem hl⟩
  yld := fun G H s e g i x H' y d hd => by
    obtain ⟨rfl, y⟩ := y
    obtain ⟨v, h1, h2⟩ := dpa_get' ha hd
    have := y vs (st G _ s e g)
    rw [h1] at this
    cases this
    exact ⟨G, .refl, g, dp_mono e.g d _ h2⟩
  stop := fun G H s e g i hi => ⟨vs, st G H s e g, by rw [dpa_len ha]; exact hi⟩
theorem itl_okS {G1 : Hp} {p : Addr} {vs : List V} {ds : List PyData} (ha : DpAll K G1 vs ds) (st : SqL K G1 p vs) : ItOkS K Rs (Itl K p) ds G1 where
  go := fun G H s e g i hi => by
    have hl : i < vs.length := by rw [dpa_len ha]; exact hi
    exact ⟨vs, vs[i], sqL_mono g.le (sqL_mono e st), List.getElem?_eq_getElem hl⟩
  yld := fun G H s e g i x H' y d hd => by
    obtain ⟨rfl, y⟩ := y
    obtain ⟨v, h1, h2⟩ := dpa_get' ha hd
    have := y vs (sqL_mono g.le (sqL_mono e st))
    rw [h1] at this
    cases this
    exact ⟨G, .refl, g, dp_mono e d _ h2⟩
  stop := fun G H s e g i hi => ⟨vs, sqL_mono g.le (sqL_mono e st), by rw [dpa_len ha]; exact hi⟩
theorem itt_okS {G1 : Hp} {p : Addr} {vs : List V} {ds : List PyData} (ha : DpAll K G1 vs ds) (st : SqT K G1 p vs) : ItOkS K Rs (Itt K p) ds G1 where
  go := fun G H s e g i hi => by
    have hl : i < vs.length := by rw [dpa_len ha]; exact hi
    exact ⟨vs, vs[i], sqT_mono g.le (sqT_mono e st), List.getElem?_eq_getElem hl⟩
  yld := fun G H s e g i x H' y d hd => by
    obtain ⟨rfl, y⟩ := y
    obtain ⟨v, h1, h2⟩ := dpa_get' ha hd
    have := y vs (sqT_mono g.le (sqT_mono e st))
    rw [h1] at this
    cases this
    exact ⟨G, .refl, g, dp_mono e d _ h2⟩
  stop := fun G H s e g i hi => ⟨vs, sqT_mono g.le (sqT_mono e st), by rw [dpa_len ha]; exact hi⟩
theorem i_seq (hK : ∀ i, (Y i).K = K) (h : EX Y K RR e fa) : IX Y K RR tg e (dItems fa) := by
  obtain ⟨t, h1, h2⟩ := h
  refine ⟨iSeq K t, fun i => by rw [← hK i]; exact pi_seq (h1 i), fun pp G0 H0 ρ s ds s' σ G H R e si g q => ?_⟩
  unfold dItems at e
  cases e1 : fa ρ s with
  | none => rw [e1] at e; cases e
  | some x =>
    obtain ⟨x, s1⟩ := x
    rw [e1] at e
    simp only [Option.bind_some] at e
    cases e2 : itemsOf x with
    | none => rw [e2] at e; cases e
    | some ds =>
      rw [e2] at e
      cases e
      refine h2 pp G0 H0 ρ s x _ σ G H _ e1 si g fun v G1 H1 g1 x1 r1 _ => ?_
      cases x with
      | dat d =>
        cases d with
        | list xs =>
          cases e2
          cases r1 with
          | lst hs ha =>
            refine ⟨_, rfl, .inl ⟨_, sqL_mono g1.le hs, fun hz => q _ G1 H1 g1 x1 (itl_okS ha hs).e (by rw [← dpa_len ha]; exact hz)⟩⟩
        | tuple xs =>
          cases e2
          cases r1 with
          | tup hs ha =>
            refine ⟨_, rfl, .inr ⟨_, sqT_mono g1.le hs, fun hz => q _ G1 H1 g1 x1 (itt_okS ha hs).e (by rw [← dpa_len ha]; exact hz)⟩⟩
        | _ => cases e2
      | own xs =>
        cases e2
        obtain ⟨p, vs, rfl, hf, hg, hh, hd⟩ := r1
        exact ⟨p, rfl, .inl ⟨vs, SqL.of hh, fun hz => q _ G1 H1 g1 x1 (itl_ok hd fun G H s e g => SqL.of (e.h p _ hh hf)) (by rw [← dpa_len hd]; exact hz)⟩⟩
      | bor xs =>
        cases e2
        obtain ⟨p, vs, rfl, hf, hh, hd⟩ := r1
        exact ⟨p, rfl, .inl ⟨vs, SqL.of hh, fun hz => q _ G1 H1 g1 x1 (itl_ok hd fun G H s e g => SqL.of (e.h p _ hh hf)) (by rw [← dpa_len hd]; exact hz)⟩⟩
      | val _ => cases e2
      | tok => cases e2
theorem iS_seq (hK : ∀ i, (Y i).K = K) (h : EX Y K RR e fa) : ISX Y K RR tg e (dItemsS fa) := by
  obtain ⟨t, h1, h2⟩ := e_frz h
  refine ⟨iSeq K t, fun i => by rw [← hK i]; exact pi_seq (h1 i), fun pp G0 H0 ρ s ds s' σ G H R e si g q => ?_⟩
  unfold dItemsS at e
  cases e1 : dFrz fa ρ s with
  | none => rw [e1] at e; cases e
  | some x =>
    obtain ⟨x, s1⟩ := x
    rw [e1] at e
    simp only [Option.bind_some] at e
    cases e2 : datItems x with
    | none => rw [e2] at e; cases e
    | some ds =>
      rw [e2] at e
      cases e
      refine h2 pp G0 H0 ρ s x _ σ G H _ e1 si g fun v G1 H1 g1 x1 r1 _ => ?_
      cases x with
      | dat d =>
        cases d with
        | list xs =>
          cases e2
          cases r1 with
          | lst hs ha => exact ⟨_, rfl, .inl ⟨_, sqL_mono g1.le hs, fun hz => q _ G1 H1 g1 x1 (itl_okS ha hs)⟩⟩
        | tuple xs =>
          cases e2
          cases r1 with
          | tup hs ha => exact ⟨_, rfl, .inr ⟨_, sqT_mono g1.le hs, fun hz => q _ G1 H1 g1 x1 (itt_okS ha hs)⟩⟩
        | _ => cases e2
      | _ => cases e2
/-! ranges -/
def rangeD (lo : Int) (n : Nat) : List PyData := (List.range n).map fun i => PyData.int (lo + (i : Nat))
def okRg (i : Int) : Bool := decide (i.natAbs ≤ 8388608)
def rgOf (rs : List Rv) : Option (List PyData) := match rs with
  | [.dat (.int j)] => if okRg j = true then some (rangeD 0 j.toNat) else none
  | [.dat (.int i), .dat (.int j)] => if (okRg i && okRg j) = true then some (rangeD i (j - i).toNat) else none
  | _ => none
def dRange (fr : AF τ) : IF τ := fun ρ s => (fr ρ s).bind fun x => (rgOf x.1).map fun ds => (ds, x.2)
theorem itr_okS {lo : Int} {n : Nat} {G1 : Hp} : ItOkS K Rs (Itr lo n) (rangeD lo n) G1 where
  go := fun G H s e g i hi => by
    unfold rangeD at hi
    rw [List.length_map, List.length_range] at hi
    exact hi
  yld := fun G H s e g i x H' y d hd => by
    obtain ⟨rfl, rfl⟩ := y
    unfold rangeD at hd
    rw [List.getElem?_map] at hd
    cases hr : (List.range n)[i]? with
    | none => rw [hr] at hd; cases hd
    | some j =>
      rw [hr] at hd
      cases hd
      have hi : i < n := by
        rcases Nat.lt_or_ge i n with h | h
        · exact h
        · rw [List.getElem?_eq_none (by rw [List.length_range]; exact h)] at hr
          cases hr
      rw [List.getElem?_range hi] at hr
      cases hr
      exact ⟨G, .refl, g, Dp.int _⟩
  stop := fun G H s e g i hi => by
    unfold rangeD at hi
    rw [List.length_map, List.length_range] at hi
    exact hi
theorem rangeD_len (lo : Int) (n : Nat) : (rangeD lo n).length = n := by
  unfold rangeD
  rw [List.length_map, List.length_range]
theorem okRg_iff {i : Int} (h : okRg i = true) : -(2 ^ 62) ≤ i ∧ i < 2 ^ 62 := by
  unfold okRg at h
  rw [decide_eq_true_eq] at h
  omega
theorem okRg_abs {i : Int} (h : okRg i = true) : i.natAbs ≤ 8388608 := by
  unfold okRg at h
  rw [decide_eq_true_eq] at h
  exact h
def RgSem (K : PySem.W.Frag) (Rs : Res τ) (wi : TI) (f : IF τ) : Prop :=
  ∀ G0 H0 ρ s ds s' σ G H (R : It → Hp → Prop), f ρ s = some (ds, s') → SI K Rs G0 H0 ρ σ G H → GH Rs s G H →
    (∀ J G' H', GH Rs s' G' H' → Ext Rs.foot G H G' H' → ItOkS K Rs J ds G' → ds.length ≤ sizeLine → R J H') → wi σ H R
theorem RgSem.toE {wi : TI} {f : IF τ} (h : RgSem K Rs wi f) : ISem K Rs wi f := fun G0 H0 ρ s ds s' σ G H R e si g q => h G0 H0 ρ s ds s' σ G H R e si g fun J G' H' a b c d => q J G' H' a b c.e d
theorem RgSem.toS {wi : TI} {f : IF τ} (h : RgSem K Rs wi f) : ISemS K Rs wi f := fun G0 H0 ρ s ds s' σ G H R e si g q => h G0 H0 ρ s ds s' σ G H R e si g fun J G' H' a b c d => q J G' H' a b c
theorem rg1 {t : TA} (h : ASem K Rs t fr) (hl : ∀ ρ s x, fr ρ s = some x → x.1.length = 1) : RgSem K Rs (iRng1 t) (dRange fr) := by
  intro G0 H0 ρ s ds s' σ G H R e si g q
  unfold dRange at e
  cases e1 : fr ρ s with
  | none => rw [e1] at e; cases e
  | some x =>
    obtain ⟨x, s1⟩ := x
    have hx := hl _ _ _ e1
    rw [e1] at e
    simp only [Option.bind_some] at e
    unfold rgOf at e
    split at e
    · split at e
      · rename_i hc
        cases e
        obtain ⟨h3, h4⟩ := okRg_iff hc
        have h2 := okRg_abs hc
        refine h G0 H0 ρ s _ _ σ G H _ e1 si g fun vs G1 H1 g1 x1 r1 => ?_
        obtain ⟨v, rfl, r⟩ := rrs1 r1
        cases r
        exact ⟨_, rfl, h3, h4, q _ G1 H1 g1 x1 itr_okS (by rw [rangeD_len, sizeLine_eq]; omega)⟩
      · cases e
    · cases hx
    · cases e
theorem rg2 {t : TA} (h : ASem K Rs t fr) (hl : ∀ ρ s x, fr ρ s = some x → x.1.length = 2) : RgSem K Rs (iRng2 t) (dRange fr) := by
  intro G0 H0 ρ s ds s' σ G H R e si g q
  unfold dRange at e
  cases e1 : fr ρ s with
  | none => rw [e1] at e; cases e
  | some x =>
    obtain ⟨x, s1⟩ := x
    have hx := hl _ _ _ e1
    rw [e1] at e
    simp only [Option.bind_some] at e
    unfold rgOf at e
    split at e
    · cases hx
    · split at e
      · rename_i hc
        cases e
        obtain ⟨h0, h1⟩ := and2 hc
        obtain ⟨h3, h4⟩ := okRg_iff h0
        obtain ⟨h5, h6⟩ := okRg_iff h1
        have h7 := okRg_abs h0
        have h8 := okRg_abs h1
        refine h G0 H0 ρ s _ _ σ G H _ e1 si g fun vs G1 H1 g1 x1 r1 => ?_
        obtain ⟨v, w, rfl, r, r'⟩ := rrs2 r1
        cases r
        cases r'
        exact ⟨_, _, rfl, ⟨h3, h4, h5, h6⟩, q _ G1 H1 g1 x1 itr_okS (by rw [rangeD_len, sizeLine_eq]; omega)⟩
      · cases e
    · cases e
theorem len_cons1 {n : Nat} (h : ∀ ρ s x, fr ρ s = some x → x.1.length = n) : ∀ ρ s x, dCons fa fr ρ s = some x → x.1.length = n + 1 := by
  intro ρ s x e
  unfold dCons at e
  cases e1 : fa ρ s with
  | none => rw [e1] at e; cases e
  | some y =>
    rw [e1] at e
    simp only [Option.bind_some] at e
    cases e2 : fr ρ y.2 with
    | none => rw [e2] at e; cases e
    | some z =>
      rw [e2] at e
      cases e
      show z.1.length + 1 = n + 1
      rw [h _ _ _ e2]
theorem len_nil : ∀ (ρ : Ev) (s : τ) x, dNil ρ s = some x → x.1.length = 0 := by
  intro ρ s x e
  cases e
  rfl
theorem i_range1 {p pos : Pos} (hg : ∀ i, Gl (Y i) "range") (hm : ∀ i, (Y i).mg "range" = none) (ha : AX Y K RR [a] fr) (hl : ∀ ρ s x, fr ρ s = some x → x.1.length = 1) (hs : ∀ i, starEach [a] (Y i).env = [(false, eval a (Y i).env)] := by intro _; rfl) :
    IX Y K RR tg (.Call (.Name "range" p) [a] [] pos) (dRange fr) := by
  obtain ⟨t, h1, h2⟩ := ha
  exact ⟨_, fun i => pi_range1 (hg i) (hm i) (h1 i) (hs i), fun pp => RgSem.toE (rg1 (h2 pp) hl)⟩
theorem iS_range1 {p pos : Pos} (hg : ∀ i, Gl (Y i) "range") (hm : ∀ i, (Y i).mg "range" = none) (ha : AX Y K RR [a] fr) (hl : ∀ ρ s x, fr ρ s = some x → x.1.length = 1) (hs : ∀ i, starEach [a] (Y i).env = [(false, eval a (Y i).env)] := by intro _; rfl) :
    ISX Y K RR tg (.Call (.Name "range" p) [a] [] pos) (dRange fr) := by
  obtain ⟨t, h1, h2⟩ := ha
  exact ⟨_, fun i => pi_range1 (hg i) (hm i) (h1 i) (hs i), fun pp => RgSem.toS (rg1 (h2 pp) hl)⟩
theorem i_range2 {p pos : Pos} (hg : ∀ i, Gl (Y i) "range") (hm : ∀ i, (Y i).mg "range" = none) (ha : AX Y K RR [a, b] fr) (hl : ∀ ρ s x, fr ρ s = some x → x.1.length = 2) (hs : ∀ i, starEach [a, b] (Y i).env = [(false, eval a (Y i).env), (false, eval b (Y i).env)] := by intro _; rfl) (hs2 : ∀ i, starEach [b] (Y i).env = [(false, eval b (Y i).env)] := by intro _; rfl) :
    IX Y K RR tg (.Call (.Name "range" p) [a, b] [] pos) (dRange fr) := by
  obtain ⟨t, h1, h2⟩ := ha
  exact ⟨_, fun i => pi_range2 (hg i) (hm i) (h1 i) (hs i) (hs2 i), fun pp => RgSem.toE (rg2 (h2 pp) hl)⟩
theorem iS_range2 {p pos : Pos} (hg : ∀ i, Gl (Y i) "range") (hm : ∀ i, (Y i).mg "range" = none) (ha : AX Y K RR [a, b] fr) (hl : ∀ ρ s x, fr ρ s = some x → x.1.length = 2) (hs : ∀ i, starEach [a, b] (Y i).env = [(false, eval a (Y i).env), (false, eval b (Y i).env)] := by intro _; rfl) (hs2 : ∀ i, starEach [b] (Y i).env = [(false, eval b (Y i).env)] := by intro _; rfl) :
    ISX Y K RR tg (.Call (.Name "range" p) [a, b] [] pos) (dRange fr) := by
  obtain ⟨t, h1, h2⟩ := ha
  exact ⟨_, fun i => pi_range2 (hg i) (hm i) (h1 i) (hs i) (hs2 i), fun pp => RgSem.toS (rg2 (h2 pp) hl)⟩
end

/-! ### targets -/
abbrev GF := Rv → Ev → Option Ev
/-- an own list that is stored is nobody's -/
def FreeOwn (ρ : Ev) (σ : L2.St) (H0 : Hp) (v : V) : Rv → Prop
  | .own _ => ∀ p, v = .ref p → H0 p = none ∧ ∀ (j : Nat) (es : List PyData), ρ[j]? = some (some (.own es)) → σ[j]? ≠ some (some (.ref p))
  | _ => True
def GSem {τ : Type} (K : PySem.W.Frag) (Rs : Res τ) (g : TG) (tgt : GF) (ts : List Nat) : Prop :=
  ∀ G0 H0 (s : τ) r ρ ρ' σ G H v (Q : L2.St → Hp → Prop), tgt r ρ = some ρ' → SI K Rs G0 H0 ρ σ G H → GH Rs s G H → Rr K Rs G H v r → FreeOwn ρ σ H0 v r →
    (∀ σ', SI K Rs G0 H0 ρ' σ' G H → (∀ vs, (∀ t ∈ ts, t ∈ vs) → wipe σ' vs = wipe σ vs) → Q σ' H) → g v σ H Q
def GX {ι π τ : Type} (Y : ι → Cx) (K : PySem.W.Frag) (Rs : π → Res τ) (e : Expr) (tgt : GF) (ts : List Nat) : Prop := ∃ g, (∀ i, PG (Y i) e g) ∧ ∀ pp, GSem K (Rs pp) g tgt ts
def isBor : Rv → Bool
  | .bor _ => true
  | _ => false
def setSlot (i : Nat) : GF := fun r ρ => if isBor r = true then none else if i < ρ.length then some (ρ.set i (some r)) else none
theorem wipe_set {σ : L2.St} {i : Nat} {x : Option V} : ∀ {vs : List Nat}, i ∈ vs → wipe (σ.set i x) vs = wipe σ vs
  | [], h => by cases h
  | v :: vs, h => by
    unfold wipe
    by_cases e : v = i
    · subst e
      by_cases m : v ∈ vs
      · rw [wipe_set m]
      · have comm : ∀ (ws : List Nat), v ∉ ws → wipe (σ.set v x) ws = (wipe σ ws).set v x := by
          intro ws
          induction ws with
          | nil => intro _; rfl
          | cons w ws ih =>
            intro hw
            unfold wipe
            rw [ih fun z => hw (List.mem_cons_of_mem _ z), List.set_comm]
            exact fun z => hw (by rw [z]; exact List.mem_cons_self)
        rw [comm vs m, List.set_set]
    · have m : i ∈ vs := by
        rcases List.mem_cons.mp h with z | z
        · exact absurd z.symm e
        · exact z
      rw [wipe_set m]
section
variable {ι π τ : Type} {Y : ι → Cx} {K : PySem.W.Frag} {RR : π → Res τ} {Rs : Res τ} {x : Str} {pos : Pos}
theorem SI.set {G0 H0 G H : Hp} {ρ : Ev} {σ : L2.St} {i : Nat} {v : V} {r : Rv} (h : SI K Rs G0 H0 ρ σ G H) (hi : i < ρ.length) (hr : Rr K Rs G H v r) (hf : FreeOwn ρ σ H0 v r) (hb : isBor r = false) : SI K Rs G0 H0 (ρ.set i (some r)) (σ.set i (some v)) G H := by
  have hs : i < σ.length := by rw [h.len]; exact hi
  refine ⟨h.base, by rw [List.length_set, List.length_set, h.len], fun j r' e => ?_, fun j k p ds es e1 e2 e3 e4 => ?_, fun j p ds e1 e2 => ?_, fun j ds e => ?_⟩
  rotate_right
  · by_cases hj : i = j
    · subst hj
      rw [List.getElem?_set_self hi] at e
      cases e
      cases hb
    · rw [List.getElem?_set_ne hj] at e
      exact h.nob j ds e
  · by_cases hj : i = j
    · subst hj
      rw [List.getElem?_set_self hi] at e
      cases e
      exact ⟨v, List.getElem?_set_self hs, hr⟩
    · rw [List.getElem?_set_ne hj] at e
      obtain ⟨v', e1, e2⟩ := h.slot j r' e
      exact ⟨v', by rw [List.getElem?_set_ne hj]; exact e1, e2⟩
  · by_cases hj : i = j
    · subst hj
      by_cases hk : i = k
      · exact hk
      · rw [List.getElem?_set_self hi] at e1
        cases e1
        rw [List.getElem?_set_self hs] at e3
        cases e3
        rw [List.getElem?_set_ne hk] at e2 e4
        exact absurd e4 ((hf p rfl).2 k es e2)
    · by_cases hk : i = k
      · subst hk
        rw [List.getElem?_set_self hi] at e2
        cases e2
        rw [List.getElem?_set_self hs] at e4
        cases e4
        rw [List.getElem?_set_ne hj] at e1 e3
        exact absurd e3 ((hf p rfl).2 j ds e1)
      · rw [List.getElem?_set_ne hj] at e1 e3
        rw [List.getElem?_set_ne hk] at e2 e4
        exact h.own j k p ds es e1 e2 e3 e4
  · by_cases hj : i = j
    · subst hj
      rw [List.getElem?_set_self hi] at e1
      cases e1
      rw [List.getElem?_set_self hs] at e2
      cases e2
      exact (hf p rfl).1
    · rw [List.getElem?_set_ne hj] at e1 e2
      exact h.new j p ds e1 e2
/-- an own list that is new since (G, H) is nobody's -/
theorem SI.freeOwn {G0 H0 G H : Hp} {ρ : Ev} {σ : L2.St} {v : V} {r : Rv} (h : SI K Rs G0 H0 ρ σ G H) (n : Frs H v r) : FreeOwn ρ σ H0 v r := by
  cases r with
  | own ds =>
    intro p hp
    have hn : H p = none := n p hp
    refine ⟨?_, fun j es e z => ?_⟩
    · cases e : H0 p with
      | none => rfl
      | some o => exact absurd hn (h.base.n p (by rw [e]; exact fun z => nomatch z))
    · obtain ⟨v', e1, e2⟩ := h.slot j _ e
      rw [z] at e1
      cases e1
      obtain ⟨p', vs, e3, _, _, hh, _⟩ := e2
      cases e3
      rw [hh] at hn
      cases hn
  | _ => trivial
theorem freeOwn_dat {ρ : Ev} {σ : L2.St} {H0 : Hp} {v : V} {d : PyData} : FreeOwn ρ σ H0 v (.dat d) := trivial
theorem g_name {i : Nat} (hN : ∀ j, (Y j).N.Nodup) (hi : ∀ j, (Y j).N[i]? = some x := by intro _; rfl) (hx : ∀ j, Loc (Y j).env.scope x := by intro _; first | exact Or.inl rfl | exact Or.inr rfl) (hf : ∀ j, (Y j).fn x = true ∨ (Y j).env.scope.names.lookup x = some .local := by intro _; first | exact .inl rfl | exact .inr rfl) :
    GX Y K RR (.Name x pos) (setSlot i) [i] := by
  refine ⟨_, fun j => pg_name (hN j) (hi j) (hx j) (hf j), fun pp G0 H0 s r ρ ρ' σ G H v Q e si g hr fo q => ?_⟩
  unfold setSlot at e
  split at e
  · cases e
  · rename_i hb
    split at e
    · rename_i hl
      cases e
      exact q _ (si.set hl hr fo (Bool.eq_false_iff.mpr hb)) fun vs hv => wipe_set (hv i (by simp))
    · cases e
/-- targets one after another -/
def GsSem {τ : Type} (K : PySem.W.Frag) (Rs : Res τ) (g : TGs) (tgt : List PyData → Ev → Option Ev) (ts : List Nat) : Prop :=
  ∀ G0 H0 (s : τ) ds ρ ρ' σ G H vs (Q : L2.St → Hp → Prop), tgt ds ρ = some ρ' → SI K Rs G0 H0 ρ σ G H → GH Rs s G H → DpAll K G vs ds →
    (∀ σ', SI K Rs G0 H0 ρ' σ' G H → (∀ vs, (∀ t ∈ ts, t ∈ vs) → wipe σ' vs = wipe σ vs) → Q σ' H) → g vs σ H Q
def GsX {ι π τ : Type} (Y : ι → Cx) (K : PySem.W.Frag) (Rs : π → Res τ) (es : List Expr) (tgt : List PyData → Ev → Option Ev) (ts : List Nat) : Prop := ∃ g, (∀ i, PGs (Y i) es g) ∧ ∀ pp, GsSem K (Rs pp) g tgt ts
def gNilD : List PyData → Ev → Option Ev
  | [], ρ => some ρ
  | _ :: _, _ => none
def gConsD (t : GF) (u : List PyData → Ev → Option Ev) : List PyData → Ev → Option Ev
  | d :: ds, ρ => (t (.dat d) ρ).bind fun ρ1 => u ds ρ1
  | [], _ => none
theorem gs_nil : GsX Y K RR [] gNilD [] := ⟨_, fun _ => pgs_nil, fun pp G0 H0 s ds ρ ρ' σ G H vs Q e si g h q => by
  cases ds with
  | nil =>
    cases e
    cases h
    exact ⟨rfl, q σ si fun _ _ => rfl⟩
  | cons d ds => cases e⟩
theorem gs_cons {e : Expr} {es : List Expr} {t : GF} {u : List PyData → Ev → Option Ev} {ts us : List Nat} (h : GX Y K RR e t ts) (h' : GsX Y K RR es u us)
    (hs : ∀ i, (assignEach (e :: es) (Y i).env).map (·.2) = assign e (Y i).env :: (assignEach es (Y i).env).map (·.2) := by intro _; rfl) : GsX Y K RR (e :: es) (gConsD t u) (ts ++ us) := by
  obtain ⟨g1, a1, a2⟩ := h
  obtain ⟨g2, b1, b2⟩ := h'
  refine ⟨_, fun i => pgs_cons (a1 i) (b1 i) (hs i), fun pp G0 H0 s ds ρ ρ' σ G H vs Q e si g h q => ?_⟩
  cases ds with
  | nil => cases e
  | cons d ds =>
    cases h with
    | cons h1 h2 =>
      have e : (t (.dat d) ρ).bind (fun ρ1 => u ds ρ1) = some ρ' := e
      cases e1 : t (.dat d) ρ with
      | none => rw [e1] at e; cases e
      | some ρ1 =>
        rw [e1] at e
        simp only [Option.bind_some] at e
        refine ⟨_, _, rfl, a2 pp G0 H0 s _ ρ ρ1 σ G H _ _ e1 si g h1 trivial fun σ1 si1 w1 => ?_⟩
        refine b2 pp G0 H0 s ds ρ1 ρ' σ1 G H _ Q e si1 g h2 fun σ2 si2 w2 => ?_
        exact q σ2 si2 fun vs hv => (w2 vs fun t ht => hv t (List.mem_append_right _ ht)).trans (w1 vs fun t ht => hv t (List.mem_append_left _ ht))
def setTup (n : Nat) (u : List PyData → Ev → Option Ev) : GF := fun r ρ => match r with
  | .dat (.tuple ds) => if ds.length = n then u ds ρ else none
  | _ => none
theorem g_tup {es : List Expr} {k n : Nat} {u : List PyData → Ev → Option Ev} {ts : List Nat} (hK : ∀ i, (Y i).K = K) (hc : ∀ i, (Y i).calm = true) (h : GsX Y K RR es u ts)
    (hn : ∀ i, (assignEach es (Y i).env).length = n := by intro _; rfl) (hst : ∀ i, (assignEach es (Y i).env).findIdx? (·.1) = none := by intro _; rfl) : GX Y K RR (.Tuple es k pos) (setTup n u) ts := by
  obtain ⟨g, a1, a2⟩ := h
  refine ⟨gTup K n g, fun i => by rw [← hK i]; exact pg_tup (hc i) (a1 i) (hn i) (hst i), fun pp G0 H0 s r ρ ρ' σ G H v Q e si g hr fo q => ?_⟩
  unfold setTup at e
  split at e
  · split at e
    · rename_i hl
      cases hr with
      | tup hs ha => exact ⟨_, _, rfl, sqT_mono g.le hs, by rw [dpa_len ha]; exact hl, a2 pp G0 H0 s _ ρ ρ' σ G H _ Q e si g ha q⟩
    · cases e
  · cases e
end

/-! ### comprehensions -/
def wipeD (ρ : Ev) : List Nat → Ev
  | [] => ρ
  | v :: vs => (wipeD ρ vs).set v none
section
variable {ι π τ : Type} {Y : ι → Cx} {K : PySem.W.Frag} {RR : π → Res τ} {Rs : Res τ}
theorem SI.clr {G0 H0 G H : Hp} {ρ : Ev} {σ : L2.St} (i : Nat) (h : SI K Rs G0 H0 ρ σ G H) : SI K Rs G0 H0 (ρ.set i none) (σ.set i none) G H := by
  have back : ∀ (j : Nat) (r : Rv), (ρ.set i none)[j]? = some (some r) → ρ[j]? = some (some r) ∧ i ≠ j := fun j r e => by
    by_cases hj : i = j
    · subst hj
      by_cases hl : i < ρ.length
      · rw [List.getElem?_set_self hl] at e; cases e
      · rw [List.getElem?_eq_none (by rw [List.length_set]; exact Nat.le_of_not_lt hl)] at e; cases e
    · rw [List.getElem?_set_ne hj] at e
      exact ⟨e, hj⟩
  refine ⟨h.base, by rw [List.length_set, List.length_set, h.len], fun j r e => ?_, fun j k p ds es e1 e2 e3 e4 => ?_, fun j p ds e1 e2 => ?_, fun j ds e => h.nob j ds (back j _ e).1⟩
  · obtain ⟨e, hj⟩ := back j r e
    obtain ⟨v, e1, e2⟩ := h.slot j r e
    exact ⟨v, by rw [List.getElem?_set_ne hj]; exact e1, e2⟩
  · obtain ⟨e1, hj⟩ := back j _ e1
    obtain ⟨e2, hk⟩ := back k _ e2
    rw [List.getElem?_set_ne hj] at e3
    rw [List.getElem?_set_ne hk] at e4
    exact h.own j k p ds es e1 e2 e3 e4
  · obtain ⟨e1, hj⟩ := back j _ e1
    rw [List.getElem?_set_ne hj] at e2
    exact h.new j p ds e1 e2
theorem SI.wipe {G0 H0 G H : Hp} {ρ : Ev} {σ : L2.St} (h : SI K Rs G0 H0 ρ σ G H) : ∀ vs : List Nat, SI K Rs G0 H0 (wipeD ρ vs) (L2.wipe σ vs) G H
  | [] => h
  | v :: vs => (h.wipe vs).clr v
/-- what a comprehension makes of its items -/
def lcGo (step : PyData → τ → Option (List PyData × τ)) : List PyData → τ → Option (List PyData × τ)
  | [], s => some ([], s)
  | d :: ds, s => (step d s).bind fun r => (lcGo step ds r.2).map fun t => (r.1 ++ t.1, t.2)
def lcStep (tgt : GF) (test : BF τ) (elt : EF τ) (ρ : Ev) : PyData → τ → Option (List PyData × τ) := fun d s =>
  (tgt (.dat d) ρ).bind fun ρ1 => (test ρ1 s).bind fun b => if b.1 = true then (elt ρ1 b.2).bind fun y => match y.1 with
    | .dat e => some ([e], y.2)
    | _ => none
  else some ([], b.2)
def dLc (vs : List Nat) (it : IF τ) (tgt : GF) (test : BF τ) (elt : EF τ) : EF τ := fun ρ s => (it ρ s).bind fun x => (lcGo (lcStep tgt test elt (wipeD ρ vs)) x.1 x.2).map fun r => (.own r.1, r.2)
def dYes : BF τ := fun _ s => some (true, s)
/-- a clause's tests -/
def TsX {ι π τ : Type} (Y : ι → Cx) (K : PySem.W.Frag) (Rs : π → Res τ) (es : List Expr) (f : BF τ) : Prop := ∃ t, (∀ i, PTs (Y i) es t) ∧ ∀ pp, TSem K (Rs pp) t f
theorem ts_nil : TsX Y K RR [] (dYes (τ := τ)) := ⟨_, fun _ => pts_nil, fun pp G0 H0 ρ s b s' σ G H Q e si g q => by
  cases e
  exact q G H g .refl⟩
theorem ts_one {c : Expr} {bf : BF τ} (h : TX Y K RR c bf) : TsX Y K RR [c] bf := by
  obtain ⟨t, h1, h2⟩ := h
  exact ⟨_, fun i => pts_one (h1 i), h2⟩
theorem lc_sem {wi : TI} {g : TG} {tt : TT} {te : TE} {vs ts : List Nat} {it : IF τ} {tgt : GF} {test : BF τ} {elt : EF τ} (hi : ISem K Rs wi it) (hg : GSem K Rs g tgt ts) (hs : ∀ t ∈ ts, t ∈ vs) (ht : TSem K Rs tt test) (he : ESem K Rs te elt) : ESem K Rs (tLc wi g tt te vs) (dLc vs it tgt test elt) := by
  intro G0 H0 ρ s r s' σ G H Q e si g0 q
  unfold dLc at e
  cases e1 : it ρ s with
  | none => rw [e1] at e; cases e
  | some x =>
    obtain ⟨ds, s1⟩ := x
    rw [e1] at e
    simp only [Option.bind_some] at e
    cases e2 : lcGo (lcStep tgt test elt (wipeD ρ vs)) ds s1 with
    | none => rw [e2] at e; cases e
    | some out =>
      obtain ⟨out, s2⟩ := out
      rw [e2] at e
      cases e
      refine hi G0 H0 ρ s ds s1 σ G H _ e1 si g0 fun J G1 H1 g1 x1 jo hz => ?_
      intro D hD
      have si1 := (si.ext x1).wipe vs
      refine ⟨fun i m Hc => ∃ Gc acc dacc sc rest, Ext Rs.foot G1 H1 Gc Hc ∧ GH Rs sc Gc Hc ∧ Hc D = some (.lst acc) ∧ Gc D = none ∧ DpAll K Gc acc dacc ∧ acc.length ≤ i ∧ i + m = ds.length ∧
        lcGo (lcStep tgt test elt (wipeD ρ vs)) (ds.drop i) sc = some (rest, s2) ∧ out = dacc ++ rest, ⟨ds.length, G1, [], [], s1, out, .new hD, g1.new hD, upd_same, g1.nog hD, .nil, Nat.le_refl _, by omega, e2, rfl⟩, ?_⟩
      rintro i m Hc ⟨Gc, acc, dacc, sc, rest, xc, gc, hacc, hGD, ha, hl, him, hgo, hout⟩
      by_cases hlt : i < ds.length
      · have hd : ds[i]? = some ds[i] := List.getElem?_eq_getElem hlt
        rw [List.drop_eq_getElem_cons hlt] at hgo
        unfold lcGo at hgo
        refine .inr ⟨jo.go Gc Hc sc xc gc i hlt, _, fun H' h' => h', fun x Hx y => ?_⟩
        obtain ⟨G3, x3, g3, dx⟩ := jo.yld Gc Hc sc xc gc i x Hx y _ hd
        cases e3 : lcStep tgt test elt (wipeD ρ vs) ds[i] sc with
        | none => rw [e3] at hgo; cases hgo
        | some st =>
          obtain ⟨add, s3⟩ := st
          rw [e3] at hgo
          simp only [Option.bind_some] at hgo
          cases e4 : lcGo (lcStep tgt test elt (wipeD ρ vs)) (ds.drop (i + 1)) s3 with
          | none => rw [e4] at hgo; cases hgo
          | some tl =>
            obtain ⟨tl, s4⟩ := tl
            rw [e4] at hgo
            cases hgo
            unfold lcStep at e3
            cases e5 : tgt (.dat ds[i]) (wipeD ρ vs) with
            | none => rw [e5] at e3; cases e3
            | some ρ1 =>
              rw [e5] at e3
              simp only [Option.bind_some] at e3
              have nf : ¬ Rs.foot D := g1.nofoot hD
              have hD3 : Hx D = some (.lst acc) := x3.h D _ hacc nf
              have gD3 : G3 D = none := x3.f D (by rw [hacc]; exact fun z => nomatch z) hGD
              refine hg G0 H0 sc _ (wipeD ρ vs) ρ1 _ G3 Hx x _ e5 (si1.ext (xc.trans x3)) g3 dx trivial fun σ2 si2 w2 => ?_
              refine ⟨(w2 vs hs).trans ?_, ?_⟩
              · -- wiping twice
                have : ∀ (vs' : List Nat), (∀ t ∈ vs', t ∈ vs) → L2.wipe (L2.wipe σ vs) vs' = L2.wipe σ vs := by
                  intro vs'
                  induction vs' with
                  | nil => intro _; rfl
                  | cons v vs' ih =>
                    intro hm
                    show (L2.wipe (L2.wipe σ vs) vs').set v none = _
                    rw [ih fun t ht => hm t (List.mem_cons_of_mem _ ht)]
                    apply List.ext_getElem?
                    intro j
                    by_cases hj : v = j
                    · subst hj
                      by_cases hl : v < (L2.wipe σ vs).length
                      · rw [List.getElem?_set_self hl]
                        cases q1 : (L2.wipe σ vs)[v]? with
                        | none => rw [List.getElem?_eq_none_iff] at q1; omega
                        | some z =>
                          cases z with
                          | none => rfl
                          | some z => exact absurd (hm v List.mem_cons_self) (wipe_some q1).2
                      · rw [List.getElem?_eq_none (by rw [List.length_set]; omega), List.getElem?_eq_none (by omega)]
                    · rw [List.getElem?_set_ne hj]
                exact this vs fun t ht => ht
              · cases e6 : test ρ1 sc with
                | none => rw [e6] at e3; cases e3
                | some bb =>
                  obtain ⟨bb, s5⟩ := bb
                  rw [e6] at e3
                  simp only [Option.bind_some] at e3
                  refine ht G0 H0 ρ1 sc bb s5 σ2 G3 Hx _ e6 si2 g3 fun G5 H5 g5 x5 => ?_
                  have hD5 : H5 D = some (.lst acc) := x5.h D _ hD3 nf
                  have gD5 : G5 D = none := x5.f D (by rw [hD3]; exact fun z => nomatch z) gD3
                  cases bb with
                  | false =>
                    rw [if_neg Bool.false_ne_true] at e3 ⊢
                    cases e3
                    exact ⟨m - 1, by omega, G5, acc, dacc, _, tl, (xc.trans x3).trans x5, g5, hD5, gD5, dpa_mono (x3.trans x5).g _ _ ha, by omega, by omega, e4, hout⟩
                  | true =>
                    rw [if_pos rfl] at e3 ⊢
                    cases e7 : elt ρ1 s5 with
                    | none => rw [e7] at e3; cases e3
                    | some y =>
                      obtain ⟨y, s6⟩ := y
                      rw [e7] at e3
                      simp only [Option.bind_some] at e3
                      split at e3
                      · cases e3
                        refine he G0 H0 ρ1 s5 _ _ σ2 G5 H5 _ e7 (si2.ext x5) g5 fun v G7 H7 g7 x7 r7 _ => ?_
                        have hD7 : H7 D = some (.lst acc) := x7.h D _ hD5 nf
                        have gD7 : G7 D = none := x7.f D (by rw [hD5]; exact fun z => nomatch z) gD5
                        refine ⟨acc, hD7, by omega, m - 1, by omega, G7, acc ++ [v], dacc ++ [_], _, tl, (((xc.trans x3).trans x5).trans x7).put hD, g7.put gD7 nf, upd_same, gD7, dpa_snoc (dpa_mono ((x3.trans x5).trans x7).g _ _ ha) r7, by rw [List.length_append]; exact Nat.succ_le_succ hl, by omega, e4, ?_⟩
                        rw [hout]
                        simp
                      · cases e3
      · have hi : i = ds.length := by omega
        subst hi
        rw [List.drop_length] at hgo
        cases hgo
        rw [List.append_nil] at hout
        subst hout
        refine .inl ⟨jo.stop Gc Hc _ xc gc _ (Nat.le_refl _), ?_⟩
        refine q _ Gc Hc gc (x1.trans xc) ⟨D, acc, rfl, g1.nofoot hD, hGD, hacc, ha⟩ fun p hp => ?_
        cases hp
        cases hh : H D with
        | none => rfl
        | some o => exact absurd hD (x1.n D (by rw [hh]; exact fun z => nomatch z))
abbrev BlkIx (ι : Type) := ι × Shared × Hp × Addr × List (Str × Addr) × List Addr
def blkY (Y : ι → Cx) (scope : Scope) : BlkIx ι → Cx := fun j => (Y j.1).blk j.2.1 j.2.2.1 scope (compEnvC scope j.2.2.2.2.1 j.2.2.2.1 (Y j.1).env) j.2.2.2.2.2
theorem e_lc {elt tg iter : Expr} {ifs : List Expr} {scope : Scope} {own : List (Str × Nat)} {pos : Pos} {it : IF τ} {tgt : GF} {ts : List Nat} {test : BF τ} {fe : EF τ} (hc : ∀ i, (Y i).calm = true) (hN : ∀ i, (Y i).N.Nodup) (hi : IX Y K RR tg iter it) (ok : ∀ i, BlkOk (Y i).N (Y i).env.scope scope own)
    (hg : GX (blkY Y scope) K RR tg tgt ts) (ht : TsX (blkY Y scope) K RR ifs test) (he : EX (blkY Y scope) K RR elt fe) (hts : ∀ t ∈ ts, t ∈ own.map (·.2)) (hs : ∀ i, ∀ x, foldedSetIterable iter (Y i).env x = pure x := by intro _ _; rfl) :
    EX Y K RR (.ListComp elt [⟨tg, iter, ifs, 0⟩] scope pos) (dLc (own.map (·.2)) it tgt test (dFrz fe)) := by
  obtain ⟨wi, a1, a2⟩ := hi
  obtain ⟨g, b1, b2⟩ := hg
  obtain ⟨tt, c1, c2⟩ := ht
  obtain ⟨te, d1, d2⟩ := e_frz he
  exact ⟨_, fun i => pe_lc (hc i) (hN i) (a1 i) (ok i) (fun s H C cl fp => b1 (i, s, H, C, cl, fp)) (fun s H C cl fp => c1 (i, s, H, C, cl, fp)) (fun s H C cl fp => d1 (i, s, H, C, cl, fp)) (hs i),
    fun pp => lc_sem (a2 pp) (b2 pp) hts (c2 pp) (d2 pp)⟩
end
end DL

set_option Elab.async false
set_option linter.all false
set_option maxRecDepth 100000
set_option maxHeartbeats 4000000
set_option autoImplicit false
/-! DL, part E: statements, defs. -/
namespace DL
open PySem PySem.Spec PyProof.Rows L2

/-- how a statement ends -/
inductive Ot where
  | nx (ρ : Ev)
  | rt (r : Rv)
  | bk (ρ : Ev)
  | ct (ρ : Ev)
abbrev SF (τ : Type) := Ev → τ → Option (Ot × τ)
abbrev LeG (G G' : Hp) : Prop := ∀ a o, G a = some o → G' a = some o
theorem leG_tr {G G1 G2 : Hp} (a : LeG G G1) (b : LeG G1 G2) : LeG G G2 := fun x o h => b x o (a x o h)
theorem leG_refl {G : Hp} : LeG G G := fun _ _ h => h
def OtOk {τ : Type} (K : PySem.W.Frag) (Rs : Res τ) (G0 H0 Gs : Hp) (D : Ends) (s' : τ) : Ot → Prop
  | .nx ρ => ∀ σ G H, SI K Rs G0 H0 ρ σ G H → GH Rs s' G H → LeG Gs G → D.nx σ H
  | .bk ρ => ∀ σ G H, SI K Rs G0 H0 ρ σ G H → GH Rs s' G H → LeG Gs G → D.bk σ H
  | .ct ρ => ∀ σ G H, SI K Rs G0 H0 ρ σ G H → GH Rs s' G H → LeG Gs G → D.ct σ H
  | .rt r => ∀ v G H, GH Rs s' G H → Ext Rs.foot G0 H0 G H → Rr K Rs G H v r → D.rt v H
def SSem {τ : Type} (K : PySem.W.Frag) (Rs : Res τ) (t : TS) (g : SF τ) : Prop :=
  ∀ G0 H0 ρ s o s' σ G H (D : Ends), g ρ s = some (o, s') → SI K Rs G0 H0 ρ σ G H → GH Rs s G H → OtOk K Rs G0 H0 G D s' o → t D σ H
def SX {ι π τ : Type} (Y : ι → Cx) (K : PySem.W.Frag) (Rs : π → Res τ) (st : Stmt) (g : SF τ) : Prop := ∃ t, (∀ i, PS (Y i) st t) ∧ ∀ pp, SSem K (Rs pp) t g
def BX {ι π τ : Type} (Y : ι → Cx) (K : PySem.W.Frag) (Rs : π → Res τ) (st : List Stmt) (g : SF τ) : Prop := ∃ t, (∀ i, PSs (Y i) st t) ∧ ∀ pp, SSem K (Rs pp) t g

section
variable {τ : Type}
def dSkip : SF τ := fun ρ s => some (.nx ρ, s)
def dSeq (g h : SF τ) : SF τ := fun ρ s => (g ρ s).bind fun x => match x.1 with
  | .nx ρ1 => h ρ1 x.2
  | o => some (o, x.2)
def dSet (i : Nat) (f : EF τ) : SF τ := fun ρ s => (f ρ s).bind fun x => (setSlot i x.1 ρ).map fun ρ1 => (.nx ρ1, x.2)
def dAsg (f : EF τ) (tgt : GF) : SF τ := fun ρ s => (f ρ s).bind fun x => (tgt x.1 ρ).map fun ρ1 => (.nx ρ1, x.2)
def dDrop (f : EF τ) : SF τ := fun ρ s => (f ρ s).map fun x => (.nx ρ, x.2)
def dRet (f : EF τ) : SF τ := fun ρ s => (dFrz f ρ s).map fun x => (.rt x.1, x.2)
def dRetN : SF τ := fun _ s => some (.rt (.dat .none), s)
def dIfS (c : BF τ) (g h : SF τ) : SF τ := fun ρ s => (c ρ s).bind fun x => if x.1 = true then g ρ x.2 else h ρ x.2
def dBrk : SF τ := fun ρ s => some (.bk ρ, s)
def dCnt : SF τ := fun ρ s => some (.ct ρ, s)
def dPar (i j : Nat) (f : AF τ) : SF τ := fun ρ s => (f ρ s).bind fun x => match x.1 with
  | [.dat a, .dat b] => (setSlot i (.dat a) ρ).bind fun ρ1 => (setSlot j (.dat b) ρ1).map fun ρ2 => (.nx ρ2, x.2)
  | _ => none
def dAug (i : Nat) (op : Rv → Rv → Option Rv) (f : EF τ) : SF τ := fun ρ s => match ρ[i]? with
  | some (some (.dat a)) => (f ρ s).bind fun x => (op (.dat a) x.1).bind fun r => match r with
    | .dat d => (setSlot i (.dat d) ρ).map fun ρ1 => (.nx ρ1, x.2)
    | _ => none
  | _ => none
/-- the list in slot i is made data -/
def frzSlot (i : Nat) (ρ : Ev) : Ev := match ρ[i]? with
  | some (some (.own ds)) => ρ.set i (some (.dat (.list ds)))
  | _ => ρ
def dFrzS (i : Nat) (g : SF τ) : SF τ := fun ρ s => g (frzSlot i ρ) s
def dAppend (i : Nat) (f : EF τ) : SF τ := fun ρ s => (dFrz f ρ s).bind fun x => match ρ[i]?, x.1 with
  | some (some (.own ds)), .dat d => if ds.length < 16777216 then some (.nx (ρ.set i (some (.own (ds ++ [d])))), x.2) else none
  | _, _ => none
def dExtend (i : Nat) (f : EF τ) : SF τ := fun ρ s => (f ρ s).bind fun x => match ρ[i]?, listOf x.1 with
  | some (some (.own ds)), some es => if ds.length + es.length ≤ 16777216 then some (.nx (ρ.set i (some (.own (ds ++ es)))), x.2) else none
  | _, _ => none
def forGo (step : PyData → SF τ) : List PyData → SF τ
  | [], ρ, s => some (.nx ρ, s)
  | d :: ds, ρ, s => (step d ρ s).bind fun x => match x.1 with
    | .nx ρ1 => forGo step ds ρ1 x.2
    | .ct ρ1 => forGo step ds ρ1 x.2
    | .bk ρ1 => some (.nx ρ1, x.2)
    | .rt r => some (.rt r, x.2)
def forStep (tgt : GF) (body : SF τ) (d : PyData) : SF τ := fun ρ s => (tgt (.dat d) ρ).bind fun ρ1 => body ρ1 s
def dFor (it : IF τ) (tgt : GF) (body : SF τ) : SF τ := fun ρ s => (it ρ s).bind fun x => forGo (forStep tgt body) x.1 ρ x.2
def whileGo (c : BF τ) (body : SF τ) : Nat → SF τ
  | 0, _, _ => none
  | n + 1, ρ, s => (c ρ s).bind fun x => if x.1 = true then (body ρ x.2).bind fun y => match y.1 with
    | .nx ρ1 => whileGo c body n ρ1 y.2
    | .ct ρ1 => whileGo c body n ρ1 y.2
    | .bk ρ1 => some (.nx ρ1, y.2)
    | .rt r => some (.rt r, y.2)
  else some (.nx ρ, x.2)
def dWhile (n : Nat) (c : BF τ) (body : SF τ) : SF τ := whileGo c body n
/-- a def -/
def dFunc (np n : Nat) (g : SF τ) (rs : List Rv) (s : τ) : Option (Rv × τ) :=
  if rs.length = np then (g (rs.map some ++ List.replicate (n - rs.length) none) s).bind fun x => match x.1 with
    | .nx _ => some (.dat .none, x.2)
    | .rt r => if argOk r = true then some (r, x.2) else none
    | _ => none
  else none
end

section
variable {ι π τ : Type} {Y : ι → Cx} {K : PySem.W.Frag} {RR : π → Res τ} {Rs : Res τ} {x : Str} {pos : Pos} {st : Stmt} {rest : List Stmt} {g h : SF τ} {e c : Expr} {f : EF τ} {bf : BF τ}
theorem b_nil : BX Y K RR [] (dSkip (τ := τ)) := ⟨_, fun _ => pss_nil, fun pp G0 H0 ρ s o s' σ G H D e si g q => by
  cases e
  exact q σ G H si g leG_refl⟩
theorem otOk_le {G0 H0 G G1 : Hp} {D : Ends} {s' : τ} {o : Ot} (l : LeG G G1) (q : OtOk K Rs G0 H0 G D s' o) : OtOk K Rs G0 H0 G1 D s' o := by
  cases o with
  | nx ρ => exact fun σ G' H a b c => q σ G' H a b (leG_tr l c)
  | bk ρ => exact fun σ G' H a b c => q σ G' H a b (leG_tr l c)
  | ct ρ => exact fun σ G' H a b c => q σ G' H a b (leG_tr l c)
  | rt r => exact q
theorem b_cons (h1 : SX Y K RR st g) (h2 : BX Y K RR rest h) : BX Y K RR (st :: rest) (dSeq g h) := by
  obtain ⟨t, a1, a2⟩ := h1
  obtain ⟨u, b1, b2⟩ := h2
  refine ⟨_, fun i => pss_cons (a1 i) (b1 i), fun pp G0 H0 ρ s o s' σ G H D e si g0 q => ?_⟩
  unfold dSeq at e
  cases e1 : g ρ s with
  | none => rw [e1] at e; cases e
  | some x =>
    obtain ⟨o1, s1⟩ := x
    rw [e1] at e
    simp only [Option.bind_some] at e
    cases o1 with
    | nx ρ1 => exact a2 pp G0 H0 ρ s _ s1 σ G H _ e1 si g0 fun σ1 G1 H1 si1 g1 l1 => b2 pp G0 H0 ρ1 s1 o s' σ1 G1 H1 D e si1 g1 (otOk_le l1 q)
    | rt r => cases e; exact a2 pp G0 H0 ρ s _ _ σ G H _ e1 si g0 q
    | bk r => cases e; exact a2 pp G0 H0 ρ s _ _ σ G H _ e1 si g0 q
    | ct r => cases e; exact a2 pp G0 H0 ρ s _ _ σ G H _ e1 si g0 q
theorem b_one (h1 : SX Y K RR st g) : BX Y K RR [st] g := by
  obtain ⟨t, a1, a2⟩ := h1
  exact ⟨t, fun i => pss_one (a1 i), a2⟩
theorem s_pass : SX Y K RR (.Pass pos) (dSkip (τ := τ)) := ⟨_, fun _ => ps_pass, fun pp G0 H0 ρ s o s' σ G H D e si g q => by
  cases e
  exact q σ G H si g leG_refl⟩
theorem s_brk : SX Y K RR (.Break pos) (dBrk (τ := τ)) := ⟨_, fun _ => ps_break, fun pp G0 H0 ρ s o s' σ G H D e si g q => by
  cases e
  exact q σ G H si g leG_refl⟩
theorem s_cnt : SX Y K RR (.Continue pos) (dCnt (τ := τ)) := ⟨_, fun _ => ps_continue, fun pp G0 H0 ρ s o s' σ G H D e si g q => by
  cases e
  exact q σ G H si g leG_refl⟩
theorem s_set {i : Nat} {pos' : Pos} (hN : ∀ j, (Y j).N.Nodup) (he : EX Y K RR e f) (hi : ∀ j, (Y j).N[i]? = some x := by intro _; rfl) (hx : ∀ j, Loc (Y j).env.scope x := by intro _; first | exact Or.inl rfl | exact Or.inr rfl) (hs : ∀ j, swapsWith e (some (.Name x pos')) pos.line (Y j).env = pure false := by intro _; rfl)
    (hf : ∀ j, (Y j).fn x = true ∨ (Y j).env.scope.names.lookup x = some .local := by intro _; first | exact .inl rfl | exact .inr rfl) : SX Y K RR (.Assign [.Name x pos'] e pos) (dSet i f) := by
  obtain ⟨t, a1, a2⟩ := he
  refine ⟨_, fun j => ps_set (hN j) (hi j) (hx j) (a1 j) (hs j) (hf j), fun pp G0 H0 ρ s o s' σ G H D e si g0 q => ?_⟩
  unfold dSet at e
  cases e1 : f ρ s with
  | none => rw [e1] at e; cases e
  | some y =>
    obtain ⟨y, s1⟩ := y
    rw [e1] at e
    simp only [Option.bind_some] at e
    cases e2 : setSlot i y ρ with
    | none => rw [e2] at e; cases e
    | some ρ1 =>
      rw [e2] at e
      cases e
      refine a2 pp G0 H0 ρ s y _ σ G H _ e1 si g0 fun v G1 H1 g1 x1 r1 n1 => ?_
      unfold setSlot at e2
      split at e2
      · cases e2
      · rename_i hb
        split at e2
        · rename_i hl
          cases e2
          exact q _ G1 H1 ((si.ext x1).set hl r1 (si.freeOwn n1) (Bool.eq_false_iff.mpr hb)) g1 x1.g
        · cases e2
/-- name = [..] on one line -/
theorem s_setLc {i : Nat} {y : Str} {py : Pos} {elt tg iter : Expr} {ifs : List Expr} {scope : Scope} {own : List (Str × Nat)} {spos : Pos} {it : IF τ} {tgt : GF} {ts : List Nat} {test : BF τ} {fe : EF τ} (hc : ∀ i, (Y i).calm = true) (hN : ∀ i, (Y i).N.Nodup)
    (hi : IX Y K RR tg iter it) (ok : ∀ i, BlkOk (Y i).N (Y i).env.scope scope own)
    (hg : GX (blkY Y scope) K RR tg tgt ts) (ht : TsX (blkY Y scope) K RR ifs test) (he : EX (blkY Y scope) K RR elt fe) (hts : ∀ t ∈ ts, t ∈ own.map (·.2))
    (hy : ∀ j, (Y j).N[i]? = some y := by intro _; rfl) (hyl : ∀ j, (Y j).env.scope.names.lookup y = some .local := by intro _; rfl)
    (hsw : ∀ j, swapsWith (.ListComp elt [⟨tg, iter, ifs, 0⟩] scope pos) (some (.Name y py)) spos.line (Y j).env = pure true := by exact fun _ => sw_true rfl rfl rfl (by decide +kernel))
    (hs : ∀ i, ∀ x, foldedSetIterable iter (Y i).env x = pure x := by intro _ _; rfl) :
    SX Y K RR (.Assign [.Name y py] (.ListComp elt [⟨tg, iter, ifs, 0⟩] scope pos) spos) (dSet i (dLc (own.map (·.2)) it tgt test (dFrz fe))) := by
  obtain ⟨wi, a1, a2⟩ := hi
  obtain ⟨g, b1, b2⟩ := hg
  obtain ⟨tt, c1, c2⟩ := ht
  obtain ⟨te, d1, d2⟩ := e_frz he
  refine ⟨_, fun i => ps_setLc (hc i) (hN i) (hy i) (hyl i) (hsw i) (a1 i) (ok i) (fun s H C cl fp => b1 (i, s, H, C, cl, fp)) (fun s H C cl fp => c1 (i, s, H, C, cl, fp)) (fun s H C cl fp => d1 (i, s, H, C, cl, fp)) (hs i), fun pp G0 H0 ρ s o s' σ G H D e si g0 q => ?_⟩
  have sem : ESem K (RR pp) _ _ := lc_sem (a2 pp) (b2 pp) hts (c2 pp) (d2 pp)
  unfold dSet at e
  cases e1 : dLc (own.map (·.2)) it tgt test (dFrz fe) ρ s with
  | none => rw [e1] at e; cases e
  | some y =>
    obtain ⟨y, s1⟩ := y
    rw [e1] at e
    simp only [Option.bind_some] at e
    cases e2 : setSlot i y ρ with
    | none => rw [e2] at e; cases e
    | some ρ1 =>
      rw [e2] at e
      cases e
      refine sem G0 H0 ρ s y _ σ G H _ e1 si g0 fun v G1 H1 g1 x1 r1 n1 => ?_
      unfold setSlot at e2
      split at e2
      · cases e2
      · rename_i hb
        split at e2
        · rename_i hl
          cases e2
          exact q _ G1 H1 ((si.ext x1).set hl r1 (si.freeOwn n1) (Bool.eq_false_iff.mpr hb)) g1 x1.g
        · cases e2
theorem esem_frz {t : TE} (h2 : ESem K Rs t f) : ESem K Rs t (dFrz f) := by
  intro G0 H0 ρ s r s' σ G H Q e si g q
  unfold dFrz at e
  cases e1 : f ρ s with
  | none => rw [e1] at e; cases e
  | some x =>
    obtain ⟨x, s1⟩ := x
    rw [e1] at e
    simp only [Option.bind_some] at e
    cases e2 : frz x with
    | none => rw [e2] at e; cases e
    | some z =>
      rw [e2] at e
      cases e
      refine h2 G0 H0 ρ s x _ σ G H _ e1 si g fun v G1 H1 g1 x1 r1 n1 => ?_
      cases x with
      | own ds =>
        cases e2
        obtain ⟨p, vs, rfl, hf, hg, hh, hd⟩ := r1
        have hp : H p = none := n1 p rfl
        refine q _ (upd G1 p (.lst vs)) H1 (g1.frz hh hf hg) (x1.frz hp hg) (Dp.lst (SqL.of upd_same) (dpa_mono (fun a u h => ?_) ds _ hd)) trivial
        rw [upd_ne (ne_of_none h hg)]
        exact h
      | bor ds => cases e2
      | dat d => cases e2; exact q _ G1 H1 g1 x1 r1 trivial
      | val d => cases e2; exact q _ G1 H1 g1 x1 r1 trivial
      | tok => cases e2; exact q _ G1 H1 g1 x1 r1 trivial
/-- the same, the list made data -/
theorem s_setLcF {i : Nat} {y : Str} {py : Pos} {elt tg iter : Expr} {ifs : List Expr} {scope : Scope} {own : List (Str × Nat)} {spos : Pos} {it : IF τ} {tgt : GF} {ts : List Nat} {test : BF τ} {fe : EF τ} (hc : ∀ i, (Y i).calm = true) (hN : ∀ i, (Y i).N.Nodup)
    (hi : IX Y K RR tg iter it) (ok : ∀ i, BlkOk (Y i).N (Y i).env.scope scope own)
    (hg : GX (blkY Y scope) K RR tg tgt ts) (ht : TsX (blkY Y scope) K RR ifs test) (he : EX (blkY Y scope) K RR elt fe) (hts : ∀ t ∈ ts, t ∈ own.map (·.2))
    (hy : ∀ j, (Y j).N[i]? = some y := by intro _; rfl) (hyl : ∀ j, (Y j).env.scope.names.lookup y = some .local := by intro _; rfl)
    (hsw : ∀ j, swapsWith (.ListComp elt [⟨tg, iter, ifs, 0⟩] scope pos) (some (.Name y py)) spos.line (Y j).env = pure true := by exact fun _ => sw_true rfl rfl rfl (by decide +kernel))
    (hs : ∀ i, ∀ x, foldedSetIterable iter (Y i).env x = pure x := by intro _ _; rfl) :
    SX Y K RR (.Assign [.Name y py] (.ListComp elt [⟨tg, iter, ifs, 0⟩] scope pos) spos) (dSet i (dFrz (dLc (own.map (·.2)) it tgt test (dFrz fe)))) := by
  obtain ⟨wi, a1, a2⟩ := hi
  obtain ⟨g, b1, b2⟩ := hg
  obtain ⟨tt, c1, c2⟩ := ht
  obtain ⟨te, d1, d2⟩ := e_frz he
  refine ⟨_, fun i => ps_setLc (hc i) (hN i) (hy i) (hyl i) (hsw i) (a1 i) (ok i) (fun s H C cl fp => b1 (i, s, H, C, cl, fp)) (fun s H C cl fp => c1 (i, s, H, C, cl, fp)) (fun s H C cl fp => d1 (i, s, H, C, cl, fp)) (hs i), fun pp G0 H0 ρ s o s' σ G H D e si g0 q => ?_⟩
  have sem : ESem K (RR pp) _ _ := esem_frz (lc_sem (a2 pp) (b2 pp) hts (c2 pp) (d2 pp))
  unfold dSet at e
  cases e1 : dFrz (dLc (own.map (·.2)) it tgt test (dFrz fe)) ρ s with
  | none => rw [e1] at e; cases e
  | some y =>
    obtain ⟨y, s1⟩ := y
    rw [e1] at e
    simp only [Option.bind_some] at e
    cases e2 : setSlot i y ρ with
    | none => rw [e2] at e; cases e
    | some ρ1 =>
      rw [e2] at e
      cases e
      refine sem G0 H0 ρ s y _ σ G H _ e1 si g0 fun v G1 H1 g1 x1 r1 n1 => ?_
      unfold setSlot at e2
      split at e2
      · cases e2
      · rename_i hb
        split at e2
        · rename_i hl
          cases e2
          exact q _ G1 H1 ((si.ext x1).set hl r1 (si.freeOwn n1) (Bool.eq_false_iff.mpr hb)) g1 x1.g
        · cases e2
theorem s_asg {tg : Expr} {tgt : GF} {ts : List Nat} (he : EX Y K RR e f) (hg : GX Y K RR tg tgt ts) (hs : ∀ i, swapsWithSole [tg] e pos.line (Y i).env = pure false := by intro _; rfl) (hw : ∀ i, swappedStores [tg] e (Y i).env = pure none := by intro _; rfl)
    (h1 : ∀ i, (assignEach [tg] (Y i).env).map (·.2) = [assign tg (Y i).env] := by intro _; rfl) : SX Y K RR (.Assign [tg] e pos) (dAsg f tgt) := by
  obtain ⟨t, a1, a2⟩ := he
  obtain ⟨g, b1, b2⟩ := hg
  refine ⟨_, fun i => ps_asg (a1 i) (b1 i) (hs i) (hw i) (h1 i), fun pp G0 H0 ρ s o s' σ G H D e si g0 q => ?_⟩
  unfold dAsg at e
  cases e1 : f ρ s with
  | none => rw [e1] at e; cases e
  | some y =>
    obtain ⟨y, s1⟩ := y
    rw [e1] at e
    simp only [Option.bind_some] at e
    cases e2 : tgt y ρ with
    | none => rw [e2] at e; cases e
    | some ρ1 =>
      rw [e2] at e
      cases e
      refine a2 pp G0 H0 ρ s y _ σ G H _ e1 si g0 fun v G1 H1 g1 x1 r1 n1 => ?_
      exact b2 pp G0 H0 _ y ρ ρ1 σ G1 H1 v _ e2 (si.ext x1) g1 r1 (si.freeOwn n1) fun σ' si' _ => q σ' G1 H1 si' g1 x1.g
theorem s_drop (he : EX Y K RR e f) (hs : ∀ i, swapsWith e none pos.line (Y i).env = pure false := by intro _; rfl) : SX Y K RR (.Expr e pos) (dDrop f) := by
  obtain ⟨t, a1, a2⟩ := he
  refine ⟨_, fun i => ps_expr (a1 i) (hs i), fun pp G0 H0 ρ s o s' σ G H D e si g0 q => ?_⟩
  unfold dDrop at e
  cases e1 : f ρ s with
  | none => rw [e1] at e; cases e
  | some y =>
    obtain ⟨y, s1⟩ := y
    rw [e1] at e
    cases e
    exact a2 pp G0 H0 ρ s y _ σ G H _ e1 si g0 fun v G1 H1 g1 x1 r1 n1 => q σ G1 H1 (si.ext x1) g1 x1.g
theorem s_ret (he : EX Y K RR e f) : SX Y K RR (.Return (some e) pos) (dRet f) := by
  obtain ⟨t, a1, a2⟩ := e_frz he
  refine ⟨_, fun i => ps_ret (a1 i), fun pp G0 H0 ρ s o s' σ G H D e si g0 q => ?_⟩
  unfold dRet at e
  cases e1 : dFrz f ρ s with
  | none => rw [e1] at e; cases e
  | some y =>
    obtain ⟨y, s1⟩ := y
    rw [e1] at e
    cases e
    exact a2 pp G0 H0 ρ s y _ σ G H _ e1 si g0 fun v G1 H1 g1 x1 r1 n1 => q v G1 H1 g1 (si.base.trans x1) r1
theorem s_retN : SX Y K RR (.Return none pos) (dRetN (τ := τ)) := ⟨_, fun _ => ps_retN, fun pp G0 H0 ρ s o s' σ G H D e si g q => by
  cases e
  exact q _ G H g si.base Dp.non⟩
theorem s_if {a b : List Stmt} (hc : TX Y K RR c bf) (ha : BX Y K RR a g) (hb : BX Y K RR b h) : SX Y K RR (.If c a b pos) (dIfS bf g h) := by
  obtain ⟨t, a1, a2⟩ := hc
  obtain ⟨u, b1, b2⟩ := ha
  obtain ⟨v, c1, c2⟩ := hb
  refine ⟨_, fun i => ps_if (a1 i) (b1 i) (c1 i), fun pp G0 H0 ρ s o s' σ G H D e si g0 q => ?_⟩
  unfold dIfS at e
  cases e1 : bf ρ s with
  | none => rw [e1] at e; cases e
  | some y =>
    obtain ⟨y, s1⟩ := y
    rw [e1] at e
    simp only [Option.bind_some] at e
    refine a2 pp G0 H0 ρ s y s1 σ G H _ e1 si g0 fun G1 H1 g1 x1 => ?_
    cases y with
    | true =>
      rw [if_pos rfl] at e ⊢
      exact b2 pp G0 H0 ρ s1 o s' σ G1 H1 D e (si.ext x1) g1 (otOk_le x1.g q)
    | false =>
      rw [if_neg Bool.false_ne_true] at e ⊢
      exact c2 pp G0 H0 ρ s1 o s' σ G1 H1 D e (si.ext x1) g1 (otOk_le x1.g q)
theorem s_for {tg iter : Expr} {body : List Stmt} {it : IF τ} {tgt : GF} {ts : List Nat} (hp : ∀ i, PassesOwn (model (Y i).prog (Y i).w) (Y i).A (Y i).env (Y i).xe) (hc : ∀ i, (Y i).calm = true) (hi : ISX Y K RR tg iter it) (hg : GX Y K RR tg tgt ts) (hb : BX Y K RR body g)
    (hs : ∀ i, ∀ x, foldedSetIterable iter (Y i).env x = pure x := by intro _ _; rfl) : SX Y K RR (.For tg iter body [] pos) (dFor it tgt g) := by
  obtain ⟨wi, a1, a2⟩ := hi
  obtain ⟨gg, b1, b2⟩ := hg
  obtain ⟨tb, c1, c2⟩ := hb
  refine ⟨_, fun i => ps_for (hp i) (hc i) (a1 i) (b1 i) (c1 i) (hs i), fun pp G0 H0 ρ s o s' σ G H D e si g0 q => ?_⟩
  unfold dFor at e
  cases e1 : it ρ s with
  | none => rw [e1] at e; cases e
  | some y =>
    obtain ⟨ds, s1⟩ := y
    rw [e1] at e
    simp only [Option.bind_some] at e
    refine a2 pp G0 H0 ρ s ds s1 σ G H _ e1 si g0 fun J G1 H1 g1 x1 jo => ?_
    refine ⟨fun i m σc Hc => ∃ Gc ρc sc, SI K (RR pp) G0 H0 ρc σc Gc Hc ∧ GH (RR pp) sc Gc Hc ∧ LeG G1 Gc ∧ i + m = ds.length ∧ forGo (forStep tgt g) (ds.drop i) ρc sc = some (o, s'),
      ⟨ds.length, G1, ρ, s1, si.ext x1, g1, fun _ _ h => h, by omega, e⟩, ?_⟩
    rintro i m σc Hc ⟨Gc, ρc, sc, sic, gc, le, him, hgo⟩
    by_cases hlt : i < ds.length
    · have hd : ds[i]? = some ds[i] := List.getElem?_eq_getElem hlt
      rw [List.drop_eq_getElem_cons hlt] at hgo
      unfold forGo at hgo
      refine .inr ⟨jo.go Gc Hc sc le gc i hlt, fun σ' H' => ∃ m', m' < m ∧ ∃ Gc ρc sc, SI K (RR pp) G0 H0 ρc σ' Gc H' ∧ GH (RR pp) sc Gc H' ∧ LeG G1 Gc ∧ i + 1 + m' = ds.length ∧ forGo (forStep tgt g) (ds.drop (i + 1)) ρc sc = some (o, s'), fun σ' H' h' => h', fun x Hx y => ?_⟩
      obtain ⟨G3, x3, g3, dx⟩ := jo.yld Gc Hc sc le gc i x Hx y _ hd
      cases e3 : forStep tgt g ds[i] ρc sc with
      | none => rw [e3] at hgo; cases hgo
      | some r =>
        obtain ⟨o3, s3⟩ := r
        rw [e3] at hgo
        simp only [Option.bind_some] at hgo
        unfold forStep at e3
        cases e4 : tgt (.dat ds[i]) ρc with
        | none => rw [e4] at e3; cases e3
        | some ρ1 =>
          rw [e4] at e3
          simp only [Option.bind_some] at e3
          refine b2 pp G0 H0 sc _ ρc ρ1 σc G3 Hx x _ e4 (sic.ext x3) g3 dx trivial fun σ2 si2 _ => ?_
          have le3 : LeG G1 G3 := fun a o h => x3.g a o (le a o h)
          refine c2 pp G0 H0 ρ1 sc o3 s3 σ2 G3 Hx _ e3 si2 g3 ?_
          cases o3 with
          | nx ρ3 => exact fun σ4 G4 H4 si4 g4 l4 => ⟨m - 1, by omega, G4, ρ3, s3, si4, g4, leG_tr le3 l4, by omega, hgo⟩
          | ct ρ3 => exact fun σ4 G4 H4 si4 g4 l4 => ⟨m - 1, by omega, G4, ρ3, s3, si4, g4, leG_tr le3 l4, by omega, hgo⟩
          | bk ρ3 =>
            cases hgo
            exact fun σ4 G4 H4 si4 g4 l4 => q σ4 G4 H4 si4 g4 (leG_tr x1.g (leG_tr le3 l4))
          | rt r3 =>
            cases hgo
            exact fun v G4 H4 g4 x4 r4 => q v G4 H4 g4 x4 r4
    · have hi : i = ds.length := by omega
      subst hi
      rw [List.drop_length] at hgo
      cases hgo
      exact .inl ⟨jo.stop Gc Hc _ le gc _ (Nat.le_refl _), q σc Gc Hc sic gc (leG_tr x1.g le)⟩
/-- while -/
theorem s_while {body : List Stmt} (n : Nat) (hp : ∀ i, PassesOwn (model (Y i).prog (Y i).w) (Y i).A (Y i).env (Y i).xe) (hc : TX Y K RR c bf) (hb : BX Y K RR body g) : SX Y K RR (.While c body [] pos) (dWhile n bf g) := by
  obtain ⟨tc, a1, a2⟩ := hc
  obtain ⟨tb, c1, c2⟩ := hb
  refine ⟨_, fun i => ps_while (hp i) (a1 i) (c1 i), fun pp G0 H0 ρ s o s' σ G H D e si g0 q => ?_⟩
  refine ⟨fun m σc Hc => ∃ Gc ρc sc, SI K (RR pp) G0 H0 ρc σc Gc Hc ∧ GH (RR pp) sc Gc Hc ∧ LeG G Gc ∧ whileGo bf g m ρc sc = some (o, s'), ⟨n, G, ρ, s, si, g0, leG_refl, e⟩, ?_⟩
  rintro m σc Hc ⟨Gc, ρc, sc, sic, gc, le, hgo⟩
  cases m with
  | zero => cases hgo
  | succ m =>
    unfold whileGo at hgo
    cases e1 : bf ρc sc with
    | none => rw [e1] at hgo; cases hgo
    | some y =>
      obtain ⟨y, s1⟩ := y
      rw [e1] at hgo
      simp only [Option.bind_some] at hgo
      refine a2 pp G0 H0 ρc sc y s1 σc Gc Hc _ e1 sic gc fun G1 H1 g1 x1 => ?_
      cases y with
      | true =>
        rw [if_pos rfl] at hgo ⊢
        cases e2 : g ρc s1 with
        | none => rw [e2] at hgo; cases hgo
        | some r =>
          obtain ⟨o3, s3⟩ := r
          rw [e2] at hgo
          simp only [Option.bind_some] at hgo
          have le1 : LeG G G1 := leG_tr le x1.g
          refine ⟨fun σ' H' => ∃ m', m' < m + 1 ∧ ∃ Gc ρc sc, SI K (RR pp) G0 H0 ρc σ' Gc H' ∧ GH (RR pp) sc Gc H' ∧ LeG G Gc ∧ whileGo bf g m' ρc sc = some (o, s'), fun σ' H' h' => h', ?_⟩
          refine c2 pp G0 H0 ρc s1 o3 s3 σc G1 H1 _ e2 (sic.ext x1) g1 ?_
          cases o3 with
          | nx ρ3 => exact fun σ4 G4 H4 si4 g4 l4 => ⟨m, Nat.lt_succ_self m, G4, ρ3, s3, si4, g4, leG_tr le1 l4, hgo⟩
          | ct ρ3 => exact fun σ4 G4 H4 si4 g4 l4 => ⟨m, Nat.lt_succ_self m, G4, ρ3, s3, si4, g4, leG_tr le1 l4, hgo⟩
          | bk ρ3 =>
            cases hgo
            exact fun σ4 G4 H4 si4 g4 l4 => q σ4 G4 H4 si4 g4 (leG_tr le1 l4)
          | rt r3 =>
            cases hgo
            exact fun v G4 H4 g4 x4 r4 => q v G4 H4 g4 x4 r4
      | false =>
        rw [if_neg Bool.false_ne_true] at hgo ⊢
        cases hgo
        exact q σc G1 H1 (sic.ext x1) g1 (leG_tr le x1.g)
/-- a, b = x, y, plain names, plain data -/
theorem s_par {i j : Nat} {x y : Str} {a b : Expr} {fr : AF τ} {px py pt : Pos} {kt k2 pt2} (hc : ∀ l, (Y l).calm = true) (hN : ∀ l, (Y l).N.Nodup) (hij : i ≠ j) (ha : AX Y K RR [a, b] fr)
    (hi : ∀ l, (Y l).N[i]? = some x := by intro _; rfl) (hj : ∀ l, (Y l).N[j]? = some y := by intro _; rfl)
    (hx : ∀ l, (Y l).env.scope.names.lookup x = some .local := by intro _; rfl) (hy : ∀ l, (Y l).env.scope.names.lookup y = some .local := by intro _; rfl)
    (hw : ∀ l, swappedStores [.Tuple [.Name x px, .Name y py] kt pt] (.Tuple [a, b] k2 pt2) (Y l).env = pure (some [x, y]) := by intro _; rfl)
    (hs : ∀ l, swapsWithSole [.Tuple [.Name x px, .Name y py] kt pt] (.Tuple [a, b] k2 pt2) pos.line (Y l).env = pure false := by intro _; rfl) :
    SX Y K RR (.Assign [.Tuple [.Name x px, .Name y py] kt pt] (.Tuple [a, b] k2 pt2) pos) (dPar i j fr) := by
  obtain ⟨t, a1, a2⟩ := ha
  refine ⟨_, fun l => ps_par (hc l) (hN l) (hi l) (hj l) hij (hx l) (hy l) (a1 l) (hw l) (hs l), fun pp G0 H0 ρ s o s' σ G H D e si g0 q => ?_⟩
  unfold dPar at e
  cases e1 : fr ρ s with
  | none => rw [e1] at e; cases e
  | some y =>
    obtain ⟨y, s1⟩ := y
    rw [e1] at e
    simp only [Option.bind_some] at e
    split at e
    · rename_i a b
      cases e2 : setSlot i (.dat a) ρ with
      | none => rw [e2] at e; cases e
      | some ρ1 =>
        rw [e2] at e
        simp only [Option.bind_some] at e
        cases e3 : setSlot j (.dat b) ρ1 with
        | none => rw [e3] at e; cases e
        | some ρ2 =>
          rw [e3] at e
          cases e
          refine a2 pp G0 H0 ρ s _ _ σ G H _ e1 si g0 fun vs G1 H1 g1 x1 r1 => ?_
          obtain ⟨v, w, rfl, r, r'⟩ := rrs2 r1
          refine ⟨v, w, rfl, ?_⟩
          unfold setSlot at e2 e3
          rw [if_neg (by exact Bool.false_ne_true)] at e2 e3
          split at e2
          · cases e2
            split at e3
            · cases e3
              exact q _ G1 H1 (((si.ext x1).set (by assumption) r trivial rfl).set (by assumption) r' trivial rfl) g1 x1.g
            · cases e3
          · cases e2
    · cases e
/-- name op= e, plain data -/
theorem s_aug {i : Nat} {op : Operator} {oo : Rv → Rv → Option Rv} {r2 : R2} {pos' : Pos} (hN : ∀ j, (Y j).N.Nodup) (he : EX Y K RR e f) (ho : ∀ i, OpR (Y i) (inplaceOp op) r2) (hs : ∀ pp, OSem K (RR pp) r2 oo)
    (hi : ∀ j, (Y j).N[i]? = some x := by intro _; rfl) (hx : ∀ j, Loc (Y j).env.scope x := by intro _; first | exact Or.inl rfl | exact Or.inr rfl) (hf : ∀ j, (Y j).fn x = true ∨ (Y j).env.scope.names.lookup x = some .local := by intro _; first | exact .inl rfl | exact .inr rfl) :
    SX Y K RR (.AugAssign (.Name x pos') op e pos) (dAug i oo f) := by
  obtain ⟨t, a1, a2⟩ := he
  refine ⟨_, fun j => ps_aug (hN j) (hi j) (hx j) (a1 j) (fun pins s σ H x y v u Q I r1 r2 h => ho j pins s σ H x y v u Q I r1 r2 h) (hf j), fun pp G0 H0 ρ s o s' σ G H D e si g0 q => ?_⟩
  unfold dAug at e
  split at e
  · rename_i a ea
    cases e1 : f ρ s with
    | none => rw [e1] at e; cases e
    | some y =>
      obtain ⟨y, s1⟩ := y
      rw [e1] at e
      simp only [Option.bind_some] at e
      cases ez : oo (.dat a) y with
      | none => rw [ez] at e; cases e
      | some z =>
        rw [ez] at e
        simp only [Option.bind_some] at e
        split at e
        · rename_i d
          cases e2 : setSlot i (.dat d) ρ with
          | none => rw [e2] at e; cases e
          | some ρ1 =>
            rw [e2] at e
            cases e
            obtain ⟨v, ev, rv⟩ := si.slot i _ ea
            refine ⟨v, ev, a2 pp G0 H0 ρ s _ _ σ G H _ e1 si g0 fun w G1 H1 g1 x1 r1 _ => ?_⟩
            refine hs pp _ (.dat a) y (.dat d) v w G1 H1 _ ez g1 (rv.ext x1) r1 fun u G2 H2 g2 x2 r2 _ => ?_
            unfold setSlot at e2
            rw [if_neg (by exact Bool.false_ne_true)] at e2
            split at e2
            · cases e2
              exact q _ G2 H2 (((si.ext x1).ext x2).set (by assumption) r2 trivial rfl) g2 (leG_tr x1.g x2.g)
            · cases e2
        · cases e
  · cases e
theorem i_add : ∀ i, OpR (Y i) (inplaceOp .Add) (rI0 fun i j => .int (i + j)) := fun _ => iop_add
theorem i_addS : ∀ pp, OSem K (RR pp) (rI0 fun i j => .int (i + j)) (dInt2 fun a b => .int (a + b)) := fun pp s x y r v w G H Q e gh rx ry q => by
  unfold dInt2 at e
  split at e
  · cases e
    cases rx
    cases ry
    exact ⟨_, _, rfl, rfl, post_now q gh (Dp.int _) trivial⟩
  · cases e
theorem i_sub : ∀ i, OpR (Y i) (inplaceOp .Sub) (rI0 fun i j => .int (i - j)) := fun _ => iop_sub
theorem i_subS : ∀ pp, OSem K (RR pp) (rI0 fun i j => .int (i - j)) (dInt2 fun a b => .int (a - b)) := fun pp s x y r v w G H Q e gh rx ry q => by
  unfold dInt2 at e
  split at e
  · cases e
    cases rx
    cases ry
    exact ⟨_, _, rfl, rfl, post_now q gh (Dp.int _) trivial⟩
  · cases e
/-- the own list in slot i grows -/
theorem SI.grow {G0 H0 G H : Hp} {ρ : Ev} {σ : L2.St} {s : τ} {i : Nat} {p : Addr} {vs ws : List V} {ds es : List PyData} (h : SI K Rs G0 H0 ρ σ G H) (g : GH Rs s G H) (hi : ρ[i]? = some (some (.own ds))) (hs : σ[i]? = some (some (.ref p))) (hp : H p = some (.lst vs)) (hg : G p = none) (hf : ¬ Rs.foot p) (hd : DpAll K G (vs ++ ws) (ds ++ es)) :
    SI K Rs G0 H0 (ρ.set i (some (.own (ds ++ es)))) σ G (upd H p (.lst (vs ++ ws))) ∧ GH Rs s G (upd H p (.lst (vs ++ ws))) := by
  have hl : i < ρ.length := by
    rcases Nat.lt_or_ge i ρ.length with q | q
    · exact q
    · rw [List.getElem?_eq_none q] at hi
      cases hi
  have h0 : H0 p = none := h.new i p ds hi hs
  refine ⟨⟨h.base.put h0, by rw [List.length_set, h.len], fun j r e => ?_, fun j k q as bs e1 e2 e3 e4 => ?_, fun j q as e1 e2 => ?_, fun j as e => ?_⟩, g.put hg hf⟩
  rotate_right
  · by_cases hj : i = j
    · subst hj
      rw [List.getElem?_set_self hl] at e
      cases e
    · rw [List.getElem?_set_ne hj] at e
      exact h.nob j as e
  · by_cases hj : i = j
    · subst hj
      rw [List.getElem?_set_self hl] at e
      cases e
      exact ⟨_, hs, p, _, rfl, hf, hg, upd_same, hd⟩
    · rw [List.getElem?_set_ne hj] at e
      obtain ⟨v, e1, e2⟩ := h.slot j r e
      refine ⟨v, e1, ?_⟩
      cases r with
      | dat d => exact e2
      | own as =>
        obtain ⟨q, vs', rfl, b1, b2, b3, b4⟩ := e2
        have ne : q ≠ p := fun z => by
          subst z
          exact hj (h.own i j _ ds as hi e hs e1)
        exact ⟨q, vs', rfl, b1, b2, by rw [upd_ne ne]; exact b3, b4⟩
      | bor as =>
        exact absurd e (h.nob j as)
      | val x => exact e2
      | tok => exact e2
  · have back : ∀ (j : Nat) (as : List PyData), (ρ.set i (some (.own (ds ++ es))))[j]? = some (some (.own as)) → ∃ as', ρ[j]? = some (some (.own as')) := fun j as e => by
      by_cases hj : i = j
      · subst hj; exact ⟨ds, hi⟩
      · rw [List.getElem?_set_ne hj] at e; exact ⟨as, e⟩
    obtain ⟨_, b1⟩ := back j as e1
    obtain ⟨_, b2⟩ := back k bs e2
    exact h.own j k q _ _ b1 b2 e3 e4
  · by_cases hj : i = j
    · subst hj
      exact h.new i q ds hi e2
    · rw [List.getElem?_set_ne hj] at e1
      exact h.new j q as e1 e2
/-- found.append(e) -/
theorem s_append {i : Nat} {p1 apos cpos : Pos} (hK : ∀ j, (Y j).K = K) (he : EX Y K RR e f) (hi : ∀ j, (Y j).N[i]? = some x := by intro _; rfl) (hv : ∀ j, Vis (Y j).env.scope x := by intro _; first | exact Or.inl rfl | exact Or.inr (Or.inl rfl) | exact Or.inr (Or.inr rfl))
    (hd : (x == ("__debug__" : Str)) = false := by decide) (hcd : (x == ("__classdict__" : Str)) = false := by decide)
    (hbase : ∀ j, attributeBase (.Name x p1) "append" (Y j).env (eval (.Name x p1) (Y j).env) = eval (.Name x p1) (Y j).env := by intro _; rfl)
    (hfew : ∀ j, ((backTo cpos (starEach [e] (Y j).env)).all (fun x => !x.1) && (backToKw cpos (keywordEach [] (Y j).env)).all (fun x => x.1.isSome)
      && decide ([e].length + ([] : List Keyword).length + (if ([] : List Keyword).isEmpty then 0 else 1) < 30)) = true := by intro _; rfl)
    (hline : (apos.endLine == cpos.line) = true := by rfl) (hst : ∀ j, starEach [e] (Y j).env = (false, eval e (Y j).env) :: starEach [] (Y j).env := by intro _; rfl) (hplain : ∀ j, (backTo cpos (starEach [] (Y j).env)).any (·.1) = false := by intro _; rfl)
    (hsw : ∀ j, swapsWith (.Call (.Attribute (.Name x p1) "append" apos) [e] [] cpos) none pos.line (Y j).env = pure false := by intro _; rfl) :
    SX Y K RR (.Expr (.Call (.Attribute (.Name x p1) "append" apos) [e] [] cpos) pos) (dAppend i f) := by
  obtain ⟨t, a1, a2⟩ := e_frz he
  refine ⟨tDrop (tBM K "list" rAppend (tVar i) (tCons t tNil)), fun j => by
    rw [← hK j]
    exact ps_expr (pe_bm PySem.F.plainAttrs_list PySem.F.slot_list_append PySem.F.type_list_append mt_append (pe_var (hi j) (hv j) hd hcd) (pa_cons (a1 j) pa_nil (hst j)) (hbase j) (hfew j) hline (hst j) (hplain j)) (hsw j), fun pp G0 H0 ρ s o s' σ G H D e si g0 q => ?_⟩
  unfold dAppend at e
  cases e1 : dFrz f ρ s with
  | none => rw [e1] at e; cases e
  | some y =>
    obtain ⟨y, s1⟩ := y
    rw [e1] at e
    simp only [Option.bind_some] at e
    split at e
    · rename_i ds d ed
      split at e
      · rename_i hl
        cases e
        obtain ⟨v, ev, p, vs, rfl, hf, hg, hh, hd⟩ := si.slot i _ ed
        refine ⟨_, ev, .inl ⟨rfl, _, SqL.of hh⟩, a2 pp G0 H0 ρ s _ _ σ G H _ e1 si g0 fun w G1 H1 g1 x1 r1 _ => ?_⟩
        have hh1 : H1 p = some (.lst vs) := x1.h p _ hh hf
        have hg1 : G1 p = none := x1.f p (by rw [hh]; exact fun z => nomatch z) hg
        refine ⟨p, vs, w, rfl, rfl, hh1, by rw [dpa_len hd, sizeLine_eq]; omega, ?_⟩
        obtain ⟨s2, g2⟩ := (si.ext x1).grow (ws := [w]) (es := [d]) g1 ed ev hh1 hg1 hf (dpa_snoc (dpa_mono x1.g _ _ hd) r1)
        exact q σ G1 _ s2 g2 x1.g
      · cases e
    · cases e
/-- the list in slot i is made data ahead of a statement -/
theorem frz_sem {t : TS} {i : Nat} (h2 : SSem K Rs t g) : SSem K Rs t (dFrzS i g) := by
  intro G0 H0 ρ s o s' σ G H D e si g0 q
  unfold dFrzS frzSlot at e
  split at e
  · rename_i ds ed
    obtain ⟨v, ev, p, vs, rfl, hf, hg, hh, hd⟩ := si.slot i _ ed
    have hl : i < ρ.length := by
      rcases Nat.lt_or_ge i ρ.length with q | q
      · exact q
      · rw [List.getElem?_eq_none q] at ed
        cases ed
    have gle : LeG G (upd G p (.lst vs)) := fun a u h => by
      rw [upd_ne (ne_of_none h hg)]
      exact h
    refine h2 G0 H0 _ s o s' σ (upd G p (.lst vs)) H D e ⟨si.base.frz (si.new i p ds ed ev) hg, by rw [List.length_set]; exact si.len, fun j r e => ?_, fun j k q as bs e1 e2 e3 e4 => ?_, fun j q as e1 e2 => ?_, fun j as e => ?_⟩ (g0.frz hh hf hg) (otOk_le gle q)
    · by_cases hj : i = j
      · subst hj
        rw [List.getElem?_set_self hl] at e
        cases e
        exact ⟨_, ev, Dp.lst (SqL.of upd_same) (dpa_mono gle _ _ hd)⟩
      · rw [List.getElem?_set_ne hj] at e
        obtain ⟨v, e1, e2⟩ := si.slot j r e
        refine ⟨v, e1, ?_⟩
        cases r with
        | dat d => exact dp_mono gle _ _ e2
        | own as =>
          obtain ⟨q', vs', rfl, b1, b2, b3, b4⟩ := e2
          have ne : q' ≠ p := fun z => by
            subst z
            exact hj (si.own i j _ ds as ed e ev e1)
          exact ⟨q', vs', rfl, b1, by rw [upd_ne ne]; exact b2, b3, dpa_mono gle _ _ b4⟩
        | bor as => exact absurd e (si.nob j as)
        | val x => exact e2
        | tok => exact e2
    · have back : ∀ (j : Nat) (as : List PyData), (ρ.set i (some (.dat (.list ds))))[j]? = some (some (.own as)) → ρ[j]? = some (some (.own as)) := fun j as e => by
        by_cases hj : i = j
        · subst hj
          rw [List.getElem?_set_self hl] at e
          cases e
        · rw [List.getElem?_set_ne hj] at e; exact e
      exact si.own j k q _ _ (back j as e1) (back k bs e2) e3 e4
    · by_cases hj : i = j
      · subst hj
        rw [List.getElem?_set_self hl] at e1
        cases e1
      · rw [List.getElem?_set_ne hj] at e1
        exact si.new j q as e1 e2
    · by_cases hj : i = j
      · subst hj
        rw [List.getElem?_set_self hl] at e
        cases e
      · rw [List.getElem?_set_ne hj] at e
        exact si.nob j as e
  · exact h2 G0 H0 ρ s o s' σ G H D e si g0 q
theorem s_frz (i : Nat) (h : SX Y K RR st g) : SX Y K RR st (dFrzS i g) := by
  obtain ⟨t, a1, a2⟩ := h
  exact ⟨t, a1, fun pp => frz_sem (a2 pp)⟩
end

/-! ### defs -/
section
variable {π τ : Type} {P : Program} {w : World} {K : PySem.W.Frag} {mg : Str → Option Value} {base : Heap} {RR : π → Res τ}
theorem paired_get {G H : Hp} {Rs : Res τ} : ∀ {vs : List V} {rs : List Rv} {i : Nat} {r : Rv}, Rrs K Rs G H vs rs → rs[i]? = some r → ∃ v, vs[i]? = some v ∧ Rr K Rs G H v r
  | _, _, _, _, .nil, e => by simp at e
  | _, _, 0, _, .cons r _, e => by simp at e; subst e; exact ⟨_, rfl, r⟩
  | _, _, i + 1, _, .cons _ t, e => by
    obtain ⟨d, h1, h2⟩ := paired_get (i := i) t (by simpa using e)
    exact ⟨d, by simpa using h1, h2⟩
theorem start_get {n : Nat} {rs : List Rv} {i : Nat} {r : Rv} (e : (rs.map some ++ List.replicate (n - rs.length) none)[i]? = some (some r)) : rs[i]? = some r := by
  by_cases hi : i < rs.length
  · rw [List.getElem?_append_left (by simpa using hi), List.getElem?_map] at e
    cases q : rs[i]? with
    | none => rw [q] at e; cases e
    | some a => rw [q] at e; cases e; rfl
  · rw [List.getElem?_append_right (by simpa using hi), List.getElem?_replicate] at e
    split at e <;> cases e
theorem si_start {Rs : Res τ} {s : τ} {G H : Hp} {N : List Str} {vs : List V} {rs : List Rv} (g : GH Rs s G H) (h : Rrs K Rs G H vs rs) (ha : rs.all argOk = true) : SI K Rs G H (rs.map some ++ List.replicate (N.length - rs.length) none) (L2.start N vs) G H := by
  have hl := h.len
  have no : ∀ (i : Nat) (r : Rv), (rs.map some ++ List.replicate (N.length - rs.length) none)[i]? = some (some r) → argOk r = true := fun i r e => List.all_eq_true.mp ha r (List.mem_of_getElem? (start_get e))
  refine ⟨.refl, ?_, fun i r e => ?_, fun i j p ds es e1 => ?_, fun i p ds e1 => ?_, fun i ds e => ?_⟩
  · unfold L2.start
    rw [List.length_append, List.length_append, List.length_map, List.length_map, List.length_replicate, List.length_replicate, hl]
  · obtain ⟨v, h1, h2⟩ := paired_get h (start_get e)
    refine ⟨v, ?_, h2⟩
    unfold L2.start
    have hi : i < vs.length := by
      rcases Nat.lt_or_ge i vs.length with q | q
      · exact q
      · rw [List.getElem?_eq_none q] at h1
        cases h1
    rw [List.getElem?_append_left (by simpa using hi), List.getElem?_map, h1]
    rfl
  · exact absurd (no i _ e1) Bool.false_ne_true
  · exact absurd (no i _ e1) Bool.false_ne_true
  · exact absurd (no i _ e) Bool.false_ne_true
theorem dFunc_arg {np n : Nat} {g : SF τ} {rs : List Rv} {s : τ} {r : Rv} {s' : τ} (e : dFunc np n g rs s = some (r, s')) : argOk r = true := by
  unfold dFunc at e
  split at e
  · cases e1 : g (rs.map some ++ List.replicate (n - rs.length) none) s with
    | none => rw [e1] at e; cases e
    | some x =>
      rw [e1] at e
      simp only [Option.bind_some] at e
      split at e
      · cases e; rfl
      · split at e
        · rename_i h
          cases e
          exact h
        · cases e
      · cases e
  · cases e
/-- a def by its body -/
theorem fn_ok {xn qual : Str} {st : Stmt} {f : Addr} {fd : FuncData} {N ps : List Str} {k : Nat} {g : SF τ} (F : Fun K xn qual st f fd) (S : FnScope N ps (defScope st))
    (hb : ∀ (cdv : Value) (A : Around) (outer : List Env) (s : Shared) (H : Hp) (E : XK), Room k (A.deeper (envOfC qual (defScope st) s.heap.objs.size f cdv)) →
      BX (fun _ : Unit => (cxOf CX0 P w K mg base N qual (defScope st) f cdv A outer s H E).nox) K RR (defBody st) g) : FnOk P w K mg base CX0 (k + 1) f fd ps (spD K RR ps.length (dFunc ps.length N.length g)) := by
  refine F.ok S (fun vs H Q E h => ?_) (fun cdv A outer s H vs Q E hr h => ?_)
  · obtain ⟨pp, G, rs, s, r, s', h, _⟩ := h
    exact h
  · obtain ⟨t, a1, a2⟩ := hb cdv A outer s H E hr
    refine ⟨t, a1 (), ?_⟩
    obtain ⟨pp, G, rs, s, r, s', hl, gh, hrs, hall, e, _, q⟩ := h
    unfold dFunc at e
    split at e
    · cases e1 : g (rs.map some ++ List.replicate (N.length - rs.length) none) s with
      | none => rw [e1] at e; cases e
      | some x =>
        obtain ⟨o, s1⟩ := x
        rw [e1] at e
        simp only [Option.bind_some] at e
        refine a2 pp G H _ s o s1 (L2.start N vs) G H _ e1 (si_start gh hrs hall) gh ?_
        cases o with
        | nx ρ =>
          cases e
          exact fun σ' G' H' si' g' _ => q _ G' H' g' si'.base Dp.non
        | rt r1 =>
          simp only at e
          split at e
          · cases e
            exact fun v G' H' g' x' r' => q v G' H' g' x' r'
          · cases e
        | bk ρ => cases e
        | ct ρ => cases e
    · cases e
/-- a def that stands in the module and keeps its promise -/
structure Cal {π τ : Type} (P : Program) (w : World) (K : PySem.W.Frag) (mg : Str → Option Value) (base : Heap) (RR : π → Res τ) (x : Str) (k n : Nat) (F : List Rv → τ → Option (Rv × τ)) : Prop where
  ex : ∃ f fd ps, FnOk P w K mg base CX0 k f fd ps (spD K RR n F) ∧ mg x = some (.ref f) ∧ PySem.W.keepIn K (.ref f) = true ∧ Binds K fd ps []
  arg : ∀ rs s r s', F rs s = some (r, s') → argOk r = true
theorem e_callC {ι : Type} {Y : ι → Cx} {x : Str} {pos p : Pos} {e : Expr} {es : List Expr} {fr : AF τ} {k j n : Nat} {F : List Rv → τ → Option (Rv × τ)} (c : Cal P w K mg base RR x j n F) (hP : ∀ i, (Y i).prog = P ∧ (Y i).w = w ∧ (Y i).K = K ∧ (Y i).mg = mg ∧ (Y i).base = base)
    (hr : ∀ i, Room k (Y i).A) (hk : j ≤ k) (hg : ∀ i, Gl (Y i) x)
    (ha : AX Y K RR (e :: es) fr) (hl : ∀ ρ s x, fr ρ s = some x → x.1.length = n) (hn : (e :: es).length = n) (hdb : (x == ("__debug__" : Str)) = false := by decide) (he : ∀ i, starEach (e :: es) (Y i).env = (false, eval e (Y i).env) :: starEach es (Y i).env := by intro _; rfl) (hpl : ∀ i, (backTo pos (starEach es (Y i).env)).any (·.1) = false := by intro _; rfl) :
    EX Y K RR (.Call (.Name x p) (e :: es) [] pos) (dFn F fr) := by
  obtain ⟨f, fd, ps, h1, h2, h3, h4⟩ := c.ex
  exact e_call h1 hP (fun i => (hr i).mono hk) hg h2 h3 h4 hn c.arg ha hdb he hpl hl
/-- a def of the text as the top leaves it -/
def Lk (K : PySem.W.Frag) (mg : Str → Option Value) (x : Str) (st : Stmt) : Prop := ∃ f fd, Fun K x x st f fd ∧ mg x = some (.ref f)
theorem cal_mk {x : Str} {st : Stmt} {k np n : Nat} {ps : List Str} {g : SF τ} (L : Lk K mg x st)
    (hb : ∀ f fd, Fun K x x st f fd → Binds K fd ps [])
    (h : ∀ f fd, Fun K x x st f fd → FnOk P w K mg base CX0 k f fd ps (spD K RR np (dFunc np n g))) : Cal P w K mg base RR x k np (dFunc np n g) := by
  obtain ⟨f, fd, F, hm⟩ := L
  exact ⟨⟨f, fd, ps, h f fd F, hm, F.kp, hb f fd F⟩, fun rs s r s' e => dFunc_arg e⟩
def recF {τ : Type} (np n : Nat) (g : (List Rv → τ → Option (Rv × τ)) → SF τ) : Nat → List Rv → τ → Option (Rv × τ)
  | 0 => fun _ _ => none
  | m + 1 => dFunc np n (g (recF np n g m))
theorem fn_none {xn qual : Str} {st : Stmt} {f : Addr} {fd : FuncData} {N ps : List Str} {k np : Nat} (F : Fun K xn qual st f fd) (S : FnScope N ps (defScope st)) : FnOk P w K mg base CX0 (k + 1) f fd ps (spD K RR np (fun _ _ => none)) := by
  refine F.ok S (fun vs H Q E h => ?_) (fun cdv A outer s H vs Q E hr h => ?_)
  · obtain ⟨pp, G, rs, s, r, s', _, _, _, _, e, _⟩ := h
    cases e
  · obtain ⟨pp, G, rs, s, r, s', _, _, _, _, e, _⟩ := h
    cases e
theorem cal_rec {x : Str} {st : Stmt} {k0 : Nat} {N ps : List Str} {g : (List Rv → τ → Option (Rv × τ)) → SF τ} (L : Lk K mg x st) (S : FnScope N ps (defScope st))
    (hb : ∀ f fd, Fun K x x st f fd → Binds K fd ps [])
    (h : ∀ (k : Nat) (Fs : List Rv → τ → Option (Rv × τ)), k0 ≤ k → Cal P w K mg base RR x k ps.length Fs →
      ∀ (cdv : Value) (A : Around) (outer : List Env) (s : Shared) (H : Hp) (E : XK) (f : Addr), Room k (A.deeper (envOfC x (defScope st) s.heap.objs.size f cdv)) →
      BX (fun _ : Unit => (cxOf CX0 P w K mg base N x (defScope st) f cdv A outer s H E).nox) K RR (defBody st) (g Fs)) : ∀ n, Cal P w K mg base RR x (k0 + 1 + n) ps.length (recF ps.length N.length g n)
  | 0 => by
    obtain ⟨f, fd, F, hm⟩ := L
    exact ⟨⟨f, fd, ps, fn_none F S, hm, F.kp, hb f fd F⟩, fun rs s r s' e => by cases e⟩
  | n + 1 => by
    have c := cal_rec L S hb h n
    obtain ⟨f, fd, F, hm⟩ := L
    exact ⟨⟨f, fd, ps, fn_ok F S fun cdv A outer s H E hr => h (k0 + 1 + n) _ (by omega) c cdv A outer s H E f hr, hm, F.kp, hb f fd F⟩, fun rs s r s' e => dFunc_arg e⟩
end
end DL

set_option Elab.async false
set_option linter.all false
set_option maxRecDepth 100000
set_option maxHeartbeats 4000000
set_option autoImplicit false
/-! DL, part F: no state; the law's own state (a dict of draws and a place); the law. -/
namespace DL
open PySem PySem.Spec PyProof.Rows L2

/-- no state -/
def RU : Res Unit where
  foot := fun _ => False
  ptr := .non
  R := fun _ _ _ => True
  keep := fun _ _ _ => trivial
abbrev RUf : Unit → Res Unit := fun _ => RU
/-- the dict of draws at pw: the draws, the place -/
abbrev WSt := List Int × Int
def wEs (pd : Addr) (at' : Int) : List (Key × V) := [((Sum.inr "draws" : Key), V.ref pd), ((Sum.inr "at" : Key), V.int at')]
def RW (K : PySem.W.Frag) (pw : Addr) : Res WSt where
  foot := fun a => a = pw
  ptr := .ref pw
  R := fun s G H => ∃ pd, H pw = some (.dK (wEs pd s.2)) ∧ Dp K G (.ref pd) (.list (s.1.map .int))
  keep := fun ⟨pd, h1, h2⟩ e h => ⟨pd, by rw [h _ rfl]; exact h1, dp_mono e _ _ h2⟩
section
variable {K : PySem.W.Frag}
theorem GH.start {G : Hp} : GH RU () G G := ⟨fun _ _ h => h, fun _ h => h.elim, fun _ h => h.elim, trivial⟩
theorem wEs_draws (pd : Addr) (i : Int) : valV (wEs pd i) (Sum.inr "draws" : Key) = some (.ref pd) := rfl
theorem kne : ¬ (("draws" : Str) = "at") := by decide +kernel
theorem kne' : ¬ ((Sum.inr "draws" : Key) = (Sum.inr "at" : Key)) := fun e => kne (Sum.inr.inj e)
theorem wEs_at (pd : Addr) (i : Int) : valV (wEs pd i) (Sum.inr "at" : Key) = some (.int i) := by
  show (List.find? (fun kv : Key × V => decide (kv.1 = (Sum.inr "at" : Key))) [((Sum.inr "draws" : Key), V.ref pd), ((Sum.inr "at" : Key), V.int i)]).map (·.2) = _
  rw [List.find?_cons_of_neg (by simpa using kne')]
  rw [List.find?_cons_of_pos (by simp)]
  rfl
theorem wEs_put (pd : Addr) (i j : Int) : putK (wEs pd i) (Sum.inr "at" : Key) (.int j) = wEs pd j := by
  unfold putK wEs
  rw [if_pos (by simp)]
  simp [kne, kne']
end
section
variable {ι τ : Type} {Y : ι → Cx} {K : PySem.W.Frag} {x : Str} {pos p1 p2 : Pos} {j1 : Nat}
def dWat (i : Nat) : EF WSt := fun ρ s => match ρ[i]? with
  | some (some .tok) => some (.dat (.int s.2), s)
  | _ => none
def dWdraws (i : Nat) : EF WSt := fun ρ s => match ρ[i]? with
  | some (some .tok) => some (.dat (.list (s.1.map .int)), s)
  | _ => none
theorem e_wat (i : Nat) {k : Nat} {jj} (hr : ∀ j, Room k (Y j).A) (hN : ∀ j, (Y j).N[i]? = some x := by intro _; rfl) (hv : ∀ j, Vis (Y j).env.scope x := by intro _; first | exact Or.inl rfl | exact Or.inr (Or.inl rfl) | exact Or.inr (Or.inr rfl))
    (hd : (x == ("__debug__" : Str)) = false := by decide) (hcd : (x == ("__classdict__" : Str)) = false := by decide) : EX Y K (RW K) (.Subscript (.Name x p1) (.Constant (.str "at") jj p2) pos) (dWat i) := by
  refine ⟨tDGet (tVar i) (tC (.str "at")), fun j => pe_dget (hu_of (hr j)) (pe_var (hN j) (hv j) hd hcd) pe_str (fun _ _ => rfl), fun pp G0 H0 ρ s r s' σ G H Q e si g q => ?_⟩
  unfold dWat at e
  split at e
  · rename_i er
    cases e
    obtain ⟨v, ev, rfl⟩ := si.slot i _ er
    obtain ⟨pd, h1, h2⟩ := g.res
    exact ⟨_, ev, pp, .int s.2, rfl, by rw [← wEs_at pd s.2]; exact DGet.k (k := (Sum.inr "at" : Key)) h1, q _ G H g .refl (Dp.int _) trivial⟩
  · cases e
theorem e_wdraws (i : Nat) {k : Nat} {jj} (hr : ∀ j, Room k (Y j).A) (hN : ∀ j, (Y j).N[i]? = some x := by intro _; rfl) (hv : ∀ j, Vis (Y j).env.scope x := by intro _; first | exact Or.inl rfl | exact Or.inr (Or.inl rfl) | exact Or.inr (Or.inr rfl))
    (hd : (x == ("__debug__" : Str)) = false := by decide) (hcd : (x == ("__classdict__" : Str)) = false := by decide) : EX Y K (RW K) (.Subscript (.Name x p1) (.Constant (.str "draws") jj p2) pos) (dWdraws i) := by
  refine ⟨tDGet (tVar i) (tC (.str "draws")), fun j => pe_dget (hu_of (hr j)) (pe_var (hN j) (hv j) hd hcd) pe_str (fun _ _ => rfl), fun pp G0 H0 ρ s r s' σ G H Q e si g q => ?_⟩
  unfold dWdraws at e
  split at e
  · rename_i er
    cases e
    obtain ⟨v, ev, rfl⟩ := si.slot i _ er
    obtain ⟨pd, h1, h2⟩ := g.res
    exact ⟨_, ev, pp, .ref pd, rfl, by rw [← wEs_draws pd s.2]; exact DGet.k (k := (Sum.inr "draws" : Key)) h1, q _ G H g .refl h2 trivial⟩
  · cases e
def dWinc (i : Nat) : SF WSt := fun ρ s => match ρ[i]? with
  | some (some .tok) => some (.nx ρ, (s.1, s.2 + 1))
  | _ => none
theorem s_winc (i : Nat) {k : Nat} {jj jk} {p3 tpos : Pos} (hr : ∀ j, Room k (Y j).A) (hN : ∀ j, (Y j).N[i]? = some x := by intro _; rfl) (hv : ∀ j, Vis (Y j).env.scope x := by intro _; first | exact Or.inl rfl | exact Or.inr (Or.inl rfl) | exact Or.inr (Or.inr rfl))
    (hd : (x == ("__debug__" : Str)) = false := by decide) (hcd : (x == ("__classdict__" : Str)) = false := by decide) : SX Y K (RW K) (.AugAssign (.Subscript (.Name x p1) (.Constant (.str "at") jj p2) tpos) .Add (.Constant (.int 1) jk p3) pos) (dWinc i) := by
  refine ⟨sDAug (tVar i) (tC (.str "at")) (tC (.int 1)) rAdd, fun j => ps_daug (hu_of (hr j)) (pe_var (hN j) (hv j) hd hcd) pe_str pe_int in_add (fun _ _ _ => rfl), fun pp G0 H0 ρ s o s' σ G H D e si g q => ?_⟩
  unfold dWinc at e
  split at e
  · rename_i er
    cases e
    obtain ⟨v, ev, rfl⟩ := si.slot i _ er
    obtain ⟨pd, h1, h2⟩ := g.res
    have hG : G pp = none := g.off pp rfl
    refine ⟨_, ev, pp, .int s.2, rfl, by rw [← wEs_at pd s.2]; exact DGet.k (k := (Sum.inr "at" : Key)) h1, s.2, 1, rfl, rfl, upd H pp (.dK (wEs pd (s.2 + 1))), ?_, ?_⟩
    · rw [← wEs_put pd s.2 (s.2 + 1)]
      exact DPut.k (k := (Sum.inr "at" : Key)) h1 (by show 2 < sizeLine; decide)
    · have x1 : Ext (RW K pp).foot G H G (upd H pp (.dK (wEs pd (s.2 + 1)))) := ⟨fun _ _ h => h, fun a u h k => by rw [upd_ne (show a ≠ pp from k)]; exact h, fun a h => ne_upd h, fun _ _ h => h⟩
      refine q σ G _ (si.ext x1) ⟨fun a u h => ?_, g.off, fun a h => ne_upd (g.ft a h), pd, upd_same, h2⟩ leG_refl
      rw [upd_ne (ne_of_none h hG)]
      exact g.le a u h
  · cases e
end

/-! ### a def without state, called where there is one -/
def isPure : Rv → Bool
  | .dat _ => true
  | .val _ => true
  | _ => false
def liftF {τ : Type} (F : List Rv → Unit → Option (Rv × Unit)) (rs : List Rv) (s : τ) : Option (Rv × τ) :=
  if rs.all isPure = true then (F rs ()).bind fun x => if isPure x.1 = true then some (x.1, s) else none else none
section
variable {π τ : Type} {P : Program} {w : World} {K : PySem.W.Frag} {mg : Str → Option Value} {base : Heap} {RR : π → Res τ}
theorem pure_rr {G H : Hp} {Rs : Res τ} {v : V} {r : Rv} (h : isPure r = true) : Rr K Rs G H v r ↔ Rr K RU G H v r := by
  cases r with
  | dat d => exact Iff.rfl
  | val d => exact Iff.rfl
  | own d => cases h
  | bor d => cases h
  | tok => cases h
theorem pure_rrs {G H : Hp} {Rs : Res τ} : ∀ {vs : List V} {rs : List Rv}, rs.all isPure = true → Rrs K Rs G H vs rs → Rrs K RU G H vs rs
  | _, _, _, .nil => .nil
  | _, _, h, .cons r t => by
    rw [List.all_cons, Bool.and_eq_true] at h
    exact .cons ((pure_rr h.1).mp r) (pure_rrs h.2 t)
theorem pure_arg {r : Rv} (h : isPure r = true) : argOk r = true := by
  cases r with
  | dat d => rfl
  | val d => rfl
  | own d => cases h
  | bor d => cases h
  | tok => cases h
theorem fn_lift {k n : Nat} {f : Addr} {fd : FuncData} {ps : List Str} {F : List Rv → Unit → Option (Rv × Unit)} (h : FnOk P w K mg base CX0 k f fd ps (spD K RUf n F)) : FnOk P w K mg base CX0 k f fd ps (spD K RR n (liftF F)) := by
  refine h.imp fun vs H Q E hq => ?_
  obtain ⟨pp, G, rs, s, r, s', hl, gh, hrs, hall, e, ha, q⟩ := hq
  unfold liftF at e
  split at e
  · rename_i hp
    cases e1 : F rs () with
    | none => rw [e1] at e; cases e
    | some x =>
      obtain ⟨r1, u⟩ := x
      rw [e1] at e
      simp only [Option.bind_some] at e
      split at e
      · rename_i hp1
        cases e
        refine ⟨(), G, rs, (), r, (), hl, ⟨gh.le, fun _ h => h.elim, fun _ h => h.elim, trivial⟩, pure_rrs hp hrs, hall, e1, ha, fun v G' H' g' x' r' => ?_⟩
        have keep : ∀ a o, H a = some o → H' a = some o := fun a o h => x'.h a o h fun z => z
        refine q v G' H' ⟨g'.le, fun a h => x'.f a (gh.ft a h) (gh.off a h), fun a h => x'.n a (gh.ft a h), (RR pp).keep gh.res x'.g fun a h => ?_⟩ ⟨x'.g, fun a o h _ => keep a o h, x'.n, x'.f⟩ ((pure_rr hp1).mpr r')
        cases ea : H a with
        | none => exact absurd ea (gh.ft a h)
        | some o => rw [keep a o ea]
      · cases e
  · cases e
theorem liftF_arg {F : List Rv → Unit → Option (Rv × Unit)} (rs : List Rv) (s : τ) (r : Rv) (s' : τ) (e : liftF F rs s = some (r, s')) : argOk r = true := by
  unfold liftF at e
  split at e
  · cases e1 : F rs () with
    | none => rw [e1] at e; cases e
    | some x =>
      rw [e1] at e
      simp only [Option.bind_some] at e
      split at e
      · rename_i hp1
        cases e
        exact pure_arg hp1
      · cases e
  · cases e
end

section
variable {π τ : Type} {P : Program} {w : World} {K : PySem.W.Frag} {mg : Str → Option Value} {base : Heap} {RR : π → Res τ}
theorem Cal.lift {x : Str} {k n : Nat} {F : List Rv → Unit → Option (Rv × Unit)} (c : Cal P w K mg base RUf x k n F) : Cal P w K mg base RR x k n (liftF F) := by
  obtain ⟨⟨f, fd, ps, h1, h2⟩, _⟩ := c
  exact ⟨⟨f, fd, ps, fn_lift h1, h2⟩, liftF_arg⟩
end
/-! ### the law -/
def spLaw (K : PySem.W.Frag) : Sp := fun vs H Q _ => ∃ (a : Addr) (ns : List Int), vs = [.ref a] ∧ SqL K H a (ns.map V.int) ∧ ns.length ≤ 63 ∧ ∀ H', Q (.bl true) H'
section
variable {P : Program} {w : World} {K : PySem.W.Frag} {mg : Str → Option Value} {base : Heap}
theorem law_fn {qual : Str} {xn : Str} {st : Stmt} {f : Addr} {fd : FuncData} {N : List Str} {k iw : Nat} {g : SF WSt} {f0 : EF Unit} (F : Fun K xn qual st f fd) (S : FnScope N ["script"] (defScope st)) (h1 : 1 ≤ N.length) (hiw : iw < N.length) (hiw0 : iw ≠ 0)
    (hb : ∀ (cdv : Value) (A : Around) (outer : List Env) (s : Shared) (H : Hp) (E : XK), Room k (A.deeper (envOfC qual (defScope st) s.heap.objs.size f cdv)) →
      ∃ (e0 : Expr) (rest : List Stmt) (p1 p2 p3 p4 p5 p6 : Pos) (j1 j2 j3 : Nat) (j1' j2' j3' : _),
        defBody st = .Assign [.Name "w" p1] (.Dict [some (.Constant (.str "draws") j1' p2), some (.Constant (.str "at") j2' p3)] [e0, .Constant (.int 0) j3' p4] p5) p6 :: rest ∧
        EX (fun _ : Unit => (cxOf CX0 P w K mg base N qual (defScope st) f cdv A outer s H E).nox) K RUf e0 f0 ∧
        BX (fun _ : Unit => (cxOf CX0 P w K mg base N qual (defScope st) f cdv A outer s H E).nox) K (RW K) rest g ∧
        N[iw]? = some ("w" : Str) ∧ Loc (defScope st) "w" ∧
        swapsWith (.Dict [some (.Constant (.str "draws") j1' p2), some (.Constant (.str "at") j2' p3)] [e0, .Constant (.int 0) j3' p4] p5) (some (.Name "w" p1)) p6.line (cxOf CX0 P w K mg base N qual (defScope st) f cdv A outer s H E).nox.env = pure false)
    (hlaw : ∀ ns : List Int, ns.length ≤ 63 → ∃ (ds : List Int) (s' : WSt), f0 (some (.dat (.list (ns.map .int))) :: List.replicate (N.length - 1) none) () = some (.dat (.list (ds.map .int)), ()) ∧
      g ((some (.dat (.list (ns.map .int))) :: List.replicate (N.length - 1) none).set iw (some .tok)) (ds, 0) = some (.rt (.dat (.bool true)), s')) :
    FnOk P w K mg base CX0 (k + 1) f fd ["script"] (spLaw K) := by
  refine F.ok S (fun vs H Q E h => ?_) (fun cdv A outer s H vs Q E hr h => ?_)
  · obtain ⟨a, ns, rfl, _⟩ := h
    rfl
  · obtain ⟨e0, rest, p1, p2, p3, p4, p5, p6, j1, j2, j3, j1', j2', j3', hbody, ⟨t0, a1, a2⟩, ⟨t, b1, b2⟩, hNw, hLw, hsw⟩ := hb cdv A outer s H E hr
    obtain ⟨a, ns, rfl, hS, hlen, q⟩ := h
    obtain ⟨ds, s', hl1, hl2⟩ := hlaw ns hlen
    rw [hbody]
    refine ⟨_, pss_cons (ps_set (i := iw) S.nd hNw hLw (pe_disp (pps_cons pe_str (a1 ()) (pps_cons pe_str pe_int pps_nil)) rfl rfl (fun z => by cases z) (by show 2 ≤ 15; decide)) hsw) (b1 ()), ?_⟩
    intro p hp
    have n0 : GH RU () H H := GH.start
    have n1 : GH RU () H (upd H p (.dK [])) := n0.new hp
    have hst : L2.start N [V.ref a] = some (V.ref a) :: List.replicate (N.length - 1) none := rfl
    have rr0 : Rrs K RU H (upd H p (.dK [])) [V.ref a] [.dat (.list (ns.map .int))] := .cons (Dp.lst hS (dpa_of_ints ns)) .nil
    have si0 : SI K RU H (upd H p (.dK [])) (some (.dat (.list (ns.map .int))) :: List.replicate (N.length - 1) none) (L2.start N [V.ref a]) H (upd H p (.dK [])) :=
      si_start (N := N) n1 rr0 rfl
    refine a2 () H (upd H p (.dK [])) _ () _ () (L2.start N [V.ref a]) H (upd H p (.dK [])) _ hl1 si0 n1 fun v G1 H1 g1 x1 r1 _ => ?_
    have hp1 : H1 p = some (.dK []) := x1.h p _ upd_same fun z => z
    have gp1 : G1 p = none := x1.f p (by rw [upd_same]; exact fun z => nomatch z) hp
    cases r1 with
    | @lst pd xs ds' hs1 ha1 =>
      refine ⟨hp1, [((Sum.inr "draws" : Key), V.ref pd), ((Sum.inr "at" : Key), V.int 0)], rfl, (by show 2 ≤ 15; decide), ?_⟩
      have hm : mergeK [] [((Sum.inr "draws" : Key), V.ref pd), ((Sum.inr "at" : Key), V.int 0)] = wEs pd 0 := by
        show putK (putK [] (Sum.inr "draws" : Key) (V.ref pd)) (Sum.inr "at" : Key) (V.int 0) = wEs pd 0
        have e1 : putK ([] : List (Key × V)) (Sum.inr "draws" : Key) (V.ref pd) = [((Sum.inr "draws" : Key), V.ref pd)] := rfl
        rw [e1]
        unfold putK
        rw [if_neg (by simpa using kne')]
        rfl
      show t _ ((L2.start N [V.ref a]).set iw (some (.ref p))) (upd H1 p (.dK (mergeK [] [((Sum.inr "draws" : Key), V.ref pd), ((Sum.inr "at" : Key), V.int 0)])))
      rw [hm]
      have x2 : Ext (fun a => a = p) G1 H1 G1 (upd H1 p (.dK (wEs pd 0))) := ⟨fun _ _ h => h, fun a u h k => by rw [upd_ne (show a ≠ p from k)]; exact h, fun a h => ne_upd h, fun _ _ h => h⟩
      have g2 : GH (RW K p) (ds, 0) G1 (upd H1 p (.dK (wEs pd 0))) := ⟨fun b u h => (by
        rw [upd_ne (ne_of_none h gp1)]
        exact g1.le b u h), fun b h => (by rw [show b = p from h]; exact gp1), fun b h => (by rw [show b = p from h, upd_same]; exact fun z => nomatch z), pd, upd_same, Dp.lst hs1 ha1⟩
      have l0 : (some (Rv.dat (.list (ns.map PyData.int))) :: List.replicate (N.length - 1) none).length = N.length := by
        rw [List.length_cons, List.length_replicate]
        omega
      have ls : (L2.start N [V.ref a]).length = N.length := by
        rw [hst, List.length_cons, List.length_replicate]
        omega
      have only : ∀ (i : Nat) (r : Rv), ((some (Rv.dat (.list (ns.map PyData.int))) :: List.replicate (N.length - 1) none).set iw (some .tok))[i]? = some (some r) → (i = iw ∧ r = .tok) ∨ (i = 0 ∧ r = .dat (.list (ns.map .int))) := fun i r e => by
        by_cases hi : iw = i
        · subst hi
          rw [List.getElem?_set_self (by rw [l0]; exact hiw)] at e
          cases e
          exact .inl ⟨rfl, rfl⟩
        · rw [List.getElem?_set_ne hi] at e
          cases i with
          | zero =>
            cases e
            exact .inr ⟨rfl, rfl⟩
          | succ i =>
            rw [List.getElem?_cons_succ, List.getElem?_replicate] at e
            split at e <;> cases e
      have si2 : SI K (RW K p) G1 (upd H1 p (.dK (wEs pd 0))) ((some (.dat (.list (ns.map .int))) :: List.replicate (N.length - 1) none).set iw (some .tok)) ((L2.start N [V.ref a]).set iw (some (.ref p))) G1 (upd H1 p (.dK (wEs pd 0))) := by
        refine ⟨.refl, by rw [List.length_set, List.length_set, l0, ls], fun i r e => ?_, fun i j p' as bs e1 => ?_, fun i p' as e1 => ?_, fun i as e => ?_⟩
        · rcases only i r e with ⟨rfl, rfl⟩ | ⟨rfl, rfl⟩
          · exact ⟨_, List.getElem?_set_self (by rw [ls]; exact hiw), rfl⟩
          · refine ⟨.ref a, ?_, dp_mono x1.g _ _ (Dp.lst hS (dpa_of_ints ns))⟩
            rw [List.getElem?_set_ne hiw0]
            rfl
        · rcases only i _ e1 with ⟨_, z⟩ | ⟨_, z⟩ <;> cases z
        · rcases only i _ e1 with ⟨_, z⟩ | ⟨_, z⟩ <;> cases z
        · rcases only i _ e with ⟨_, z⟩ | ⟨_, z⟩ <;> cases z
      refine b2 p G1 _ _ (ds, 0) _ s' _ G1 _ _ hl2 si2 g2 fun v G' H' g' x' r' => ?_
      cases r'
      exact q H'
end
end DL

set_option Elab.async false
set_option linter.all false
set_option maxRecDepth 100000
set_option maxHeartbeats 4000000
set_option autoImplicit false
/-! DL, part G: more operations. -/
namespace DL
open PySem PySem.Spec PyProof.Rows L2
section
variable {ι π τ : Type} {Y : ι → Cx} {K : PySem.W.Frag} {RR : π → Res τ} {Rs : Res τ}
abbrev bSum : List Rv → Option Rv := fn1 dSumL
theorem c_sum (hc : ∀ i, (Y i).calm = true) (hK : ∀ i, (Y i).K = K) : CA Y K RR (.builtin "sum") bSum := c_sumL hc hK
abbrev dMul : Rv → Rv → Option Rv := dMulI
theorem o_mul (hK : ∀ i, (Y i).K = K) : OX Y K RR (binaryOp .Mult) dMul := o_mulI
end
end DL

set_option Elab.async false
set_option linter.all false
set_option maxRecDepth 100000
set_option maxHeartbeats 4000000
set_option autoImplicit false
/-! DL, part M: how the plain functions are counted out. -/
namespace DL
open PySem PySem.Spec PyProof.Rows L2
/-! ### the same data, by looking -/
mutual
def sameD : PyData → PyData → Bool
  | .none, .none => true
  | .bool a, .bool b => decide (a = b)
  | .int a, .int b => decide (a = b)
  | .str a, .str b => decide (a = b)
  | .list a, .list b => sameDs a b
  | .tuple a, .tuple b => sameDs a b
  | _, _ => false
def sameDs : List PyData → List PyData → Bool
  | [], [] => true
  | a :: r, b :: t => sameD a b && sameDs r t
  | _, _ => false
end
mutual
theorem sameD_eq : ∀ (a b : PyData), sameD a b = true → a = b
  | .none, b, h => by cases b <;> simp [sameD] at h <;> rfl
  | .bool a, b, h => by cases b <;> simp [sameD] at h; rw [h]
  | .int a, b, h => by cases b <;> simp [sameD] at h; rw [h]
  | .str a, b, h => by cases b <;> simp [sameD] at h; rw [h]
  | .list a, b, h => by cases b <;> simp [sameD] at h; rw [sameDs_eq _ _ h]
  | .tuple a, b, h => by cases b <;> simp [sameD] at h; rw [sameDs_eq _ _ h]
  | .dict a, b, h => by cases b <;> simp [sameD] at h
theorem sameDs_eq : ∀ (a b : List PyData), sameDs a b = true → a = b
  | [], b, h => by cases b <;> simp [sameDs] at h; rfl
  | x :: r, b, h => by
    cases b with
    | nil => simp [sameDs] at h
    | cons y t =>
      simp [sameDs] at h
      rw [sameD_eq _ _ h.1, sameDs_eq _ _ h.2]
end
/-- a run that gives just this -/
def isRes (x : Option (Rv × Unit)) (d : PyData) : Bool := match x with
  | some (.dat e, _) => sameD e d
  | _ => false
theorem isRes_eq {x : Option (Rv × Unit)} {d : PyData} (h : isRes x d = true) : x = some (.dat d, ()) := by
  unfold isRes at h
  split at h
  · rw [sameD_eq _ _ h]
  · cases h
/-! ### words for simp -/
section
variable {τ : Type} {ρ : Ev} {s : τ}
@[simp] theorem q_seq {g h : SF τ} : dSeq g h ρ s = (g ρ s).bind fun x => match x.1 with
  | .nx ρ1 => h ρ1 x.2
  | o => some (o, x.2) := Eq.trans rfl rfl
@[simp] theorem q_skip : dSkip ρ s = some (.nx ρ, s) := Eq.trans rfl rfl
@[simp] theorem q_set {i : Nat} {f : EF τ} : dSet i f ρ s = (f ρ s).bind fun x => (setSlot i x.1 ρ).map fun ρ1 => (.nx ρ1, x.2) := Eq.trans rfl rfl
@[simp] theorem q_asg {f : EF τ} {tgt : GF} : dAsg f tgt ρ s = (f ρ s).bind fun x => (tgt x.1 ρ).map fun ρ1 => (.nx ρ1, x.2) := Eq.trans rfl rfl
@[simp] theorem q_drop {f : EF τ} : dDrop f ρ s = (f ρ s).map fun x => (.nx ρ, x.2) := Eq.trans rfl rfl
@[simp] theorem q_ret {f : EF τ} : dRet f ρ s = (dFrz f ρ s).map fun x => (.rt x.1, x.2) := Eq.trans rfl rfl
@[simp] theorem q_retN : dRetN ρ s = some (.rt (.dat .none), s) := Eq.trans rfl rfl
@[simp] theorem q_ifS {c : BF τ} {g h : SF τ} : dIfS c g h ρ s = (c ρ s).bind fun x => if x.1 = true then g ρ x.2 else h ρ x.2 := Eq.trans rfl rfl
@[simp] theorem q_brk : dBrk ρ s = some (.bk ρ, s) := Eq.trans rfl rfl
@[simp] theorem q_cnt : dCnt ρ s = some (.ct ρ, s) := Eq.trans rfl rfl
@[simp] theorem q_par {i j : Nat} {f : AF τ} : dPar i j f ρ s = (f ρ s).bind fun x => match x.1 with
  | [.dat a, .dat b] => (setSlot i (.dat a) ρ).bind fun ρ1 => (setSlot j (.dat b) ρ1).map fun ρ2 => (.nx ρ2, x.2)
  | _ => none := Eq.trans rfl rfl
@[simp] theorem q_aug {i : Nat} {op : Rv → Rv → Option Rv} {f : EF τ} : dAug i op f ρ s = match ρ[i]? with
  | some (some (.dat a)) => (f ρ s).bind fun x => (op (.dat a) x.1).bind fun r => match r with
    | .dat d => (setSlot i (.dat d) ρ).map fun ρ1 => (.nx ρ1, x.2)
    | _ => none
  | _ => none := Eq.trans rfl rfl
@[simp] theorem q_frzS {i : Nat} {g : SF τ} : dFrzS i g ρ s = g (frzSlot i ρ) s := Eq.trans rfl rfl
@[simp] theorem q_append {i : Nat} {f : EF τ} : dAppend i f ρ s = (dFrz f ρ s).bind fun x => match ρ[i]?, x.1 with
  | some (some (.own ds)), .dat d => if ds.length < 16777216 then some (.nx (ρ.set i (some (.own (ds ++ [d])))), x.2) else none
  | _, _ => none := Eq.trans rfl rfl
@[simp] theorem q_for {it : IF τ} {tgt : GF} {body : SF τ} : dFor it tgt body ρ s = (it ρ s).bind fun x => forGo (forStep tgt body) x.1 ρ x.2 := Eq.trans rfl rfl
@[simp] theorem q_forStep {tgt : GF} {body : SF τ} {d : PyData} : forStep tgt body d ρ s = (tgt (.dat d) ρ).bind fun ρ1 => body ρ1 s := Eq.trans rfl rfl
@[simp] theorem q_frzSlot {i : Nat} : frzSlot i ρ = match ρ[i]? with
  | some (some (.own ds)) => ρ.set i (some (.dat (.list ds)))
  | _ => ρ := Eq.trans rfl rfl
@[simp] theorem q_var {i : Nat} : dVar i ρ s = match ρ[i]? with
  | some (some r) => some (seen r, s)
  | _ => none := Eq.trans rfl rfl
@[simp] theorem q_c {r : Rv} : dC r ρ s = some (r, s) := Eq.trans rfl rfl
@[simp] theorem q_bin {op : Rv → Rv → Option Rv} {fa fb : EF τ} : dBin op fa fb ρ s = (fa ρ s).bind fun x => (fb ρ x.2).bind fun y => (op x.1 y.1).map fun r => (r, y.2) := Eq.trans rfl rfl
@[simp] theorem q_un {op : Rv → Option Rv} {fa : EF τ} : dUn op fa ρ s = (fa ρ s).bind fun x => (op x.1).map fun r => (r, x.2) := Eq.trans rfl rfl
@[simp] theorem q_frz {fa : EF τ} : dFrz fa ρ s = (fa ρ s).bind fun x => (frz x.1).map fun r => (r, x.2) := Eq.trans rfl rfl
@[simp] theorem q_test {fa : EF τ} : dTest fa ρ s = (fa ρ s).bind fun x => match x.1 with
  | .dat (.bool b) => some (b, x.2)
  | _ => none := Eq.trans rfl rfl
@[simp] theorem q_not {f : BF τ} : dNot f ρ s = (f ρ s).map fun x => (!x.1, x.2) := Eq.trans rfl rfl
@[simp] theorem q_and {f g : BF τ} : dAnd f g ρ s = (f ρ s).bind fun x => if x.1 = true then g ρ x.2 else some (false, x.2) := Eq.trans rfl rfl
@[simp] theorem q_or {f g : BF τ} : dOr f g ρ s = (f ρ s).bind fun x => if x.1 = true then some (true, x.2) else g ρ x.2 := Eq.trans rfl rfl
@[simp] theorem q_andV {f g : EF τ} : dAndV f g ρ s = (dTest f ρ s).bind fun x => if x.1 = true then g ρ x.2 else some (.dat (.bool false), x.2) := Eq.trans rfl rfl
@[simp] theorem q_orV {f g : EF τ} : dOrV f g ρ s = (dTest f ρ s).bind fun x => if x.1 = true then some (.dat (.bool true), x.2) else g ρ x.2 := Eq.trans rfl rfl
@[simp] theorem q_notV {f : EF τ} : dNotV f ρ s = (dTest f ρ s).map fun x => (.dat (.bool (!x.1)), x.2) := Eq.trans rfl rfl
@[simp] theorem q_if {c : BF τ} {a b : EF τ} : dIf c a b ρ s = (c ρ s).bind fun x => if x.1 = true then a ρ x.2 else b ρ x.2 := Eq.trans rfl rfl
@[simp] theorem q_nil : dNil ρ s = some ([], s) := Eq.trans rfl rfl
@[simp] theorem q_cons {fa : EF τ} {fr : AF τ} : dCons fa fr ρ s = (fa ρ s).bind fun x => (fr ρ x.2).map fun y => (x.1 :: y.1, y.2) := Eq.trans rfl rfl
@[simp] theorem q_tup {fr : AF τ} : dTup fr ρ s = (fr ρ s).bind fun x => if x.1.length ≤ 16777216 then (datsOf x.1).map fun ds => (.dat (.tuple ds), x.2) else none := Eq.trans rfl rfl
@[simp] theorem q_lst {fr : AF τ} : dLst fr ρ s = (fr ρ s).bind fun x => if x.1.length ≤ 16777216 then (datsOf x.1).map fun ds => (.own ds, x.2) else none := Eq.trans rfl rfl
@[simp] theorem q_call {fn : List Rv → Option Rv} {fr : AF τ} : dCall fn fr ρ s = (fr ρ s).bind fun x => (fn x.1).map fun r => (r, x.2) := Eq.trans rfl rfl
@[simp] theorem q_fn {F : List Rv → τ → Option (Rv × τ)} {fr : AF τ} : dFn F fr ρ s = (fr ρ s).bind fun x => if x.1.all argOk = true then F x.1 x.2 else none := Eq.trans rfl rfl
@[simp] theorem q_items {fa : EF τ} : dItems fa ρ s = (fa ρ s).bind fun x => (itemsOf x.1).map fun ds => (ds, x.2) := Eq.trans rfl rfl
@[simp] theorem q_itemsS {fa : EF τ} : dItemsS fa ρ s = (dFrz fa ρ s).bind fun x => (datItems x.1).map fun ds => (ds, x.2) := Eq.trans rfl rfl
@[simp] theorem q_range {fr : AF τ} : dRange fr ρ s = (fr ρ s).bind fun x => (rgOf x.1).map fun ds => (ds, x.2) := Eq.trans rfl rfl
@[simp] theorem q_lc {vs : List Nat} {it : IF τ} {tgt : GF} {test : BF τ} {elt : EF τ} : dLc vs it tgt test elt ρ s = (it ρ s).bind fun x => (lcGo (lcStep tgt test elt (wipeD ρ vs)) x.1 x.2).map fun r => (.own r.1, r.2) := Eq.trans rfl rfl
@[simp] theorem q_lcStep {tgt : GF} {test : BF τ} {elt : EF τ} {d : PyData} : lcStep tgt test elt ρ d s = (tgt (.dat d) ρ).bind fun ρ1 => (test ρ1 s).bind fun b => if b.1 = true then (elt ρ1 b.2).bind fun y => match y.1 with
    | .dat e => some ([e], y.2)
    | _ => none
  else some ([], b.2) := Eq.trans rfl rfl
@[simp] theorem q_wipe0 : wipeD ρ [] = ρ := Eq.trans rfl rfl
@[simp] theorem q_wipe1 {v : Nat} {vs : List Nat} : wipeD ρ (v :: vs) = (wipeD ρ vs).set v none := Eq.trans rfl rfl
@[simp] theorem q_yes : dYes ρ s = some (true, s) := Eq.trans rfl rfl
@[simp] theorem q_slot {i : Nat} {r : Rv} : setSlot i r ρ = if isBor r = true then none else if i < ρ.length then some (ρ.set i (some r)) else none := Eq.trans rfl rfl
@[simp] theorem q_setTup {n : Nat} {u : List PyData → Ev → Option Ev} {ds : List PyData} : setTup n u (.dat (.tuple ds)) ρ = if ds.length = n then u ds ρ else none := Eq.trans rfl rfl
@[simp] theorem q_gnil : gNilD [] ρ = some ρ := Eq.trans rfl rfl
@[simp] theorem q_gcons {t : GF} {u : List PyData → Ev → Option Ev} {d : PyData} {ds : List PyData} : gConsD t u (d :: ds) ρ = (t (.dat d) ρ).bind fun ρ1 => u ds ρ1 := Eq.trans rfl rfl
@[simp] theorem q_sl {fa : EF τ} {fl fh : Ev → τ → Option (Option Int × τ)} : dSl fa fl fh ρ s = (fa ρ s).bind fun x => (fl ρ x.2).bind fun l => (fh ρ l.2).bind fun h => (dCut x.1 l.1 h.1).map fun r => (r, h.2) := Eq.trans rfl rfl
@[simp] theorem q_no : dNo ρ s = some (none, s) := Eq.trans rfl rfl
@[simp] theorem q_part {fa : EF τ} : dPart fa ρ s = (fa ρ s).bind fun x => match x.1 with
  | .dat (.int i) => some (some i, x.2)
  | _ => none := Eq.trans rfl rfl
end
section
variable {ρ : Ev} {s : WSt}
@[simp] theorem q_wat {i : Nat} : dWat i ρ s = match ρ[i]? with
  | some (some .tok) => some (.dat (.int s.2), s)
  | _ => none := Eq.trans rfl rfl
@[simp] theorem q_wdraws {i : Nat} : dWdraws i ρ s = match ρ[i]? with
  | some (some .tok) => some (.dat (.list (s.1.map .int)), s)
  | _ => none := Eq.trans rfl rfl
@[simp] theorem q_winc {i : Nat} : dWinc i ρ s = match ρ[i]? with
  | some (some .tok) => some (.nx ρ, (s.1, s.2 + 1))
  | _ => none := Eq.trans rfl rfl
end
section
variable {a b d e : PyData} {ds es : List PyData} {i j : Int} {p q : Bool} {x y : Rv}
@[simp] theorem q_bor_dat : isBor (.dat d) = false := Eq.trans rfl rfl
@[simp] theorem q_bor_own : isBor (.own ds) = false := Eq.trans rfl rfl
@[simp] theorem q_bor_tok : isBor .tok = false := Eq.trans rfl rfl
@[simp] theorem q_seen_dat : seen (.dat d) = .dat d := Eq.trans rfl rfl
@[simp] theorem q_seen_own : seen (.own ds) = .bor ds := Eq.trans rfl rfl
@[simp] theorem q_seen_tok : seen .tok = .tok := Eq.trans rfl rfl
@[simp] theorem q_frz_dat : frz (.dat d) = some (.dat d) := Eq.trans rfl rfl
@[simp] theorem q_frz_own : frz (.own ds) = some (.dat (.list ds)) := Eq.trans rfl rfl
@[simp] theorem q_frz_val {v : V} : frz (.val v) = some (.val v) := Eq.trans rfl rfl
@[simp] theorem q_arg_dat : argOk (.dat d) = true := Eq.trans rfl rfl
@[simp] theorem q_arg_tok : argOk .tok = true := Eq.trans rfl rfl
@[simp] theorem q_arg_val {v : V} : argOk (.val v) = true := Eq.trans rfl rfl
@[simp] theorem q_pure_dat : isPure (.dat d) = true := Eq.trans rfl rfl
@[simp] theorem q_pure_val {v : V} : isPure (.val v) = true := Eq.trans rfl rfl
@[simp] theorem q_dats_nil : datsOf [] = some [] := Eq.trans rfl rfl
@[simp] theorem q_dats_cons {r : List Rv} : datsOf (.dat d :: r) = (datsOf r).map fun ds => d :: ds := Eq.trans rfl rfl
@[simp] theorem q_items_l : itemsOf (.dat (.list ds)) = some ds := Eq.trans rfl rfl
@[simp] theorem q_items_t : itemsOf (.dat (.tuple ds)) = some ds := Eq.trans rfl rfl
@[simp] theorem q_items_o : itemsOf (.own ds) = some ds := Eq.trans rfl rfl
@[simp] theorem q_items_b : itemsOf (.bor ds) = some ds := Eq.trans rfl rfl
@[simp] theorem q_dit_l : datItems (.dat (.list ds)) = some ds := Eq.trans rfl rfl
@[simp] theorem q_dit_t : datItems (.dat (.tuple ds)) = some ds := Eq.trans rfl rfl
@[simp] theorem q_listOf_l : listOf (.dat (.list ds)) = some ds := Eq.trans rfl rfl
@[simp] theorem q_listOf_o : listOf (.own ds) = some ds := Eq.trans rfl rfl
@[simp] theorem q_listOf_b : listOf (.bor ds) = some ds := Eq.trans rfl rfl
@[simp] theorem q_listOf_t : listOf (.dat (.tuple ds)) = none := Eq.trans rfl rfl
@[simp] theorem q_listOf_i : listOf (.dat (.int i)) = none := Eq.trans rfl rfl
@[simp] theorem q_asD_d : asD (.dat d) = some d := Eq.trans rfl rfl
@[simp] theorem q_asD_o : asD (.own ds) = some (.list ds) := Eq.trans rfl rfl
@[simp] theorem q_asD_b : asD (.bor ds) = some (.list ds) := Eq.trans rfl rfl
@[simp] theorem q_addI : dAdd (.dat (.int i)) (.dat (.int j)) = some (.dat (.int (i + j))) := Eq.trans rfl rfl
@[simp] theorem q_addT : dAdd (.dat (.tuple ds)) (.dat (.tuple es)) = if ds.length + es.length ≤ 16777216 then some (.dat (.tuple (ds ++ es))) else none := by
  by_cases h : ds.length + es.length ≤ 16777216
  · simp [dAdd, orR, dInt2, dTupAdd, h]
  · simp [dAdd, orR, dInt2, dTupAdd, h, dLstAdd, dStrAdd]
theorem addL {x y : Rv} {ds es : List PyData} (hx : listOf x = some ds) (hy : listOf y = some es) (h : ds.length + es.length ≤ 16777216) : dAdd x y = some (.own (ds ++ es)) := by
  have h1 : dLstAdd x y = some (.own (ds ++ es)) := by
    unfold dLstAdd
    rw [hx, hy]
    simp [h]
  have h2 : dInt2 (fun a b => .int (a + b)) x y = none := by
    unfold dInt2
    split
    · simp at hx
    · rfl
  have h3 : dTupAdd x y = none := by
    unfold dTupAdd
    split
    · simp at hx
    · rfl
  unfold dAdd orR
  rw [h2]
  show (match dTupAdd x y with | some r => some r | none => orR dLstAdd dStrAdd x y) = _
  rw [h3]
  show (match dLstAdd x y with | some r => some r | none => dStrAdd x y) = _
  rw [h1]
@[simp] theorem q_addLL : dAdd (.dat (.list ds)) (.dat (.list es)) = if ds.length + es.length ≤ 16777216 then some (.own (ds ++ es)) else none := by
  split
  · rename_i h; exact addL rfl rfl h
  · rename_i h; simp [dAdd, orR, dInt2, dTupAdd, dLstAdd, dStrAdd, h]
@[simp] theorem q_addLO : dAdd (.dat (.list ds)) (.own es) = if ds.length + es.length ≤ 16777216 then some (.own (ds ++ es)) else none := by
  split
  · rename_i h; exact addL rfl rfl h
  · rename_i h; simp [dAdd, orR, dInt2, dTupAdd, dLstAdd, dStrAdd, h]
@[simp] theorem q_addOL : dAdd (.own ds) (.dat (.list es)) = if ds.length + es.length ≤ 16777216 then some (.own (ds ++ es)) else none := by
  split
  · rename_i h; exact addL rfl rfl h
  · rename_i h; simp [dAdd, orR, dInt2, dTupAdd, dLstAdd, dStrAdd, h]
@[simp] theorem q_addOO : dAdd (.own ds) (.own es) = if ds.length + es.length ≤ 16777216 then some (.own (ds ++ es)) else none := by
  split
  · rename_i h; exact addL rfl rfl h
  · rename_i h; simp [dAdd, orR, dInt2, dTupAdd, dLstAdd, dStrAdd, h]
@[simp] theorem q_sub : dSub (.dat (.int i)) (.dat (.int j)) = some (.dat (.int (i - j))) := Eq.trans rfl rfl
@[simp] theorem q_int2 {g : Int → Int → PyData} : dInt2 g (.dat (.int i)) (.dat (.int j)) = some (.dat (g i j)) := Eq.trans rfl rfl
@[simp] theorem q_mulI : dMulI (.dat (.int i)) (.dat (.int j)) = if (decide (i.natAbs < 18446744073709551616) || decide (j.natAbs < 18446744073709551616)) = true then some (.dat (.int (i * j))) else none := Eq.trans rfl rfl
@[simp] theorem q_fdiv : dFdiv (.dat (.int i)) (.dat (.int j)) = if (decide (0 < j) && decide (j < 1073741824)) = true then some (.dat (.int (i / j))) else none := Eq.trans rfl rfl
@[simp] theorem q_mod : dMod (.dat (.int i)) (.dat (.int j)) = if decide (0 < j) = true then some (.dat (.int (i % j))) else none := Eq.trans rfl rfl
@[simp] theorem q_pow : dPow (.dat (.int i)) (.dat (.int j)) = if (decide (0 ≤ j) && decide (j ≤ 1000000) && decide (i.natAbs < 18446744073709551616)) = true then some (.dat (.int (i ^ j.toNat))) else none := Eq.trans rfl rfl
@[simp] theorem q_neg : dNeg (.dat (.int i)) = some (.dat (.int (-i))) := Eq.trans rfl rfl
@[simp] theorem q_okD_i : okD (.int i) = true := by unfold okD; simp [PyData.plain, PyData.depth]
@[simp] theorem q_okD_b : okD (.bool p) = true := by unfold okD; simp [PyData.plain, PyData.depth]
@[simp] theorem q_okD_n : okD .none = true := by unfold okD; simp [PyData.plain, PyData.depth]
@[simp] theorem q_okD_nil : okD (.list []) = true := by decide
@[simp] theorem q_okC_i : okC (.int i) (.int j) = true := by unfold okC; simp [PySem.W.alike, PyData.depth]
@[simp] theorem q_eqv_i : PyData.eqv (.int i) (.int j) = decide (i = j) := by
  rw [PyData.eqv]
  by_cases h : i = j <;> simp [h]
@[simp] theorem q_eqv_b : PyData.eqv (.bool p) (.bool q) = decide (p = q) := by
  rw [PyData.eqv]
  by_cases h : p = q <;> simp [h]
@[simp] theorem q_eqv_t : PyData.eqv (.tuple ds) (.tuple es) = PyData.eqvAll ds es := by rw [PyData.eqv]
@[simp] theorem q_eqv_l : PyData.eqv (.list ds) (.list es) = PyData.eqvAll ds es := by rw [PyData.eqv]
@[simp] theorem q_eqvs_nn : PyData.eqvAll [] [] = true := by rw [PyData.eqvAll]
@[simp] theorem q_eqvs_nc : PyData.eqvAll [] (d :: ds) = false := by rw [PyData.eqvAll]
@[simp] theorem q_eqvs_cn : PyData.eqvAll (d :: ds) [] = false := by rw [PyData.eqvAll]
@[simp] theorem q_eqvs_cc : PyData.eqvAll (d :: ds) (e :: es) = (PyData.eqv d e && PyData.eqvAll ds es) := by rw [PyData.eqvAll]
theorem rel_d {c g : PyData → PyData → Bool} : dRel c g (.dat d) (.dat e) = if c d e = true then some (.dat (.bool (g d e))) else none := Eq.trans rfl rfl
@[simp] theorem q_eq : dEq (.dat d) (.dat e) = if (okD d && okD e) = true then some (.dat (.bool (PyData.eqv d e))) else none := Eq.trans rfl rfl
@[simp] theorem q_eqO : dEq (.own ds) (.dat e) = if (okD (.list ds) && okD e) = true then some (.dat (.bool (PyData.eqv (.list ds) e))) else none := Eq.trans rfl rfl
@[simp] theorem q_eqOO : dEq (.own ds) (.own es) = if (okD (.list ds) && okD (.list es)) = true then some (.dat (.bool (PyData.eqv (.list ds) (.list es)))) else none := Eq.trans rfl rfl
@[simp] theorem q_eqDO : dEq (.dat d) (.own es) = if (okD d && okD (.list es)) = true then some (.dat (.bool (PyData.eqv d (.list es)))) else none := Eq.trans rfl rfl
@[simp] theorem q_neOO : dNe (.own ds) (.own es) = if (okD (.list ds) && okD (.list es)) = true then some (.dat (.bool (!PyData.eqv (.list ds) (.list es)))) else none := Eq.trans rfl rfl
@[simp] theorem q_ne : dNe (.dat d) (.dat e) = if (okD d && okD e) = true then some (.dat (.bool (!PyData.eqv d e))) else none := Eq.trans rfl rfl
@[simp] theorem q_lt : dLt (.dat (.int i)) (.dat (.int j)) = some (.dat (.bool (decide (i < j)))) := by
  unfold dLt; rw [rel_d, if_pos q_okC_i, PySem.W.dataLt_int]
@[simp] theorem q_gt : dGt (.dat (.int i)) (.dat (.int j)) = some (.dat (.bool (decide (j < i)))) := by
  unfold dGt; rw [rel_d, if_pos q_okC_i, PySem.W.dataLt_int]
@[simp] theorem q_le : dLe (.dat (.int i)) (.dat (.int j)) = some (.dat (.bool (decide (i ≤ j)))) := by
  unfold dLe; rw [rel_d, if_pos q_okC_i, PySem.W.dataLt_int]
  by_cases h : j < i
  · simp [h, Int.not_le.mpr h]
  · simp [h, Int.not_lt.mp h]
@[simp] theorem q_ge : dGe (.dat (.int i)) (.dat (.int j)) = some (.dat (.bool (decide (j ≤ i)))) := by
  unfold dGe; rw [rel_d, if_pos q_okC_i, PySem.W.dataLt_int]
  by_cases h : i < j
  · simp [h, Int.not_le.mpr h]
  · simp [h, Int.not_lt.mp h]
@[simp] theorem q_in_f : dIn false (.dat d) x = (itemsOf x).bind fun ds => if (okD d && PyData.plainAll ds) = true then some (.dat (.bool (ds.any fun z => PyData.eqv z d))) else none := Eq.trans rfl rfl
@[simp] theorem q_in_t : dIn true (.dat d) x = (itemsOf x).bind fun ds => if (okD d && PyData.plainAll ds) = true then some (.dat (.bool (!ds.any fun z => PyData.eqv z d))) else none := Eq.trans rfl rfl
@[simp] theorem q_isN : dIsN (.dat d) = some (.dat (.bool (isNone d))) := Eq.trans rfl rfl
@[simp] theorem q_notN : dNotN (.dat d) = some (.dat (.bool (!isNone d))) := Eq.trans rfl rfl
@[simp] theorem q_ix : dIx x (.dat (.int i)) = (itemsOf x).bind fun ds => (atI ds i).map .dat := Eq.trans rfl rfl
theorem atI_pos {α : Type} {xs : List α} {i : Int} {n : Nat} (h : i = (n : Int)) {a : α} (e : xs[n]? = some a) : atI xs i = some a := by
  subst h
  exact atI_nat e
@[simp] theorem q_at0 {α : Type} {a : α} {r : List α} : atI (a :: r) 0 = some a := atI_nat (j := 0) rfl
@[simp] theorem q_at1 {α : Type} {a b : α} {r : List α} : atI (a :: b :: r) 1 = some b := atI_nat (j := 1) rfl
@[simp] theorem q_at2 {α : Type} {a b c : α} {r : List α} : atI (a :: b :: c :: r) 2 = some c := atI_nat (j := 2) rfl
@[simp] theorem q_len_l : bLen [.dat (.list ds)] = some (.dat (.int ds.length)) := Eq.trans rfl rfl
@[simp] theorem q_len_t : bLen [.dat (.tuple ds)] = some (.dat (.int ds.length)) := Eq.trans rfl rfl
@[simp] theorem q_len_o : bLen [.own ds] = some (.dat (.int ds.length)) := Eq.trans rfl rfl
@[simp] theorem q_len_b : bLen [.bor ds] = some (.dat (.int ds.length)) := Eq.trans rfl rfl
@[simp] theorem q_abs : bAbs [.dat (.int i)] = some (.dat (.int (if i < 0 then -i else i))) := Eq.trans rfl rfl
@[simp] theorem q_int : bInt [.dat (.int i)] = some (.dat (.int i)) := Eq.trans rfl rfl
@[simp] theorem q_tuple_o : bTuple [.own ds] = some (.dat (.tuple ds)) := Eq.trans rfl rfl
@[simp] theorem q_tuple_b : bTuple [.bor ds] = some (.dat (.tuple ds)) := Eq.trans rfl rfl
@[simp] theorem q_tuple_l : bTuple [.dat (.list ds)] = some (.dat (.tuple ds)) := Eq.trans rfl rfl
@[simp] theorem q_tuple_t : bTuple [.dat (.tuple ds)] = some (.dat (.tuple ds)) := Eq.trans rfl rfl
@[simp] theorem q_list : bList [x] = (itemsOf x).map .own := Eq.trans rfl rfl
@[simp] theorem q_sum : bSum [x] = (listOf x).bind fun ds => (intsOf ds).map fun ns => .dat (.int ns.sum) := Eq.trans rfl rfl
@[simp] theorem q_any : bAny [x] = (listOf x).bind fun ds => (boolsOf ds).map fun bs => .dat (.bool (bs.any id)) := Eq.trans rfl rfl
@[simp] theorem q_all : bAll [x] = (listOf x).bind fun ds => (boolsOf ds).map fun bs => .dat (.bool (bs.all id)) := Eq.trans rfl rfl
@[simp] theorem q_sorted : bSorted [x] = (listOf x).bind fun ds => if okSort ds = true then some (.own (sortD ds)) else none := Eq.trans rfl rfl
@[simp] theorem q_isi {t : String} {f : PyData → Bool} (h : isTy t = some f) : bIsi [.dat d, .val (.ty t)] = some (.dat (.bool (f d))) := by
  show (isTy t).bind _ = _
  rw [h]; rfl
@[simp] theorem q_isi_tuple : bIsi [.dat d, .val (.ty "tuple")] = some (.dat (.bool d.isTuple)) := Eq.trans rfl rfl
@[simp] theorem q_isi_bool : bIsi [.dat d, .val (.ty "bool")] = some (.dat (.bool d.isBool)) := Eq.trans rfl rfl
@[simp] theorem q_isi_int : bIsi [.dat d, .val (.ty "int")] = some (.dat (.bool d.isInt)) := Eq.trans rfl rfl
@[simp] theorem q_isi_str : bIsi [.dat d, .val (.ty "str")] = some (.dat (.bool d.isStr)) := Eq.trans rfl rfl
@[simp] theorem q_isi_list : bIsi [.dat d, .val (.ty "list")] = some (.dat (.bool d.isList)) := Eq.trans rfl rfl
@[simp] theorem q_min2 : fn2 dMin2 [.dat (.int i), .dat (.int j)] = some (.dat (.int (if j < i then j else i))) := Eq.trans rfl rfl
@[simp] theorem q_max2 : fn2 dMax2 [.dat (.int i), .dat (.int j)] = some (.dat (.int (if j > i then j else i))) := Eq.trans rfl rfl
@[simp] theorem q_ints {ns : List Int} : intsOf (ns.map PyData.int) = some ns := by
  induction ns with
  | nil => rfl
  | cons n ns ih => simp [intsOf, ih]
theorem ints_map {α : Type} {L : List α} {f : α → Int} : intsOf (L.map fun a => PyData.int (f a)) = some (L.map f) := by
  have : (L.map fun a => PyData.int (f a)) = (L.map f).map PyData.int := by simp
  rw [this, q_ints]
@[simp] theorem q_bools {ns : List Bool} : boolsOf (ns.map PyData.bool) = some ns := by
  induction ns with
  | nil => rfl
  | cons n ns ih => simp [boolsOf, ih]
theorem bools_map {α : Type} {L : List α} {f : α → Bool} : boolsOf (L.map fun a => PyData.bool (f a)) = some (L.map f) := by
  have : (L.map fun a => PyData.bool (f a)) = (L.map f).map PyData.bool := by simp
  rw [this, q_bools]
@[simp] theorem q_rg1 : rgOf [.dat (.int j)] = if okRg j = true then some (rangeD 0 j.toNat) else none := Eq.trans rfl rfl
@[simp] theorem q_rg2 : rgOf [.dat (.int i), .dat (.int j)] = if (okRg i && okRg j) = true then some (rangeD i (j - i).toNat) else none := Eq.trans rfl rfl
theorem okRg_nat {n : Nat} (h : n ≤ 8388608) : okRg (n : Int) = true := by
  unfold okRg
  rw [decide_eq_true_eq]
  omega
theorem rg1_nat {n : Nat} (h : n ≤ 8388608) : rgOf [.dat (.int (n : Int))] = some (rangeD 0 n) := by
  rw [q_rg1, if_pos (okRg_nat h)]
  simp
theorem rangeD_map {n : Nat} : rangeD 0 n = (List.range n).map fun i : Nat => PyData.int i := by
  unfold rangeD
  simp
end
section
variable {τ : Type}
theorem lift_of {F : List Rv → Unit → Option (Rv × Unit)} {rs : List Rv} {s : τ} {d : PyData} (h : F rs () = some (.dat d, ())) (hp : rs.all isPure = true) : liftF F rs s = some (.dat d, s) := by
  unfold liftF
  rw [if_pos hp, h]
  rfl
/-- a comprehension without state -/
theorem lcGo_map {α : Type} {c : α → PyData} {p : α → Bool} {e : α → PyData} {step : PyData → τ → Option (List PyData × τ)} {s : τ} : ∀ (L : List α), (∀ a ∈ L, step (c a) s = some (if p a = true then [e a] else [], s)) → lcGo step (L.map c) s = some ((L.filter p).map e, s)
  | [], _ => rfl
  | a :: L, h => by
    have ih := lcGo_map L fun b hb => h b (List.mem_cons_of_mem _ hb)
    show (step (c a) s).bind _ = _
    rw [h a List.mem_cons_self]
    simp only [Option.bind_some, ih, Option.map_some]
    by_cases hp : p a = true
    · simp [hp]
    · simp [hp]
theorem lcGo_all {α : Type} {c : α → PyData} {e : α → PyData} {step : PyData → τ → Option (List PyData × τ)} {s : τ} (L : List α) (h : ∀ a ∈ L, step (c a) s = some ([e a], s)) : lcGo step (L.map c) s = some (L.map e, s) := by
  have := lcGo_map (p := fun _ => true) (e := e) (c := c) (step := step) (s := s) L fun a ha => by simpa using h a ha
  rw [this, List.filter_eq_self.mpr (fun _ _ => rfl)]
/-- a comprehension that draws -/
theorem lcGo_inv {I : τ → Prop} {J : PyData → Prop} {step : PyData → τ → Option (List PyData × τ)} : ∀ (ds : List PyData) (s : τ), I s → (∀ d ∈ ds, ∀ s, I s → ∃ e s', step d s = some ([e], s') ∧ J e ∧ I s') → ∃ es s', lcGo step ds s = some (es, s') ∧ es.length = ds.length ∧ (∀ e ∈ es, J e) ∧ I s'
  | [], s, hi, _ => ⟨[], s, rfl, rfl, (fun _ h => by cases h), hi⟩
  | d :: ds, s, hi, h => by
    obtain ⟨e, s1, h1, h2, h3⟩ := h d List.mem_cons_self s hi
    obtain ⟨es, s2, k1, k2, k3, k4⟩ := lcGo_inv ds s1 h3 fun d hd => h d (List.mem_cons_of_mem _ hd)
    refine ⟨e :: es, s2, ?_, by simp [k2], fun x hx => ?_, k4⟩
    · show (step d s).bind _ = _
      rw [h1]
      simp [k1]
    · rcases List.mem_cons.mp hx with rfl | hx
      · exact h2
      · exact k3 x hx
/-- a for by its turns -/
theorem forGo_inv {I : Nat → Ev → τ → Prop} {step : PyData → SF τ} : ∀ (ds : List PyData) (k : Nat) (ρ : Ev) (s : τ), I k ρ s → (∀ i d, ds[i]? = some d → ∀ ρ s, I (k + i) ρ s → ∃ ρ' s', step d ρ s = some (.nx ρ', s') ∧ I (k + i + 1) ρ' s') → ∃ ρ' s', forGo step ds ρ s = some (.nx ρ', s') ∧ I (k + ds.length) ρ' s'
  | [], k, ρ, s, hi, _ => ⟨ρ, s, rfl, hi⟩
  | d :: ds, k, ρ, s, hi, h => by
    obtain ⟨ρ1, s1, h1, h2⟩ := h 0 d rfl ρ s hi
    obtain ⟨ρ2, s2, k1, k2⟩ := forGo_inv ds (k + 1) ρ1 s1 h2 fun i d' hd ρ s hI => by
      have := h (i + 1) d' (by simpa using hd) ρ s (by rw [show k + (i + 1) = k + 1 + i by omega]; exact hI)
      rw [show k + 1 + i + 1 = k + (i + 1) + 1 by omega]
      exact this
    refine ⟨ρ2, s2, ?_, by rw [List.length_cons, show k + (ds.length + 1) = k + 1 + ds.length by omega]; exact k2⟩
    show (step d ρ s).bind _ = _
    rw [h1]
    exact k1
/-- a for whose slots are known -/
theorem forGo_fold {α β : Type} {env : α → Ev} {c : β → PyData} {f : α → β → α} {step : PyData → SF τ} {s : τ} : ∀ (L : List β) (a : α), (∀ a, ∀ b ∈ L, step (c b) (env a) s = some (.nx (env (f a b)), s)) → forGo step (L.map c) (env a) s = some (.nx (env (L.foldl f a)), s)
  | [], a, _ => rfl
  | b :: L, a, h => by
    show (step (c b) (env a) s).bind _ = _
    rw [h a b List.mem_cons_self]
    exact forGo_fold L (f a b) fun a' b' hb => h a' b' (List.mem_cons_of_mem _ hb)
end
end DL

set_option Elab.async false
set_option linter.all false
set_option maxRecDepth 100000
set_option maxHeartbeats 4000000
set_option autoImplicit false
/-! DL, part N: what every law draws. -/
namespace DL
open PySem PySem.Spec PyProof.Rows L2
abbrev g_draws : SF Unit := (dSeq (dSet 2 (dLst dNil)) (dSeq (dSet 3 (dC (.dat (.int 7)))) (dSeq (dFor (dRange (dCons (dCall bLen (dCons (dVar 0) dNil)) dNil)) (setSlot 4) (dSeq (dSet 5 (dCall bAbs (dCons (dCall bInt (dCons (dBin dIx (dVar 0) (dVar 4)) dNil)) dNil))) (dSeq (dSet 3 (dBin dMod (dCall bInt (dCons (dBin dAdd (dBin dAdd (dBin dMul (dVar 3) (dC (.dat (.int 48271)))) (dBin dMod (dVar 5) (dC (.dat (.int 1000003))))) (dVar 4)) dNil)) (dC (.dat (.int 65537))))) (dSeq (dSet 6 (dC (.dat (.int 0)))) (dSeq (dIfS (dTest (dBin dGe (dVar 5) (dBin dPow (dC (.dat (.int 10))) (dC (.dat (.int 18)))))) (dSet 6 (dVar 5)) (dSeq (dAppend 2 (dBin dMod (dCall bInt (dCons (dVar 5) dNil)) (dC (.dat (.int 997))))) (dAppend 2 (dBin dMod (dBin dMod (dCall bInt (dCons (dBin dAdd (dBin dMul (dVar 3) (dC (.dat (.int 69621)))) (dC (.dat (.int 5)))) dNil)) (dC (.dat (.int 65521)))) (dC (.dat (.int 997))))))) (dFor (dRange (dCons (dC (.dat (.int 60))) dNil)) (setSlot 7) (dIfS (dTest (dBin dGt (dVar 6) (dC (.dat (.int 0))))) (dSeq (dAppend 2 (dBin dMod (dCall bInt (dCons (dVar 6) dNil)) (dC (.dat (.int 997))))) (dSet 6 (dBin dFdiv (dVar 6) (dC (.dat (.int 997)))))) dSkip))))))) (dSeq (dFor (dRange (dCons (dVar 1) dNil)) (setSlot 4) (dSeq (dSet 3 (dBin dMod (dCall bInt (dCons (dBin dAdd (dBin dAdd (dBin dMul (dVar 3) (dC (.dat (.int 16807)))) (dVar 4)) (dC (.dat (.int 1)))) dNil)) (dC (.dat (.int 65537))))) (dAppend 2 (dBin dMod (dCall bInt (dCons (dVar 3) dNil)) (dC (.dat (.int 997))))))) (dRet (dSl (dVar 2) dNo (dPart (dVar 1))))))))
def F_draws : List Rv → Unit → Option (Rv × Unit) := dFunc 2 8 g_draws
abbrev g_next : SF WSt := (dSeq (dWinc 0) (dSeq (dIfS (dTest (dBin dGt (dWat 0) (dCall bLen (dCons (dWdraws 0) dNil)))) (dRet (dC (.dat (.int 0)))) dSkip) (dRet (dBin dMod (dCall bInt (dCons (dBin dIx (dWdraws 0) (dBin dSub (dWat 0) (dC (.dat (.int 1))))) dNil)) (dVar 1)))))
def F_next : List Rv → WSt → Option (Rv × WSt) := dFunc 2 2 g_next
abbrev g_pick : SF WSt := (dRet (dBin dIx (dVar 1) (dFn F_next (dCons (dVar 0) (dCons (dCall bLen (dCons (dVar 1) dNil)) dNil)))))
def F_pick : List Rv → WSt → Option (Rv × WSt) := dFunc 2 2 g_pick
def okDr (ds : List Int) : Prop := ∀ d ∈ ds, 0 ≤ d ∧ d < 997
theorem okDr_snoc {ds : List Int} {x : Int} (h : okDr ds) : okDr (ds ++ [x % 997]) := fun d hd => by
  rcases List.mem_append.mp hd with hd | hd
  · exact h d hd
  · rw [List.mem_singleton] at hd
    subst hd
    omega
theorem absI {x : Int} : 0 ≤ (if x < 0 then -x else x) := by split <;> omega
/-- the inner turns: the rest in digits -/
theorem draws_in {a b c d e g0 : Option Rv} {mx : Int} {ds0 : List Int} {rest : Int} (h : okDr ds0) (hm : ds0.length < 10000) :
    ∃ ρ' s', forGo (forStep (setSlot 7) (dIfS (dTest (dBin dGt (dVar 6) (dC (.dat (.int 0))))) (dSeq (dAppend 2 (dBin dMod (dCall bInt (dCons (dVar 6) dNil)) (dC (.dat (.int 997))))) (dSet 6 (dBin dFdiv (dVar 6) (dC (.dat (.int 997)))))) dSkip))
      (rangeD 0 60) [a, b, some (.own (ds0.map .int)), c, d, e, some (.dat (.int rest)), g0] () = some (.nx ρ', s') ∧
      ∃ ds g r', ρ' = [a, b, some (.own (ds.map .int)), c, d, e, some (.dat (.int r')), g] ∧ okDr ds ∧ ds.length ≤ ds0.length + 60 := by
  have turn : ∀ i x, (rangeD 0 60)[i]? = some x → ∀ ρ (s : Unit), (∃ ds g r', ρ = [a, b, some (.own (ds.map .int)), c, d, e, some (.dat (.int r')), g] ∧ okDr ds ∧ ds.length ≤ ds0.length + (0 + i)) →
      ∃ ρ' s', forStep (setSlot 7) (dIfS (dTest (dBin dGt (dVar 6) (dC (.dat (.int 0))))) (dSeq (dAppend 2 (dBin dMod (dCall bInt (dCons (dVar 6) dNil)) (dC (.dat (.int 997))))) (dSet 6 (dBin dFdiv (dVar 6) (dC (.dat (.int 997)))))) dSkip) x ρ s = some (.nx ρ', s') ∧
        ∃ ds g r', ρ' = [a, b, some (.own (ds.map .int)), c, d, e, some (.dat (.int r')), g] ∧ okDr ds ∧ ds.length ≤ ds0.length + (0 + i + 1) := by
    rintro i x hx ρ s ⟨ds, g, r', rfl, h1, h2⟩
    have hi : i < 60 := by
      have := (List.getElem?_eq_some_iff.mp hx).1
      rw [rangeD_len] at this
      exact this
    have hl : ds.length < 16777216 := by omega
    by_cases hr : 0 < r'
    · refine ⟨[a, b, some (.own ((ds ++ [r' % 997]).map .int)), c, d, e, some (.dat (.int (r' / 997))), some (.dat x)], s, ?_, ds ++ [r' % 997], _, _, rfl, okDr_snoc h1, by rw [List.length_append, List.length_singleton]; omega⟩
      simp [hr, hl]
    · refine ⟨[a, b, some (.own (ds.map .int)), c, d, e, some (.dat (.int r')), some (.dat x)], s, ?_, ds, _, _, rfl, h1, by omega⟩
      simp [hr]
  obtain ⟨ρ', s', h1, ds, g, r', h2, h3, h4⟩ := forGo_inv (I := fun k ρ (_ : Unit) => ∃ ds g r', ρ = [a, b, some (.own (ds.map .int)), c, d, e, some (.dat (.int r')), g] ∧ okDr ds ∧ ds.length ≤ ds0.length + k) (rangeD 0 60) 0 _ () ⟨ds0, g0, rest, rfl, h, by omega⟩ turn
  refine ⟨ρ', s', h1, ds, g, r', h2, h3, ?_⟩
  rw [rangeD_len] at h4
  omega
theorem range_int {lo : Int} {n i : Nat} {d : PyData} (h : (rangeD lo n)[i]? = some d) : i < n ∧ d = .int (lo + i) := by
  unfold rangeD at h
  rw [List.getElem?_map] at h
  cases e : (List.range n)[i]? with
  | none => rw [e] at h; cases h
  | some j =>
    rw [e] at h
    obtain ⟨h1, h2⟩ := List.getElem?_eq_some_iff.mp e
    rw [List.length_range] at h1
    rw [List.getElem_range] at h2
    subst h2
    cases h
    exact ⟨h1, rfl⟩
theorem range_int0 {n i : Nat} {d : PyData} (h : (rangeD 0 n)[i]? = some d) : i < n ∧ d = .int i := by
  obtain ⟨h1, h2⟩ := range_int h
  rw [Int.zero_add] at h2
  exact ⟨h1, h2⟩
theorem seq_nx {τ : Type} {g h : SF τ} {ρ ρ1 : Ev} {s s1 : τ} (e : g ρ s = some (.nx ρ1, s1)) : dSeq g h ρ s = h ρ1 s1 := by
  rw [q_seq, e]
  rfl
theorem seq_rt {τ : Type} {g h : SF τ} {ρ : Ev} {s s1 : τ} {r : Rv} (e : g ρ s = some (.rt r, s1)) : dSeq g h ρ s = some (.rt r, s1) := by
  rw [q_seq, e]
  rfl
theorem func_rt {τ : Type} {np n : Nat} {g : SF τ} {rs : List Rv} {s s1 : τ} {d : PyData} (hl : rs.length = np) (e : g (rs.map some ++ List.replicate (n - rs.length) none) s = some (.rt (.dat d), s1)) : dFunc np n g rs s = some (.dat d, s1) := by
  unfold dFunc
  rw [if_pos hl, e]
  rfl
theorem pow18 : dPow (.dat (.int 10)) (.dat (.int 18)) = some (.dat (.int 1000000000000000000)) := by rfl
theorem rg60 : rgOf [.dat (.int 60)] = some (rangeD 0 60) := rfl
theorem draws_t1 (M : Nat) (ns : List Int) (h63 : ns.length ≤ 63) : ∀ i x, (rangeD 0 ns.length)[i]? = some x → ∀ ρ (s : Unit), (∃ ds mx x4 x5 x6 x7, ρ = [some (.dat (.list (ns.map .int))), some (.dat (.int M)), some (.own (ds.map .int)), some (.dat (.int mx)), x4, x5, x6, x7] ∧ okDr ds ∧ ds.length ≤ 62 * (0 + i) ∧ 0 ≤ mx ∧ mx < 65537) →
      ∃ ρ' s', forStep (setSlot 4) (dSeq (dSet 5 (dCall bAbs (dCons (dCall bInt (dCons (dBin dIx (dVar 0) (dVar 4)) dNil)) dNil))) (dSeq (dSet 3 (dBin dMod (dCall bInt (dCons (dBin dAdd (dBin dAdd (dBin dMul (dVar 3) (dC (.dat (.int 48271)))) (dBin dMod (dVar 5) (dC (.dat (.int 1000003))))) (dVar 4)) dNil)) (dC (.dat (.int 65537))))) (dSeq (dSet 6 (dC (.dat (.int 0)))) (dSeq (dIfS (dTest (dBin dGe (dVar 5) (dBin dPow (dC (.dat (.int 10))) (dC (.dat (.int 18)))))) (dSet 6 (dVar 5)) (dSeq (dAppend 2 (dBin dMod (dCall bInt (dCons (dVar 5) dNil)) (dC (.dat (.int 997))))) (dAppend 2 (dBin dMod (dBin dMod (dCall bInt (dCons (dBin dAdd (dBin dMul (dVar 3) (dC (.dat (.int 69621)))) (dC (.dat (.int 5)))) dNil)) (dC (.dat (.int 65521)))) (dC (.dat (.int 997))))))) (dFor (dRange (dCons (dC (.dat (.int 60))) dNil)) (setSlot 7) (dIfS (dTest (dBin dGt (dVar 6) (dC (.dat (.int 0))))) (dSeq (dAppend 2 (dBin dMod (dCall bInt (dCons (dVar 6) dNil)) (dC (.dat (.int 997))))) (dSet 6 (dBin dFdiv (dVar 6) (dC (.dat (.int 997)))))) dSkip)))))) x ρ s = some (.nx ρ', s') ∧
        ∃ ds mx x4 x5 x6 x7, ρ' = [some (.dat (.list (ns.map .int))), some (.dat (.int M)), some (.own (ds.map .int)), some (.dat (.int mx)), x4, x5, x6, x7] ∧ okDr ds ∧ ds.length ≤ 62 * (0 + i + 1) ∧ 0 ≤ mx ∧ mx < 65537 := by
    rintro i x hx ρ s ⟨ds, mx, x4, x5, x6, x7, rfl, h1, h2, h3, h4⟩
    obtain ⟨hi, rfl⟩ := range_int0 hx
    have hl : ds.length < 10000 := by omega
    have hl1 : ds.length < 16777216 := by omega
    have hl2 : ds.length + 1 < 16777216 := by omega
    have hn : atI (ns.map PyData.int) (i : Int) = some (.int ns[i]) := by
      refine atI_pos (n := i) (by omega) ?_
      rw [List.getElem?_map, List.getElem?_eq_getElem hi]
      rfl
    generalize hce : (if ns[i] < 0 then -ns[i] else ns[i]) = cell
    generalize hme : (mx * 48271 + cell % 1000003 + (i : Int)) % 65537 = m2
    have hm1 : mx.natAbs < 18446744073709551616 := by omega
    have hm2 : m2.natAbs < 18446744073709551616 := by omega
    have hm3 : 0 ≤ m2 ∧ m2 < 65537 := by omega
    have a1 : dSet 5 (dCall bAbs (dCons (dCall bInt (dCons (dBin dIx (dVar 0) (dVar 4)) dNil)) dNil)) [some (.dat (.list (ns.map .int))), some (.dat (.int M)), some (.own (ds.map .int)), some (.dat (.int mx)), some (.dat (.int i)), x5, x6, x7] s = some (.nx [some (.dat (.list (ns.map .int))), some (.dat (.int M)), some (.own (ds.map .int)), some (.dat (.int mx)), some (.dat (.int i)), some (.dat (.int cell)), x6, x7], s) := by
      simp [hn, hce]
    have a2 : dSet 3 (dBin dMod (dCall bInt (dCons (dBin dAdd (dBin dAdd (dBin dMul (dVar 3) (dC (.dat (.int 48271)))) (dBin dMod (dVar 5) (dC (.dat (.int 1000003))))) (dVar 4)) dNil)) (dC (.dat (.int 65537)))) [some (.dat (.list (ns.map .int))), some (.dat (.int M)), some (.own (ds.map .int)), some (.dat (.int mx)), some (.dat (.int i)), some (.dat (.int cell)), x6, x7] s
        = some (.nx [some (.dat (.list (ns.map .int))), some (.dat (.int M)), some (.own (ds.map .int)), some (.dat (.int m2)), some (.dat (.int i)), some (.dat (.int cell)), x6, x7], s) := by
      simp [hme, hm1]
    have a3 : dSet 6 (dC (.dat (.int 0))) [some (.dat (.list (ns.map .int))), some (.dat (.int M)), some (.own (ds.map .int)), some (.dat (.int m2)), some (.dat (.int i)), some (.dat (.int cell)), x6, x7] s
        = some (.nx [some (.dat (.list (ns.map .int))), some (.dat (.int M)), some (.own (ds.map .int)), some (.dat (.int m2)), some (.dat (.int i)), some (.dat (.int cell)), some (.dat (.int 0)), x7], s) := by
      simp
    have a0 : setSlot 4 (.dat (.int i)) [some (.dat (.list (ns.map .int))), some (.dat (.int M)), some (.own (ds.map .int)), some (.dat (.int mx)), x4, x5, x6, x7] = some [some (.dat (.list (ns.map .int))), some (.dat (.int M)), some (.own (ds.map .int)), some (.dat (.int mx)), some (.dat (.int i)), x5, x6, x7] := rfl
    have a5 : ∀ ρ (s : Unit), dRange (dCons (dC (.dat (.int 60))) dNil) ρ s = some (rangeD 0 60, s) := fun ρ s => rfl
    by_cases hb : (1000000000000000000 : Int) ≤ cell
    · obtain ⟨ρ', s', e1, ds', g, r', rfl, e3, e4⟩ := draws_in (a := some (.dat (.list (ns.map .int)))) (b := some (.dat (.int M))) (c := some (.dat (.int m2))) (d := some (.dat (.int i))) (e := some (.dat (.int cell))) (mx := 0) (rest := cell) (g0 := x7) h1 hl
      refine ⟨_, s', ?_, ds', m2, some (.dat (.int i)), some (.dat (.int cell)), some (.dat (.int r')), g, rfl, e3, by omega, hm3⟩
      have a4 : dIfS (dTest (dBin dGe (dVar 5) (dBin dPow (dC (.dat (.int 10))) (dC (.dat (.int 18)))))) (dSet 6 (dVar 5)) (dSeq (dAppend 2 (dBin dMod (dCall bInt (dCons (dVar 5) dNil)) (dC (.dat (.int 997))))) (dAppend 2 (dBin dMod (dBin dMod (dCall bInt (dCons (dBin dAdd (dBin dMul (dVar 3) (dC (.dat (.int 69621)))) (dC (.dat (.int 5)))) dNil)) (dC (.dat (.int 65521)))) (dC (.dat (.int 997))))))
          [some (.dat (.list (ns.map .int))), some (.dat (.int M)), some (.own (ds.map .int)), some (.dat (.int m2)), some (.dat (.int i)), some (.dat (.int cell)), some (.dat (.int 0)), x7] s
          = some (.nx [some (.dat (.list (ns.map .int))), some (.dat (.int M)), some (.own (ds.map .int)), some (.dat (.int m2)), some (.dat (.int i)), some (.dat (.int cell)), some (.dat (.int cell)), x7], s) := by
        simp [-q_pow, pow18, hb]
      rw [q_forStep, a0, Option.bind_some, q_seq, a1, Option.bind_some]
      dsimp only
      rw [q_seq, a2, Option.bind_some]
      dsimp only
      rw [q_seq, a3, Option.bind_some]
      dsimp only
      rw [q_seq, a4, Option.bind_some]
      dsimp only
      rw [q_for, a5, Option.bind_some]
      exact e1
    · have h1' : okDr (ds ++ [cell % 997] ++ [(m2 * 69621 + 5) % 65521 % 997]) := okDr_snoc (okDr_snoc h1)
      have hl' : (ds ++ [cell % 997] ++ [(m2 * 69621 + 5) % 65521 % 997]).length = ds.length + 2 := by simp
      obtain ⟨ρ', s', e1, ds', g, r', rfl, e3, e4⟩ := draws_in (a := some (.dat (.list (ns.map .int)))) (b := some (.dat (.int M))) (c := some (.dat (.int m2))) (d := some (.dat (.int i))) (e := some (.dat (.int cell))) (mx := 0) (rest := 0) (g0 := x7) h1' (by omega)
      refine ⟨_, s', ?_, ds', m2, some (.dat (.int i)), some (.dat (.int cell)), some (.dat (.int r')), g, rfl, e3, by omega, hm3⟩
      have a4 : dIfS (dTest (dBin dGe (dVar 5) (dBin dPow (dC (.dat (.int 10))) (dC (.dat (.int 18)))))) (dSet 6 (dVar 5)) (dSeq (dAppend 2 (dBin dMod (dCall bInt (dCons (dVar 5) dNil)) (dC (.dat (.int 997))))) (dAppend 2 (dBin dMod (dBin dMod (dCall bInt (dCons (dBin dAdd (dBin dMul (dVar 3) (dC (.dat (.int 69621)))) (dC (.dat (.int 5)))) dNil)) (dC (.dat (.int 65521)))) (dC (.dat (.int 997))))))
          [some (.dat (.list (ns.map .int))), some (.dat (.int M)), some (.own (ds.map .int)), some (.dat (.int m2)), some (.dat (.int i)), some (.dat (.int cell)), some (.dat (.int 0)), x7] s
          = some (.nx [some (.dat (.list (ns.map .int))), some (.dat (.int M)), some (.own ((ds ++ [cell % 997] ++ [(m2 * 69621 + 5) % 65521 % 997]).map .int)), some (.dat (.int m2)), some (.dat (.int i)), some (.dat (.int cell)), some (.dat (.int 0)), x7], s) := by
        simp [-q_pow, pow18, hb, hl1, hl2, hm2]
      rw [q_forStep, a0, Option.bind_some, q_seq, a1, Option.bind_some]
      dsimp only
      rw [q_seq, a2, Option.bind_some]
      dsimp only
      rw [q_seq, a3, Option.bind_some]
      dsimp only
      rw [q_seq, a4, Option.bind_some]
      dsimp only
      rw [q_for, a5, Option.bind_some]
      exact e1

theorem draws_any (M : Nat) (hM : M ≤ 600) (ns : List Int) (h63 : ns.length ≤ 63) : ∃ ds : List Int, okDr ds ∧ F_draws [.dat (.list (ns.map .int)), .dat (.int M)] () = some (.dat (.list (ds.map .int)), ()) := by
  have rg1 : rgOf [.dat (.int (ns.length : Int))] = some (rangeD 0 ns.length) := rg1_nat (by omega)
  have rg2 : rgOf [.dat (.int (M : Int))] = some (rangeD 0 M) := rg1_nat (by omega)
  obtain ⟨ρ1, s1, e1, ds1, m1, x4, x5, x6, x7, rfl, i1, i2, i3, i4⟩ := forGo_inv (I := fun k ρ (_ : Unit) => ∃ ds mx x4 x5 x6 x7, ρ = [some (.dat (.list (ns.map .int))), some (.dat (.int M)), some (.own (ds.map .int)), some (.dat (.int mx)), x4, x5, x6, x7] ∧ okDr ds ∧ ds.length ≤ 62 * k ∧ 0 ≤ mx ∧ mx < 65537) (rangeD 0 ns.length) 0
    [some (.dat (.list (ns.map .int))), some (.dat (.int M)), some (.own (([] : List Int).map .int)), some (.dat (.int 7)), none, none, none, none] ()
    ⟨[], 7, none, none, none, none, rfl, (fun _ h => by cases h), (by show 0 ≤ _; omega), by omega, by omega⟩ (draws_t1 M ns h63)
  rw [rangeD_len] at i2
  have t2 : ∀ i x, (rangeD 0 M)[i]? = some x → ∀ ρ (s : Unit), (∃ ds mx x4, ρ = [some (.dat (.list (ns.map .int))), some (.dat (.int M)), some (.own (ds.map .int)), some (.dat (.int mx)), x4, x5, x6, x7] ∧ okDr ds ∧ ds.length ≤ 62 * 63 + (0 + i) ∧ 0 ≤ mx ∧ mx < 65537) →
      ∃ ρ' s', forStep (setSlot 4) (dSeq (dSet 3 (dBin dMod (dCall bInt (dCons (dBin dAdd (dBin dAdd (dBin dMul (dVar 3) (dC (.dat (.int 16807)))) (dVar 4)) (dC (.dat (.int 1)))) dNil)) (dC (.dat (.int 65537))))) (dAppend 2 (dBin dMod (dCall bInt (dCons (dVar 3) dNil)) (dC (.dat (.int 997)))))) x ρ s = some (.nx ρ', s') ∧
        ∃ ds mx x4, ρ' = [some (.dat (.list (ns.map .int))), some (.dat (.int M)), some (.own (ds.map .int)), some (.dat (.int mx)), x4, x5, x6, x7] ∧ okDr ds ∧ ds.length ≤ 62 * 63 + (0 + i + 1) ∧ 0 ≤ mx ∧ mx < 65537 := by
    rintro i x hx ρ s ⟨ds, mx, x4, rfl, h1, h2, h3, h4⟩
    obtain ⟨hi, rfl⟩ := range_int0 hx
    have hl1 : ds.length < 16777216 := by omega
    have hm1 : mx.natAbs < 18446744073709551616 := by omega
    generalize hme : (mx * 16807 + (i : Int) + 1) % 65537 = m2
    refine ⟨[some (.dat (.list (ns.map .int))), some (.dat (.int M)), some (.own ((ds ++ [m2 % 997]).map .int)), some (.dat (.int m2)), some (.dat (.int i)), x5, x6, x7], s, ?_, ds ++ [m2 % 997], m2, _, rfl, okDr_snoc h1, by rw [List.length_append, List.length_singleton]; omega, by omega, by omega⟩
    simp [hme, hm1, hl1]
  obtain ⟨ρ2, s2, e2, ds2, m2, y4, rfl, j1, j2, j3, j4⟩ := forGo_inv (I := fun k ρ (_ : Unit) => ∃ ds mx x4, ρ = [some (.dat (.list (ns.map .int))), some (.dat (.int M)), some (.own (ds.map .int)), some (.dat (.int mx)), x4, x5, x6, x7] ∧ okDr ds ∧ ds.length ≤ 62 * 63 + k ∧ 0 ≤ mx ∧ mx < 65537) (rangeD 0 M) 0
    [some (.dat (.list (ns.map .int))), some (.dat (.int M)), some (.own (ds1.map .int)), some (.dat (.int m1)), x4, x5, x6, x7] ()
    ⟨ds1, m1, x4, rfl, i1, by omega, i3, i4⟩ t2
  refine ⟨(ds2.take M), fun d hd => j1 d (List.mem_of_mem_take hd), ?_⟩
  have hcut : cutD (ds2.map PyData.int) none (some (M : Int)) = (ds2.take M).map PyData.int := by
    unfold cutD
    rw [HT.sIx_none, show HT.sIx (ds2.map PyData.int).length (ds2.map PyData.int).length (some (M : Int)) = min M (ds2.map PyData.int).length from HT.sIx_nat _ _ M]
    simp
  refine func_rt rfl ?_
  show g_draws [some (.dat (.list (ns.map .int))), some (.dat (.int M)), none, none, none, none, none, none] () = _
  have b1 : dSet 2 (dLst dNil) [some (.dat (.list (ns.map .int))), some (.dat (.int M)), none, none, none, none, none, none] () = some (.nx [some (.dat (.list (ns.map .int))), some (.dat (.int M)), some (.own (([] : List Int).map .int)), none, none, none, none, none], ()) := by simp
  have b2 : dSet 3 (dC (.dat (.int 7))) [some (.dat (.list (ns.map .int))), some (.dat (.int M)), some (.own (([] : List Int).map .int)), none, none, none, none, none] () = some (.nx [some (.dat (.list (ns.map .int))), some (.dat (.int M)), some (.own (([] : List Int).map .int)), some (.dat (.int 7)), none, none, none, none], ()) := by simp
  have b3 : dRange (dCons (dCall bLen (dCons (dVar 0) dNil)) dNil) [some (.dat (.list (ns.map .int))), some (.dat (.int M)), some (.own (([] : List Int).map .int)), some (.dat (.int 7)), none, none, none, none] () = some (rangeD 0 ns.length, ()) := by
    simp [rg1, -q_rg1]
  have b4 : ∀ ρ (s : Unit), ρ[1]? = some (some (.dat (.int M))) → dRange (dCons (dVar 1) dNil) ρ s = some (rangeD 0 M, s) := fun ρ s h => by
    simp [h, rg2, -q_rg1]
  refine (seq_nx b1).trans ((seq_nx b2).trans ((seq_nx (by rw [q_for, b3, Option.bind_some]; exact e1)).trans ((seq_nx (by rw [q_for, b4 _ _ rfl, Option.bind_some]; exact e2)).trans ?_)))
  simp [dCut, hcut]
theorem draws_ok (ns : List Int) (h63 : ns.length ≤ 63) : ∃ ds : List Int, okDr ds ∧ F_draws [.dat (.list (ns.map .int)), .dat (.int 400)] () = some (.dat (.list (ds.map .int)), ()) := draws_any 400 (by omega) ns h63
theorem draws_500 (ns : List Int) (h63 : ns.length ≤ 63) : ∃ ds : List Int, okDr ds ∧ F_draws [.dat (.list (ns.map .int)), .dat (.int 500)] () = some (.dat (.list (ds.map .int)), ()) := draws_any 500 (by omega) ns h63
def OkW (s : WSt) : Prop := okDr s.1 ∧ 0 ≤ s.2
theorem next_ok {s : WSt} {m : Int} (hm : 0 < m) (h : OkW s) : ∃ r s', F_next [.tok, .dat (.int m)] s = some (.dat (.int r), s') ∧ 0 ≤ r ∧ r < m ∧ OkW s' := by
  obtain ⟨ds, t⟩ := s
  obtain ⟨h1, h2⟩ := h
  have h2 : 0 ≤ t := h2
  have h1 : okDr ds := h1
  have c1 : dWinc 0 [some .tok, some (.dat (.int m))] (ds, t) = some (.nx [some .tok, some (.dat (.int m))], (ds, t + 1)) := by simp
  by_cases hb : (ds.length : Int) < t + 1
  · refine ⟨0, (ds, t + 1), ?_, by omega, by omega, h1, (by show 0 ≤ t + 1; omega)⟩
    refine func_rt rfl ((seq_nx c1).trans (seq_rt ?_))
    simp [hb]
  · have hi : t.toNat < ds.length := by omega
    have hg : atI (ds.map PyData.int) t = some (.int ds[t.toNat]) := by
      refine atI_pos (n := t.toNat) (by omega) ?_
      rw [List.getElem?_map, List.getElem?_eq_getElem hi]
      rfl
    refine ⟨ds[t.toNat] % m, (ds, t + 1), ?_, Int.emod_nonneg _ (by omega), Int.emod_lt_of_pos _ hm, h1, (by show 0 ≤ t + 1; omega)⟩
    have c2 : dIfS (dTest (dBin dGt (dWat 0) (dCall bLen (dCons (dWdraws 0) dNil)))) (dRet (dC (.dat (.int 0)))) dSkip [some .tok, some (.dat (.int m))] (ds, t + 1) = some (.nx [some .tok, some (.dat (.int m))], (ds, t + 1)) := by
      simp [hb]
    refine func_rt rfl ((seq_nx c1).trans ((seq_nx c2).trans ?_))
    have e : t + 1 - 1 = t := by omega
    simp [e, hg, hm]
theorem pick_of {s : WSt} {x : PyData} {rows : List PyData} (h : OkW s) (hx : x = .list rows ∨ x = .tuple rows) (hl : 0 < rows.length) : ∃ d s', F_pick [.tok, .dat x] s = some (.dat d, s') ∧ d ∈ rows ∧ OkW s' := by
  obtain ⟨r, s', e, h1, h2, h3⟩ := next_ok (m := (rows.length : Int)) (by omega) h
  have hi : r.toNat < rows.length := by omega
  have hg : atI rows r = some rows[r.toNat] := atI_pos (n := r.toNat) (by omega) (List.getElem?_eq_getElem hi)
  refine ⟨rows[r.toNat], s', func_rt rfl ?_, List.getElem_mem _, h3⟩
  rcases hx with rfl | rfl <;> simp [e, hg]
end DL

set_option Elab.async false
set_option linter.all false
set_option maxRecDepth 100000
set_option maxHeartbeats 4000000
set_option autoImplicit false
/-! DL, part P: rows of ints, rows of rows; data that are the same. -/
namespace DL
open PySem PySem.Spec PyProof.Rows L2
@[simp] theorem q_okD_s {x : Str} : okD (.str x) = true := by unfold okD; simp [PyData.plain, PyData.depth]
@[simp] theorem q_eqv_s {x y : Str} : PyData.eqv (.str x) (.str y) = decide (x = y) := by
  rw [PyData.eqv]
  by_cases h : x = y <;> simp [h]
theorem plainAll_of {ds : List PyData} (h : ∀ d ∈ ds, d.plain = true) : PyData.plainAll ds = true := by
  induction ds with
  | nil => rfl
  | cons d r ih =>
    rw [PyData.plainAll, h d List.mem_cons_self, ih fun x hx => h x (List.mem_cons_of_mem _ hx)]
    rfl
theorem depthAll_of {n : Nat} {ds : List PyData} (h : ∀ d ∈ ds, d.depth ≤ n) : PyData.depthAll ds ≤ n := by
  induction ds with
  | nil => simp [PyData.depthAll]
  | cons d r ih =>
    rw [PyData.depthAll]
    exact Nat.max_le.mpr ⟨h d List.mem_cons_self, ih fun x hx => h x (List.mem_cons_of_mem _ hx)⟩
theorem okD_tuple {ds : List PyData} (h : ∀ d ∈ ds, d.plain = true ∧ d.depth ≤ 63) : okD (.tuple ds) = true := by
  rw [okD_iff]
  refine ⟨by rw [PyData.plain]; exact plainAll_of fun d hd => (h d hd).1, ?_⟩
  rw [PyData.depth]
  have := depthAll_of fun d hd => (h d hd).2
  omega
theorem okD_list {ds : List PyData} (h : ∀ d ∈ ds, d.plain = true ∧ d.depth ≤ 63) : okD (.list ds) = true := by
  rw [okD_iff]
  refine ⟨by rw [PyData.plain]; exact plainAll_of fun d hd => (h d hd).1, ?_⟩
  rw [PyData.depth]
  have := depthAll_of fun d hd => (h d hd).2
  omega
/-- a row of small numbers, as a tuple -/
def tup (s : List Nat) : PyData := .tuple (s.map fun p : Nat => .int p)
theorem pd_int {i : Int} : (PyData.int i).plain = true ∧ (PyData.int i).depth ≤ 0 := by simp [PyData.plain, PyData.depth]
theorem pd_tup {s : List Nat} : (tup s).plain = true ∧ (tup s).depth ≤ 1 := by
  unfold tup
  refine ⟨?_, ?_⟩
  · rw [PyData.plain]
    refine plainAll_of fun d hd => ?_
    obtain ⟨p, _, rfl⟩ := List.mem_map.mp hd
    exact pd_int.1
  · rw [PyData.depth]
    have : PyData.depthAll (s.map fun p : Nat => PyData.int p) ≤ 0 := depthAll_of fun d hd => by
      obtain ⟨p, _, rfl⟩ := List.mem_map.mp hd
      exact pd_int.2
    omega
theorem plain_ints {s : List Nat} : PyData.plainAll (s.map fun p : Nat => PyData.int p) = true := plainAll_of fun d hd => by
  obtain ⟨p, _, rfl⟩ := List.mem_map.mp hd
  exact pd_int.1
theorem plain_tups {L : List (List Nat)} : PyData.plainAll (L.map tup) = true := plainAll_of fun d hd => by
  obtain ⟨p, _, rfl⟩ := List.mem_map.mp hd
  exact pd_tup.1
@[simp] theorem okD_tup {s : List Nat} : okD (tup s) = true := by
  rw [okD_iff]
  exact ⟨pd_tup.1, Nat.le_trans pd_tup.2 (by decide)⟩
@[simp] theorem okD_lints {s : List Nat} : okD (.list (s.map fun p : Nat => PyData.int p)) = true := okD_list fun d hd => by
  obtain ⟨p, _, rfl⟩ := List.mem_map.mp hd
  exact ⟨pd_int.1, Nat.le_trans pd_int.2 (by decide)⟩
@[simp] theorem okD_ltups {L : List (List Nat)} : okD (.list (L.map tup)) = true := okD_list fun d hd => by
  obtain ⟨p, _, rfl⟩ := List.mem_map.mp hd
  exact ⟨pd_tup.1, Nat.le_trans pd_tup.2 (by decide)⟩
theorem eqvs_ints : ∀ (s t : List Nat), PyData.eqvAll (s.map fun p : Nat => PyData.int p) (t.map fun p : Nat => PyData.int p) = decide (s = t)
  | [], [] => by simp
  | [], _ :: _ => by simp
  | _ :: _, [] => by simp
  | a :: s, b :: t => by
    rw [List.map_cons, List.map_cons, q_eqvs_cc, eqvs_ints s t, q_eqv_i]
    by_cases h1 : a = b
    · subst h1
      by_cases h2 : s = t <;> simp [h2]
    · have : ¬ (a : Int) = b := by omega
      simp [h1, this]
@[simp] theorem eqv_tup {s t : List Nat} : PyData.eqv (tup s) (tup t) = decide (s = t) := by
  unfold tup
  rw [q_eqv_t, eqvs_ints]
theorem eqvs_nil {α : Type} {L : List α} {f : α → PyData} : PyData.eqvAll (L.map f) [] = L.isEmpty := by
  cases L <;> simp
@[simp] theorem items_tup {s : List Nat} : itemsOf (.dat (tup s)) = some (s.map fun p : Nat => PyData.int p) := rfl
@[simp] theorem ditems_tup {s : List Nat} : datItems (.dat (tup s)) = some (s.map fun p : Nat => PyData.int p) := rfl
def mem (p : Nat) (s : List Nat) : Bool := s.any fun q => decide (q = p)
theorem any_ints {s : List Nat} {p : Nat} : ((s.map fun p : Nat => PyData.int p).any fun z => PyData.eqv z (.int (p : Int))) = mem p s := by
  rw [List.any_map]
  unfold mem
  congr 1
  funext q
  simp only [Function.comp, q_eqv_i]
  by_cases h : q = p
  · simp [h]
  · have : ¬ (q : Int) = p := by omega
    simp [h, this]
theorem mem_iff {p : Nat} {s : List Nat} : mem p s = true ↔ p ∈ s := by
  unfold mem
  rw [List.any_eq_true]
  exact ⟨fun ⟨q, h, e⟩ => by rw [← of_decide_eq_true e]; exact h, fun h => ⟨p, h, by simp⟩⟩
theorem in_f {s : List Nat} {p : Nat} : dIn false (.dat (.int (p : Int))) (.dat (tup s)) = some (.dat (.bool (mem p s))) := by
  rw [q_in_f, items_tup, Option.bind_some, plain_ints, q_okD_i, Bool.and_self, if_pos rfl, any_ints]
theorem in_t {s : List Nat} {p : Nat} : dIn true (.dat (.int (p : Int))) (.dat (tup s)) = some (.dat (.bool (!mem p s))) := by
  rw [q_in_t, items_tup, Option.bind_some, plain_ints, q_okD_i, Bool.and_self, if_pos rfl, any_ints]
/-- sorting rows that are not empty -/
theorem alike_ints : ∀ (s t : List Nat), PySem.W.alikeAll (s.map fun p : Nat => PyData.int p) (t.map fun p : Nat => PyData.int p) = true
  | [], _ => by simp [PySem.W.alikeAll]
  | _ :: _, [] => by simp [PySem.W.alikeAll]
  | a :: s, b :: t => by
    rw [List.map_cons, List.map_cons, PySem.W.alikeAll, alike_ints s t, PySem.W.alike]
    rfl
theorem alike_tup {s t : List Nat} : PySem.W.alike (tup s) (tup t) = true := by
  unfold tup
  rw [PySem.W.alike]
  exact alike_ints s t
theorem okSort_tups {L : List (List Nat)} (h : ∀ s ∈ L, s ≠ []) : okSort (L.map tup) = true := by
  unfold okSort
  simp only [Bool.and_eq_true, Bool.or_eq_true, List.all_eq_true, decide_eq_true_eq]
  refine ⟨⟨fun d hd e he => ?_, .inl fun d hd => ?_⟩, fun d hd => ?_⟩
  · obtain ⟨s, _, rfl⟩ := List.mem_map.mp hd
    obtain ⟨t, _, rfl⟩ := List.mem_map.mp he
    exact alike_tup
  · obtain ⟨s, hs, rfl⟩ := List.mem_map.mp hd
    cases s with
    | nil => exact absurd rfl (h _ hs)
    | cons a s => rfl
  · obtain ⟨s, _, rfl⟩ := List.mem_map.mp hd
    exact Nat.le_trans pd_tup.2 (by decide)
theorem sort_tups {L : List (List Nat)} : ∃ M : List (List Nat), sortD (L.map tup) = M.map tup ∧ M.length = L.length := by
  have e : ((L.mergeSort fun a b => leD (tup a) (tup b)).map tup) = sortD (L.map tup) := by
    rw [List.map_mergeSort (s := leD) (fun a _ b _ => rfl), sortD_eq]
  exact ⟨_, e.symm, List.length_mergeSort _⟩
theorem for_of {τ : Type} {it : IF τ} {tgt : GF} {body : SF τ} {ρ : Ev} {s s1 : τ} {ds : List PyData} {x : Option (Ot × τ)} (e : it ρ s = some (ds, s1)) (h : forGo (forStep tgt body) ds ρ s1 = x) : dFor it tgt body ρ s = x := by
  rw [q_for, e]
  exact h
theorem lc_of {τ : Type} {vs : List Nat} {it : IF τ} {tgt : GF} {test : BF τ} {elt : EF τ} {ρ ρ1 : Ev} {s s1 s2 : τ} {ds es : List PyData} (e : it ρ s = some (ds, s1)) (hw : wipeD ρ vs = ρ1) (h : lcGo (lcStep tgt test elt ρ1) ds s1 = some (es, s2)) : dLc vs it tgt test elt ρ s = some (.own es, s2) := by
  rw [q_lc, e, Option.bind_some, hw]
  show (lcGo _ ds s1).map _ = _
  rw [h]
  rfl
/-- a for whose slots are known, with a measure -/
theorem forGo_foldP {τ α β : Type} {env : α → Ev} {c : β → PyData} {f : α → β → α} {step : PyData → SF τ} {s : τ} {P : Nat → α → Prop} {N : Nat} : ∀ (L : List β) (k : Nat) (a : α), k + L.length ≤ N → P k a →
    (∀ k a, k < N → P k a → ∀ b ∈ L, step (c b) (env a) s = some (.nx (env (f a b)), s) ∧ P (k + 1) (f a b)) → forGo step (L.map c) (env a) s = some (.nx (env (L.foldl f a)), s)
  | [], _, a, _, _, _ => rfl
  | b :: L, k, a, hk, hp, h => by
    have hk' : k + 1 + L.length ≤ N := by rw [List.length_cons] at hk; omega
    obtain ⟨h1, h2⟩ := h k a (by omega) hp b List.mem_cons_self
    show (step (c b) (env a) s).bind _ = _
    rw [h1]
    exact forGo_foldP L (k + 1) (f a b) hk' h2 fun k' a' hk hp b' hb => h k' a' hk hp b' (List.mem_cons_of_mem _ hb)
theorem fold_fst {α β γ : Type} (g : α → β → α) (u : γ → β → γ) : ∀ (L : List β) (a : α) (x : γ), (L.foldl (fun (p : α × γ) b => (g p.1 b, u p.2 b)) (a, x)).1 = L.foldl g a
  | [], _, _ => rfl
  | b :: L, a, x => fold_fst g u L (g a b) (u x b)
/-! data that are the same to _law_same -/
def samey : Nat → PyData → Prop
  | 0, _ => False
  | _ + 1, .none => True
  | _ + 1, .bool _ => True
  | _ + 1, .int _ => True
  | _ + 1, .str _ => True
  | n + 1, .tuple ds => ds.length ≤ 1000000 ∧ ∀ d ∈ ds, samey n d
  | _ + 1, _ => False
theorem samey_int {n : Nat} {i : Int} : samey (n + 1) (.int i) := trivial
theorem samey_tup {n : Nat} {s : List Nat} (h : s.length ≤ 1000000) : samey (n + 2) (tup s) := ⟨by simpa using h, fun d hd => by
  obtain ⟨p, _, rfl⟩ := List.mem_map.mp hd
  exact samey_int⟩
theorem samey_ints {n : Nat} {ns : List Int} (h : ns.length ≤ 1000000) : samey (n + 2) (.tuple (ns.map .int)) := ⟨by simpa using h, fun d hd => by
  obtain ⟨p, _, rfl⟩ := List.mem_map.mp hd
  exact samey_int⟩
theorem samey_tups {n : Nat} {L : List (List Nat)} (h : L.length ≤ 1000000) (h2 : ∀ s ∈ L, s.length ≤ 1000000) : samey (n + 3) (.tuple (L.map tup)) := ⟨by simpa using h, fun d hd => by
  obtain ⟨p, hp, rfl⟩ := List.mem_map.mp hd
  exact samey_tup (h2 p hp)⟩
abbrev g_says : SF Unit := (dRet (dAndV (dCall bIsi (dCons (dVar 0) (dCons (dC (.val (.ty "bool"))) dNil))) (dBin dEq (dVar 0) (dVar 1))))
def F_says : List Rv → Unit → Option (Rv × Unit) := dFunc 2 2 g_says
theorem samey_sorted {n : Nat} {L : List (List Nat)} (h2 : ∀ s ∈ L, s.length ≤ 5) (h : L.length ≤ 32) : samey (n + 3) (.tuple (sortD (L.map tup))) := by
  have e : ((L.mergeSort fun a b => leD (tup a) (tup b)).map tup) = sortD (L.map tup) := by
    rw [List.map_mergeSort (s := leD) (fun a _ b _ => rfl), sortD_eq]
  rw [← e]
  exact samey_tups (by rw [List.length_mergeSort]; omega) fun s hs => by
    have := h2 s ((List.mergeSort_perm _ _).mem_iff.mp hs)
    omega
abbrev g_same (Fs : List Rv → Unit → Option (Rv × Unit)) : SF Unit := (dSeq (dIfS (dTest (dCall bIsi (dCons (dVar 1) (dCons (dC (.val (.ty "tuple"))) dNil)))) (dSeq (dIfS (dOr (dNot (dTest (dCall bIsi (dCons (dVar 0) (dCons (dC (.val (.ty "tuple"))) dNil))))) (dTest (dBin dNe (dCall bLen (dCons (dVar 0) dNil)) (dCall bLen (dCons (dVar 1) dNil))))) (dRet (dC (.dat (.bool false)))) dSkip) (dRet (dBin dEq (dLc [2] (dRange (dCons (dCall bLen (dCons (dVar 1) dNil)) dNil)) (setSlot 2) (dNot (dTest (dFn Fs (dCons (dBin dIx (dVar 0) (dVar 2)) (dCons (dBin dIx (dVar 1) (dVar 2)) dNil))))) (dFrz (dVar 2))) (dLst dNil)))) dSkip) (dSeq (dIfS (dTest (dUn dIsN (dVar 1))) (dRet (dUn dIsN (dVar 0))) dSkip) (dSeq (dIfS (dTest (dCall bIsi (dCons (dVar 1) (dCons (dC (.val (.ty "str"))) dNil)))) (dRet (dAndV (dCall bIsi (dCons (dVar 0) (dCons (dC (.val (.ty "str"))) dNil))) (dBin dEq (dVar 0) (dVar 1)))) dSkip) (dRet (dAndV (dCall bIsi (dCons (dVar 0) (dCons (dC (.val (.ty "int"))) dNil))) (dAndV (dBin dEq (dCall bIsi (dCons (dVar 0) (dCons (dC (.val (.ty "bool"))) dNil))) (dCall bIsi (dCons (dVar 1) (dCons (dC (.val (.ty "bool"))) dNil)))) (dBin dEq (dVar 0) (dVar 1))))))))
abbrev F_same : Nat → List Rv → Unit → Option (Rv × Unit) := recF 2 3 g_same
theorem says_ok {p q : Bool} : F_says [.dat (.bool p), .dat (.bool q)] () = some (.dat (.bool (decide (p = q))), ()) := by
  refine func_rt rfl ?_
  simp [PyData.isBool]
theorem same_ok : ∀ (n : Nat) (d : PyData), samey n d → F_same n [.dat d, .dat d] () = some (.dat (.bool true), ())
  | 0, _, h => h.elim
  | n + 1, .none, _ => by refine func_rt rfl ?_; simp [PyData.isTuple, isNone]
  | n + 1, .bool p, _ => by refine func_rt rfl ?_; simp [PyData.isTuple, isNone, PyData.isStr, PyData.isInt, PyData.isBool]
  | n + 1, .int p, _ => by refine func_rt rfl ?_; simp [PyData.isTuple, isNone, PyData.isStr, PyData.isInt, PyData.isBool]
  | n + 1, .str p, _ => by refine func_rt rfl ?_; simp [PyData.isTuple, isNone, PyData.isStr, PyData.isInt, PyData.isBool]
  | n + 1, .list _, h => h.elim
  | n + 1, .dict _, h => h.elim
  | n + 1, .tuple ds, ⟨h1, h2⟩ => by
    refine func_rt rfl ?_
    have r : rgOf [.dat (.int (ds.length : Int))] = some ((List.range ds.length).map fun i : Nat => PyData.int i) := by
      rw [rg1_nat (by omega), rangeD_map]
    have l : lcGo (lcStep (setSlot 2) (dNot (dTest (dFn (F_same n) (dCons (dBin dIx (dVar 0) (dVar 2)) (dCons (dBin dIx (dVar 1) (dVar 2)) dNil))))) (dFrz (dVar 2)) [some (.dat (.tuple ds)), some (.dat (.tuple ds)), none]) ((List.range ds.length).map fun i : Nat => PyData.int i) () = some ((((List.range ds.length).filter fun _ => false).map fun i : Nat => PyData.int i), ()) := by
      refine lcGo_map _ fun i hi => ?_
      have hi := List.mem_range.mp hi
      have g : atI ds (i : Int) = some ds[i] := atI_pos (n := i) rfl (List.getElem?_eq_getElem hi)
      have ih := same_ok n ds[i] (h2 _ (List.getElem_mem hi))
      simp [g, ih]
    have r2 : ((List.range ds.length).filter fun _ => false) = [] := by simp
    rw [r2] at l
    have s1 : dIfS (dOr (dNot (dTest (dCall bIsi (dCons (dVar 0) (dCons (dC (.val (.ty "tuple"))) dNil))))) (dTest (dBin dNe (dCall bLen (dCons (dVar 0) dNil)) (dCall bLen (dCons (dVar 1) dNil))))) (dRet (dC (.dat (.bool false)))) dSkip [some (.dat (.tuple ds)), some (.dat (.tuple ds)), none] () = some (.nx [some (.dat (.tuple ds)), some (.dat (.tuple ds)), none], ()) := by
      simp [PyData.isTuple]
    have s2 : dRet (dBin dEq (dLc [2] (dRange (dCons (dCall bLen (dCons (dVar 1) dNil)) dNil)) (setSlot 2) (dNot (dTest (dFn (F_same n) (dCons (dBin dIx (dVar 0) (dVar 2)) (dCons (dBin dIx (dVar 1) (dVar 2)) dNil))))) (dFrz (dVar 2))) (dLst dNil)) [some (.dat (.tuple ds)), some (.dat (.tuple ds)), none] () = some (.rt (.dat (.bool true)), ()) := by
      have q : dLc [2] (dRange (dCons (dCall bLen (dCons (dVar 1) dNil)) dNil)) (setSlot 2) (dNot (dTest (dFn (F_same n) (dCons (dBin dIx (dVar 0) (dVar 2)) (dCons (dBin dIx (dVar 1) (dVar 2)) dNil))))) (dFrz (dVar 2)) [some (.dat (.tuple ds)), some (.dat (.tuple ds)), none] () = some (.own [], ()) := by
        rw [q_lc]
        have : dRange (dCons (dCall bLen (dCons (dVar 1) dNil)) dNil) [some (.dat (.tuple ds)), some (.dat (.tuple ds)), none] () = some ((List.range ds.length).map fun i : Nat => PyData.int i, ()) := by
          simp [r, -q_rg1]
        rw [this, Option.bind_some]
        show (lcGo (lcStep _ _ _ [some (.dat (.tuple ds)), some (.dat (.tuple ds)), none]) _ ()).map _ = _
        rw [l]
        rfl
      simp [q, -q_lc]
    refine seq_rt ?_
    rw [q_ifS]
    have c : dTest (dCall bIsi (dCons (dVar 1) (dCons (dC (.val (.ty "tuple"))) dNil))) [some (.dat (.tuple ds)), some (.dat (.tuple ds)), none] () = some (true, ()) := by simp [PyData.isTuple]
    show (dTest (dCall bIsi (dCons (dVar 1) (dCons (dC (.val (.ty "tuple"))) dNil))) [some (.dat (.tuple ds)), some (.dat (.tuple ds)), none] ()).bind _ = _
    rw [c]
    exact (seq_nx s1).trans s2
end DL

set_option Elab.async false
set_option linter.all false
set_option maxRecDepth 100000
set_option maxHeartbeats 4000000
set_option autoImplicit false
/-! DL, part H: extend, chains, tuple(range(..)), tuple * int. -/
namespace DL
open PySem PySem.Spec PyProof.Rows L2
theorem ext_any (l : Addr) (items : Array Value) (n : Nat) (b : Addr) (items2 : Array Value) (n2 : Nat) (sl2 : Array (Option Value)) (hc0 : ¬(!items.isEmpty && Builtin.List.listTooLong (items.size + items2.size)) = true) (hc1 : items.size ≤ sizeLine) (hs2 : items.size + items2.size ≤ sizeLine + 1) :
    Meets (Builtin.«list.extend» ⟨[.ref l, .ref b], []⟩) (fun _ R s => s.heap.get? l = some { cls := .type "list", dict := none, data := .seq items n, slots := #[] } ∧ s.heap.get? b = some { cls := .type "list", dict := none, data := .seq items2 n2, slots := sl2 } ∧
      R (.ok (.ret Value.none)) { s with heap := s.heap.update l (Obj.mapSeq fun x => x ++ items2), toks := s.toks }) :=
  .of_wp fun prog w A R s h => by
    obtain ⟨hp, g, d, tk, os⟩ := s
    obtain ⟨hl, hb, h⟩ := h
    have f1 := AutoSeq1.idx_int
    have f2 := AutoSeq1.sub_tuple_tuple
    have f3 := AutoSeq1.sub_list_list
    have f4 := AutoSeq1.sub_tuple_list
    have f5 := AutoSeq1.sub_list_tuple
    have hz' : (items ++ items2).size ≤ sizeLine + 1 := by rw [Array.size_append]; exact hs2
    wp_walk using (wpAny_updateSeq hl rfl (hz := hc1) (_hz' := hz')), wpAny_loadPart' hl, wpAny_loadPart' hb
    exact ⟨_, rfl, h⟩
theorem tup_mul1 (l : Addr) (items : Array Value) (n : Nat) (dd : Option Addr) (sl : Array (Option Value)) (u : Tok) :
    Meets (Builtin.«tuple.__mul__» ⟨[.ref l, .int 1 u], []⟩) (fun _ R s => s.heap.get? l = some { cls := .type "tuple", dict := dd, data := .seq items n, slots := sl } ∧ R (.ok (.ret (Value.ref l))) s) :=
  .of_wp fun prog w A R s h => by
    obtain ⟨hp, g, d, tk, os⟩ := s
    obtain ⟨hl, h⟩ := h
    have f1 := AutoSeq1.idx_int
    have c1 : (items.isEmpty || (1 : Int) == 1) = true := by simp
    wp_walk using wpAny_loadPart' hl
    repeat (first
      | (refine wpAny_ite_true c1 ?_; wp_walk using wpAny_loadPart' hl)
      | (refine wpAny_ite_true (decide_eq_true c1) ?_; wp_walk using wpAny_loadPart' hl))
    all_goals exact ⟨_, rfl, h⟩
section
variable {X : Cx}
def rExtL (K : PySem.W.Frag) : V → List V → Hp → VK → Prop := fun x vs H Q => ∃ l b xs zs, x = .ref l ∧ vs = [.ref b] ∧ H l = some (.lst xs) ∧ SqL K H b zs ∧ xs.length + zs.length ≤ sizeLine ∧ Q .non (upd H l (.lst (xs ++ zs)))
theorem mt_extL : MtM X "list.extend" (rExtL X.K) := by
  intro pins s σ H x vs v us Q I rx rv h
  obtain ⟨l, b, xs, zs, rfl, rfl, hH, hB, hz, q⟩ := h
  cases rx
  obtain ⟨u, rfl, ru⟩ := rv.one
  cases ru
  obtain ⟨z, its, n, r, hl, e⟩ := I.lstM hH
  obtain ⟨its2, r2, ⟨⟨cls2, dd2, data2, sl2⟩, n2, e2, hc2, hdn2, hd2⟩, z2⟩ := I.list hB
  simp only at hc2 hdn2 hd2
  subst hc2 hdn2 hd2
  have hl2 := r2.length
  have hsz : its.toArray.size + its2.toArray.size ≤ sizeLine := by rw [List.size_toArray, List.size_toArray]; omega
  have hlong : ¬ (!its.toArray.isEmpty && Builtin.List.listTooLong (its.toArray.size + its2.toArray.size)) = true := by
    rw [notLongL hsz, Bool.and_false]
    exact Bool.false_ne_true
  refine call_meets F.slot_list_extend ⟨_, e, rfl⟩ F.entry_list_extend (F.args_list_extend_2 _ _)
    (ext_any l its.toArray n b its2.toArray n2 sl2 hlong (by rw [List.size_toArray]; omega) (by omega)) ⟨e, e2, ?_⟩
  refine ⟨.non, _, I.lset (its' := its ++ its2) hH e (by simp) (r.append r2) ?_, rfl, q⟩
  rw [List.length_append]
  omega
end
section
variable {X : Cx}
def rRep1 (K : PySem.W.Frag) : R2 := fun x y H Q => ∃ l xs, x = .ref l ∧ y = .int 1 ∧ SqT K H l xs ∧ Q (.ref l) H
theorem op_rep1 : OpR X (binaryOp .Mult) (rRep1 X.K) := by
  intro pins s σ H x y v u Q I rx ry h
  obtain ⟨l, xs, rfl, rfl, hT, q⟩ := h
  cases rx
  obtain ⟨t, rfl⟩ := ry
  obtain ⟨its, r, ⟨⟨cls, dd, data, sl⟩, ho, hc, n, hd⟩, hs⟩ := I.tuple hT
  simp only at hc hd
  subst hc hd
  refine wpAny_binaryOp_repeat_ref (T := "tuple") (U := "int") (by decide) ⟨_, ho, rfl⟩ (fun s' => typeIs_int s' 1 t) noFill_tuple_mul F.fills_int_mul F.slot_int_rmul repeat_tuple F.slot_int_index.lookup
    (call_meets F.slot_int_rmul (typeIs_int s 1 t) F.entry_int_rmul (F.args_int_rmul_2 _ _) (int_rmul_tuple 1 t l its.toArray n dd sl)
      ⟨ho, rfl, ⟨_, ho, rfl⟩, call_meets F.slot_tuple_mul ⟨_, ho, rfl⟩ F.entry_tuple_mul (F.args_tuple_mul_2 _ _) (tup_mul1 l its.toArray n dd sl t) ⟨ho, ?_⟩⟩)
  exact ⟨.ref l, H, I, rfl, q⟩
end
section
variable {ι π τ : Type} {Y : ι → Cx} {K : PySem.W.Frag} {RR : π → Res τ} {Rs : Res τ}
def dRep (x y : Rv) : Option Rv := match x, y with
  | .dat (.tuple ds), .dat (.int k) => if k = 1 then some (.dat (.tuple ds)) else if 2 ≤ k ∧ k.natAbs ≤ 1000 ∧ ds.length ≤ 1000 ∧ ds.isEmpty = false then some (.dat (.tuple (List.replicate k.toNat ds).flatten)) else none
  | _, _ => none
theorem dpa_rep {G : Hp} {vs : List V} {ds : List PyData} (h : DpAll K G vs ds) : ∀ n, DpAll K G (List.replicate n vs).flatten (List.replicate n ds).flatten
  | 0 => .nil
  | n + 1 => by
    rw [List.replicate_succ, List.replicate_succ, List.flatten_cons, List.flatten_cons]
    exact dpa_app h (dpa_rep h n)
theorem o_rep (hK : ∀ i, (Y i).K = K) : OX Y K RR (binaryOp .Mult) dRep := by
  refine ⟨fun x y H Q => rRep1 K x y H Q ∨ rRepT K x y H Q, fun i => by rw [← hK i]; exact op_rep1.or op_repT, fun pp s x y r v w G H Q e gh rx ry q => ?_⟩
  unfold dRep at e
  split at e
  · split at e
    · rename_i hk
      cases e
      subst hk
      cases rx with
      | tup h1 a1 =>
        cases ry
        exact .inl ⟨_, _, rfl, rfl, sqT_mono gh.le h1, post_now q gh (Dp.tup h1 a1) trivial⟩
    · split at e
      · rename_i ds k hk hc
        cases e
        obtain ⟨c1, c2, c3, c4⟩ := hc
        cases rx with
        | tup h1 a1 =>
          cases ry
          refine .inr ⟨_, k, _, rfl, rfl, sqT_mono gh.le h1, fun z => ?_, c1, by omega, by rw [dpa_len a1]; exact c3, fun p hp => post_tup q gh hp (dpa_rep a1 k.toNat)⟩
          subst z
          cases a1
          simp at c4
      · cases e
  · cases e
abbrev dMulA : Rv → Rv → Option Rv := orR dMulI dRep
theorem o_mulA (hK : ∀ i, (Y i).K = K) : OX Y K RR (binaryOp .Mult) dMulA := o_mulI.or (o_rep hK)
/-! tuple(range(..)) -/
def dTupRg (fr : AF τ) : EF τ := fun ρ s => (fr ρ s).bind fun x => (rgOf x.1).map fun ds => (.dat (.tuple ds), x.2)
theorem rgV_dpa {G : Hp} {a b : Int} : DpAll K G (rgV a b) (rangeD a (b - a).toNat) := by
  unfold rgV rangeD
  generalize List.range (b - a).toNat = L
  induction L with
  | nil => exact .nil
  | cons i L ih => exact .cons (.int _) ih
theorem rgV0_dpa {G : Hp} {b : Int} : DpAll K G (rgV 0 b) (rangeD 0 b.toNat) := by
  have := rgV_dpa (K := K) (G := G) (a := 0) (b := b)
  rw [Int.sub_zero] at this
  exact this
theorem e_tupRg1 {a : Expr} {p p2 pos pos2 : Pos} {fa : EF τ} (hc : ∀ i, (Y i).calm = true) (hg : ∀ i, Gl (Y i) "tuple") (hm : ∀ i, (Y i).mg "tuple" = none) (hg2 : ∀ i, Gl (Y i) "range") (hm2 : ∀ i, (Y i).mg "range" = none) (ha : EX Y K RR a fa)
    (hs : ∀ i, starEach [a] (Y i).env = (false, eval a (Y i).env) :: starEach [] (Y i).env := by intro _; rfl) (hs2 : ∀ i, starEach [.Call (.Name "range" p2) [a] [] pos2] (Y i).env = (false, eval (.Call (.Name "range" p2) [a] [] pos2) (Y i).env) :: starEach [] (Y i).env := by intro _; rfl) :
    EX Y K RR (.Call (.Name "tuple" p) [.Call (.Name "range" p2) [a] [] pos2] [] pos) (dTupRg (dCons fa dNil)) := by
  obtain ⟨t, a1, a2⟩ := ha
  refine ⟨_, fun i => pe_tupRg (hc i) (hg i) (hm i) (prg_1 (hg2 i) (hm2 i) (a1 i) (hs i)) (hs2 i), fun pp G0 H0 ρ s r s' σ G H Q e si g q => ?_⟩
  unfold dTupRg dCons dNil at e
  cases e1 : fa ρ s with
  | none => rw [e1] at e; cases e
  | some x =>
    obtain ⟨x, s1⟩ := x
    rw [e1] at e
    simp only [Option.bind_some, Option.map_some] at e
    unfold rgOf at e
    split at e
    · rename_i e0
      cases e0
      split at e
      · rename_i hc
        cases e
        have h1 := okRg_abs hc
        refine a2 pp G0 H0 ρ s _ _ σ G H _ e1 si g fun v G1 H1 g1 x1 r1 _ => ?_
        cases r1
        refine ⟨_, rfl, ⟨by omega, by omega, by omega, by omega, by omega⟩, fun p hp => ?_⟩
        refine post_tup (post_le x1 q) g1 hp ?_
        exact rgV0_dpa
      · cases e
    · rename_i e0
      cases e0
    · cases e
/-! a op b op c -/
def dChain (o o' : Rv → Rv → Option Rv) (fa fb fc : EF τ) : EF τ := fun ρ s => (fa ρ s).bind fun x => (fb ρ x.2).bind fun y => (o x.1 y.1).bind fun z => match z with
  | .dat (.bool k) => if k = true then (fc ρ y.2).bind fun u => (o' y.1 u.1).map fun r => (r, u.2) else some (.dat (.bool false), y.2)
  | _ => none
theorem chain_sem {r r' : R2} {o o' : Rv → Rv → Option Rv} {ta tb tc : TE} {fa fb fc : EF τ} (ho : OSem K Rs r o) (ho' : OSem K Rs r' o') (ha : ESem K Rs ta fa) (hb : ESem K Rs tb fb) (hc : ESem K Rs tc fc) : ESem K Rs (tChain r r' ta tb tc) (dChain o o' fa fb fc) := by
  intro G0 H0 ρ s r s' σ G H Q e si g q
  unfold dChain at e
  cases e1 : fa ρ s with
  | none => rw [e1] at e; cases e
  | some x =>
    obtain ⟨x, s1⟩ := x
    rw [e1] at e
    simp only [Option.bind_some] at e
    cases e2 : fb ρ s1 with
    | none => rw [e2] at e; cases e
    | some y =>
      obtain ⟨y, s2⟩ := y
      rw [e2] at e
      simp only [Option.bind_some] at e
      cases e3 : o x y with
      | none => rw [e3] at e; cases e
      | some z =>
        rw [e3] at e
        simp only [Option.bind_some] at e
        split at e
        · rename_i k
          refine ha G0 H0 ρ s x s1 σ G H _ e1 si g fun v G1 H1 g1 x1 r1 _ => ?_
          refine hb G0 H0 ρ s1 y s2 σ G1 H1 _ e2 (si.ext x1) g1 fun w G2 H2 g2 x2 r2 _ => ?_
          refine ho s2 x y _ v w G2 H2 _ e3 g2 (r1.ext x2) r2 fun z G3 H3 g3 x3 r3 _ => ?_
          cases r3
          refine ⟨k, rfl, ?_⟩
          cases k with
          | false =>
            rw [if_neg Bool.false_ne_true] at e
            rw [if_neg Bool.false_ne_true]
            cases e
            exact q _ G3 H3 g3 ((x1.trans x2).trans x3) (Dp.bl false) trivial
          | true =>
            rw [if_pos rfl] at e
            rw [if_pos rfl]
            cases e4 : fc ρ s2 with
            | none => rw [e4] at e; cases e
            | some u =>
              obtain ⟨u, s4⟩ := u
              rw [e4] at e
              simp only [Option.bind_some] at e
              cases e5 : o' y u with
              | none => rw [e5] at e; cases e
              | some t =>
                rw [e5] at e
                cases e
                refine hc G0 H0 ρ s2 u _ σ G3 H3 _ e4 (si.ext ((x1.trans x2).trans x3)) g3 fun w4 G4 H4 g4 x4 r4 _ => ?_
                exact ho' _ y u _ w w4 G4 H4 Q e5 g4 ((r2.ext x3).ext x4) r4 (post_le (((x1.trans x2).trans x3).trans x4) q)
        · cases e
theorem e_chain {op op' : CmpOp} {o o' : Rv → Rv → Option Rv} {a b c : Expr} {pos : Pos} {fa fb fc : EF τ} (ho : OX Y K RR (compareOp op) o) (ho' : OX Y K RR (compareOp op') o') (ha : EX Y K RR a fa) (hb : EX Y K RR b fb) (hc : EX Y K RR c fc)
    (hm : lastMarks [op, op'] [b, c] = false := by with_unfolding_all rfl) : EX Y K RR (.Compare a [op, op'] [b, c] pos) (dChain o o' fa fb fc) := by
  obtain ⟨r, a1, a2⟩ := ho
  obtain ⟨r', b1, b2⟩ := ho'
  obtain ⟨ta, c1, c2⟩ := ha
  obtain ⟨tb, d1, d2⟩ := hb
  obtain ⟨tc, f1, f2⟩ := hc
  exact ⟨_, fun i => pe_chain (a1 i) (b1 i) (c1 i) (d1 i) (f1 i) hm, fun pp => chain_sem (a2 pp) (b2 pp) (c2 pp) (d2 pp) (f2 pp)⟩
theorem t_chain {op op' : CmpOp} {o o' : Rv → Rv → Option Rv} {a b c : Expr} {pos : Pos} {fa fb fc : EF τ} (ho : OX Y K RR (compareOp op) o) (ho' : OX Y K RR (compareOp op') o') (ha : EX Y K RR a fa) (hb : EX Y K RR b fb) (hc : EX Y K RR c fc)
    (hm : lastMarks [op, op'] [b, c] = false := by with_unfolding_all rfl) : TX Y K RR (.Compare a [op, op'] [b, c] pos) (dTest (dChain o o' fa fb fc)) := by
  obtain ⟨r, a1, a2⟩ := ho
  obtain ⟨r', b1, b2⟩ := ho'
  obtain ⟨ta, c1, c2⟩ := ha
  obtain ⟨tb, d1, d2⟩ := hb
  obtain ⟨tc, f1, f2⟩ := hc
  exact ⟨_, fun i => pt_chain (a1 i) (b1 i) (c1 i) (d1 i) (f1 i) hm, fun pp => tsem_of (chain_sem (a2 pp) (b2 pp) (c2 pp) (d2 pp) (f2 pp))⟩
/-- found.extend(list) -/
theorem s_extend {x : Str} {pos : Pos} {e : Expr} {f : EF τ} {i : Nat} {p1 apos cpos : Pos} (hK : ∀ j, (Y j).K = K) (he : EX Y K RR e f) (hi : ∀ j, (Y j).N[i]? = some x := by intro _; rfl) (hv : ∀ j, Vis (Y j).env.scope x := by intro _; first | exact Or.inl rfl | exact Or.inr (Or.inl rfl) | exact Or.inr (Or.inr rfl))
    (hd : (x == ("__debug__" : Str)) = false := by decide) (hcd : (x == ("__classdict__" : Str)) = false := by decide)
    (hbase : ∀ j, attributeBase (.Name x p1) "extend" (Y j).env (eval (.Name x p1) (Y j).env) = eval (.Name x p1) (Y j).env := by intro _; rfl)
    (hfew : ∀ j, ((backTo cpos (starEach [e] (Y j).env)).all (fun x => !x.1) && (backToKw cpos (keywordEach [] (Y j).env)).all (fun x => x.1.isSome)
      && decide ([e].length + ([] : List Keyword).length + (if ([] : List Keyword).isEmpty then 0 else 1) < 30)) = true := by intro _; rfl)
    (hline : (apos.endLine == cpos.line) = true := by rfl) (hst : ∀ j, starEach [e] (Y j).env = (false, eval e (Y j).env) :: starEach [] (Y j).env := by intro _; rfl) (hplain : ∀ j, (backTo cpos (starEach [] (Y j).env)).any (·.1) = false := by intro _; rfl)
    (hsw : ∀ j, swapsWith (.Call (.Attribute (.Name x p1) "extend" apos) [e] [] cpos) none pos.line (Y j).env = pure false := by intro _; rfl) :
    SX Y K RR (.Expr (.Call (.Attribute (.Name x p1) "extend" apos) [e] [] cpos) pos) (dExtend i f) := by
  obtain ⟨t, a1, a2⟩ := he
  refine ⟨tDrop (tBM K "list" (rExtL K) (tVar i) (tCons t tNil)), fun j => by
    rw [← hK j]
    exact ps_expr (pe_bm PySem.F.plainAttrs_list PySem.F.slot_list_extend PySem.F.type_list_extend mt_extL (pe_var (hi j) (hv j) hd hcd) (pa_cons (a1 j) pa_nil (hst j)) (hbase j) (hfew j) hline (hst j) (hplain j)) (hsw j), fun pp G0 H0 ρ s o s' σ G H D e si g0 q => ?_⟩
  unfold dExtend at e
  cases e1 : f ρ s with
  | none => rw [e1] at e; cases e
  | some y =>
    obtain ⟨y, s1⟩ := y
    rw [e1] at e
    simp only [Option.bind_some] at e
    split at e
    · rename_i ds es ed el
      split at e
      · rename_i hl
        cases e
        obtain ⟨v, ev, p, vs, rfl, hf, hg, hh, hd⟩ := si.slot i _ ed
        refine ⟨_, ev, .inl ⟨rfl, _, SqL.of hh⟩, a2 pp G0 H0 ρ s _ _ σ G H _ e1 si g0 fun w G1 H1 g1 x1 r1 _ => ?_⟩
        have hh1 : H1 p = some (.lst vs) := x1.h p _ hh hf
        have hg1 : G1 p = none := x1.f p (by rw [hh]; exact fun z => nomatch z) hg
        obtain ⟨b, ws, rfl, hb, hw⟩ := r1.lst g1.le el
        refine ⟨p, b, vs, ws, rfl, rfl, hh1, hb, by rw [dpa_len hd, dpa_len hw, sizeLine_eq]; omega, ?_⟩
        obtain ⟨s2, g2⟩ := (si.ext x1).grow (ws := ws) (es := es) g1 ed ev hh1 hg1 hf (dpa_app (dpa_mono x1.g _ _ hd) hw)
        exact q σ G1 _ s2 g2 x1.g
      · cases e
    · cases e
end
section
variable {τ : Type} {ρ : Ev} {s : τ} {ds : List PyData} {k i j : Int}
@[simp] theorem q_extend {i : Nat} {f : EF τ} : dExtend i f ρ s = (f ρ s).bind fun x => match ρ[i]?, listOf x.1 with
  | some (some (.own ds)), some es => if ds.length + es.length ≤ 16777216 then some (.nx (ρ.set i (some (.own (ds ++ es)))), x.2) else none
  | _, _ => none := Eq.trans rfl rfl
@[simp] theorem q_chain {o o' : Rv → Rv → Option Rv} {fa fb fc : EF τ} : dChain o o' fa fb fc ρ s = (fa ρ s).bind fun x => (fb ρ x.2).bind fun y => (o x.1 y.1).bind fun z => match z with
  | .dat (.bool k) => if k = true then (fc ρ y.2).bind fun u => (o' y.1 u.1).map fun r => (r, u.2) else some (.dat (.bool false), y.2)
  | _ => none := Eq.trans rfl rfl
@[simp] theorem q_tupRg {fr : AF τ} : dTupRg fr ρ s = (fr ρ s).bind fun x => (rgOf x.1).map fun ds => (.dat (.tuple ds), x.2) := Eq.trans rfl rfl
@[simp] theorem q_rep : dRep (.dat (.tuple ds)) (.dat (.int k)) = if k = 1 then some (.dat (.tuple ds)) else if 2 ≤ k ∧ k.natAbs ≤ 1000 ∧ ds.length ≤ 1000 ∧ ds.isEmpty = false then some (.dat (.tuple (List.replicate k.toNat ds).flatten)) else none := Eq.trans rfl rfl
@[simp] theorem q_mulAI : dMulA (.dat (.int i)) (.dat (.int j)) = if (decide (i.natAbs < 18446744073709551616) || decide (j.natAbs < 18446744073709551616)) = true then some (.dat (.int (i * j))) else none := by
  unfold dMulA orR
  rw [q_mulI]
  by_cases h : (decide (i.natAbs < 18446744073709551616) || decide (j.natAbs < 18446744073709551616)) = true
  · rw [if_pos h]
  · rw [if_neg h]
    rfl
@[simp] theorem q_mulAT : dMulA (.dat (.tuple ds)) (.dat (.int k)) = dRep (.dat (.tuple ds)) (.dat (.int k)) := by
  rfl
end
end DL

set_option Elab.async false
set_option linter.all false
set_option maxRecDepth 100000
set_option maxHeartbeats 4000000
set_option autoImplicit false
/-! DL, part I: sorted(tuple). -/
namespace DL
open PySem PySem.Spec PySem.Calls PyProof.Rows PySem.W
section
variable {prog : Program} {w : World} {A : Around} {s : Shared} {E : Value → Shared → Prop}
theorem collect_tup {l : Addr} {vs : List Value} {Q : List Value → Shared → Prop} {o : Obj} {n : Nat} (ho : s.heap.get? l = some o) (hc : o.cls = .type "tuple") (hd : o.data = .seq vs.toArray n)
    (h : Q vs { s with heap := (s.heap.push (seqObj "list" #[] 0)).update s.heap.objs.size (Obj.mapSeq (· ++ vs.toArray)) }) (hsz : vs.length ≤ sizeLine) :
    wpAny (model prog w) A (collect (.ref l)) Q E s := by
  unfold collect
  refine wpAny_bind (wpAny_runValue (codeAny_builtin entry_proto_collect' ?_))
  show wpAny _ _ (do again (.builtin "list.__iadd__" ⟨[← newList [], .ref l], []⟩)) _ _ s
  refine wpAny_bind (wpAny_newList (wpAny_pure ⟨Code.quiet_builtin _ (by decide +kernel), codeAny_builtin entry_list_iadd' ?_⟩))
  show wpAny _ _ (Builtin.List.listExtendWith (.ref s.heap.objs.size) (.ref l) (.ref s.heap.objs.size)) _ _ { s with heap := s.heap.push (seqObj "list" #[] 0) }
  unfold Builtin.List.listExtendWith
  have ho' : (s.heap.push (seqObj "list" #[] 0)).get? l = some o := Heap.get?_push_of_some _ ho
  refine wpAny_bind (wpAny_typeOf (T := "tuple") ⟨o, ho', hc⟩ ?_)
  have ht : (Value.type "tuple" == Value.type "tuple") = true := by rfl
  rw [if_pos (by rw [ht]; simp)]
  refine wpAny_bind (listItems_at ho' hd ?_)
  refine wpAny_bind (listItems_at (xs := #[]) (n := 0) (Heap.get?_push_size _ rfl) rfl ?_)
  rw [if_neg (by simp)]
  refine wpAny_bind (listUpdate_at (xs := #[]) (n := 0) (Heap.get?_push_size _ rfl) rfl ?_ (Nat.zero_le _) (by show (#[] ++ vs.toArray).size ≤ sizeLine + 1; simp only [Array.size_append, List.size_toArray, List.length_nil]; omega))
  refine wpAny_pure ?_
  show wpAny (model prog w) A (do
      let o ← load s.heap.objs.size
      match o.data with
      | .seq xs _ => pure xs.toList
      | _ => unsupported "internal:collect") Q E { s with heap := (s.heap.push (seqObj "list" #[] 0)).update s.heap.objs.size (Obj.mapSeq (· ++ vs.toArray)) }
  refine wpAny_bind (wpAny_load (get?_update_seq (Heap.get?_push_size _ rfl) _) ?_)
  show wpAny _ _ (pure ((#[] : Array Value) ++ vs.toArray).toList) Q E _
  rw [show ((#[] : Array Value) ++ vs.toArray).toList = vs by simp]
  exact wpAny_pure h
theorem sorted_valsT {κ : PyProof.Rows.KeyKind} {l : Addr} {vs : List Value} {Q : Value → Shared → Prop} {o : Obj} {n : Nat} (ho : s.heap.get? l = some o) (hc : o.cls = .type "tuple") (hd : o.data = .seq vs.toArray n)
    (S : SortsAt prog w A.in1.in1 { s with heap := sortingHeap (copyHeap s.heap vs) (s.heap.objs.size + 1) vs } κ vs) (hL : vs.length ≤ sizeLine)
    (h : Q (.ref (s.heap.objs.size + 1)) { s with heap := sortedAll s.heap vs (sortVals κ false vs vs).toArray }) : wpAny (model prog w) A (call (.builtin "sorted") [.ref l]) Q E s := by
  refine call_function_entry_kw kind_sorted plain_sorted entry_sorted (args_sorted1 _) ?_
  unfold Builtin.«sorted»
  refine wpAny_bind (m := checkCount "sorted" 1 1 _) (wpAny_pure ?_)
  refine wpAny_bind (collect_tup ho hc hd ?_ hL)
  refine wpAny_bind (wpAny_newList ?_ hL)
  have hsz : ((s.heap.push (seqObj "list" #[] 0)).update s.heap.objs.size (Obj.mapSeq (· ++ vs.toArray))).objs.size = s.heap.objs.size + 1 := by
    rw [Heap.size_update, size_push']
  show wpAny _ _ _ _ _ { s with heap := copyHeap s.heap vs }
  rw [hsz]
  refine wpAny_bind (wpAny_holding (wpAny_call_entry_kw slot_list_sort ⟨_, copyHeap_at s.heap vs, rfl⟩ entry_list_sort ?body (args_list_sort _)))
  case body =>
    show wpAny (model prog w) A.in1.in1 (Builtin.«list.sort» ⟨[.ref (s.heap.objs.size + 1)], []⟩) _ _ _
    refine wpAny_mono (list_sort_vals (s := { s with heap := copyHeap s.heap vs }) (copyHeap_at s.heap vs) S hL (P := fun f s' => f = .done (.ret .none) ∧ Q (.ref (s.heap.objs.size + 1)) s') ⟨rfl, h⟩) (fun f s' hf => ?_) fun _ _ e => e
    obtain ⟨rfl, hq⟩ := hf
    exact ⟨_, rfl, wpAny_pure ⟨_, rfl, hq⟩⟩
theorem sorted_dataT {β : Type} {R : Value → β → Prop} {bs : List β} {enc : β → PyData} {vs : List Value} {l : Addr} {Q : Value → Shared → Prop} {o : Obj} {n : Nat} (ho : s.heap.get? l = some o) (hc : o.cls = .type "tuple") (hd : o.data = .seq vs.toArray n)
    (e : EachIs R vs bs) (er : EachIs (fun v b => ∃ as, Reads s.heap v (enc b) as) vs bs) (hal : AllAlike (bs.map enc)) (hk : Sortable (bs.map enc)) (hL : bs.length ≤ sizeLine)
    (hu : ∀ b, b ∈ bs → A.units + 2 + (enc b).depth < cLine) (h : ∀ out, out.length = bs.length → EachIs R out (bs.mergeSort (dataLe false enc)) → Q (.ref (s.heap.objs.size + 1)) { s with heap := sortedAll s.heap vs (List.toArray out) }) :
    wpAny (model prog w) A (call (.builtin "sorted") [.ref l]) Q E s := by
  have er' : EachIs (fun v b => ∃ as, Reads (sortingHeap (copyHeap s.heap vs) (s.heap.objs.size + 1) vs) v (enc b) as) vs bs := er.mono fun _ _ ⟨as, r⟩ => ⟨as, PyProof.Rows.Reads.keeps (fun _ _ => sorting_copy_old) r⟩
  exact sorted_valsT ho hc hd (SortsAt.data (s := { s with heap := sortingHeap (copyHeap s.heap vs) (s.heap.objs.size + 1) vs }) (each_map (R := fun v d => ∃ as, Reads (sortingHeap (copyHeap s.heap vs) (s.heap.objs.size + 1) vs) v d as) enc er') hal hk (bound_map hu)) (by rw [e.length]; exact hL)
    (h _ (by rw [sortVals_length false rfl]; exact e.length) (sortVals_data false e er' hal))
end
end DL
namespace DL
open PySem PySem.Spec PyProof.Rows L2
section
variable {X : Cx}
def rSortT (K : PySem.W.Frag) : List V → Hp → VK → Prop := fun xs H Q => ∃ a vs ds, xs = [.ref a] ∧ SqT K H a vs ∧ DpAll K H vs ds ∧ okSortP ds ∧ ∀ p, H p = none → Q (.ref p) (upd H p (.lst (srtV ds vs)))
theorem cr_sortT {k : Nat} (hr : Room k X.A) : CallR X (.builtin "sorted") (rSortT X.K) := by
  intro pins s σ H xs us Q I r h
  obtain ⟨a, vs, ds, rfl, hs, ha, ⟨ok1, ok2, ok3⟩, q⟩ := h
  obtain ⟨its, rv, ⟨⟨cls, dd, data, sl⟩, ho, hc, n, hd⟩, hz⟩ := I.tuple hs
  obtain ⟨u, rfl, ru⟩ := vals1 r
  obtain rfl : u = Value.ref a := ru
  obtain ⟨as, rd⟩ := Dp.readsAll I ds vs its ha rv
  have hlen := dpa_len ha
  have mf : (ds.zip vs).map Prod.fst = ds := List.map_fst_zip (by rw [hlen]; exact Nat.le_refl _)
  refine sorted_dataT (vs := its) (bs := ds.zip vs) (enc := Prod.fst) (R := fun u b => RelV b.2 u) ho hc hd (zip_vals rv hlen) (zip_reads rd hlen) (by rw [mf]; exact ok1) (by rw [mf]; exact ok2) (by rw [List.length_zip, hlen, Nat.min_self, ← hlen]; exact hz) (fun b hb => ?_) fun out ho eo => ?_
  · have h1 : b.1 ∈ ds := by rw [← mf]; exact List.mem_map.mpr ⟨b, hb, rfl⟩
    have := ok3 _ h1
    have := hr.un
    omega
  · obtain ⟨n, hn⟩ := sortedAll_at s.heap its (List.toArray out)
    have e : (ds.zip vs).mergeSort (PySem.W.dataLe false Prod.fst) = (ds.zip vs).mergeSort fun a b => leD a.1 b.1 := rfl
    rw [e] at eo
    refine ⟨.ref (s.heap.objs.size + 1), upd H (s.heap.objs.size + 1) (.lst (srtV ds vs)), I.laid (t' := s.toks) (fun b o e => sortedAll_old e) (Nat.le_succ _) ⟨?_, out, n, vals_of_each eo, hn⟩, rfl, q _ (I.hok.fresh (Nat.le_succ _))⟩
    rw [srt_len hlen]
    exact hz
end
section
variable {ι π τ : Type} {Y : ι → Cx} {K : PySem.W.Frag} {RR : π → Res τ} {Rs : Res τ}
def dSortT (x : Rv) : Option Rv := match x with
  | .dat (.tuple ds) => if okSort ds = true then some (.own (sortD ds)) else none
  | _ => none
def bSortedA : List Rv → Option Rv := orC bSorted (fn1 dSortT)
theorem c_sortT {k : Nat} (hr : ∀ i, Room k (Y i).A) (hK : ∀ i, (Y i).K = K) : CA Y K RR (.builtin "sorted") (fn1 dSortT) := by
  refine ⟨rSortT K, fun i => by rw [← hK i]; exact cr_sortT (hr i), fun pp => csem1 fun s x z v G H Q e g r q => ?_⟩
  unfold dSortT at e
  split at e
  · split at e
    · rename_i ds ok
      cases e
      cases r with
      | tup hs ha => exact ⟨_, _, ds, rfl, sqT_mono g.le hs, dpa_mono g.le ds _ ha, okSort_iff ok, fun l hl => post_own q g hl (srt_dpa ha)⟩
    · cases e
  · cases e
theorem c_sortedA {k : Nat} (hr : ∀ i, Room k (Y i).A) (hK : ∀ i, (Y i).K = K) : CA Y K RR (.builtin "sorted") bSortedA := (c_sorted hr hK).or (c_sortT hr hK)
@[simp] theorem q_sortT {ds : List PyData} : bSortedA [.dat (.tuple ds)] = if okSort ds = true then some (.own (sortD ds)) else none := Eq.trans rfl rfl
theorem sortA_l {ds : List PyData} (h : okSort ds = true) : bSortedA [.dat (.list ds)] = some (.own (sortD ds)) := by
  unfold bSortedA orC
  rw [q_sorted]
  simp [h]
end
end DL

set_option Elab.async false
set_option linter.all false
set_option maxRecDepth 100000
set_option maxHeartbeats 4000000
set_option autoImplicit false
/-! DL, part J: sum(tuple); loops with an early end. -/
namespace DL
open PySem PySem.Spec PyProof.Rows L2
section
variable {X : Cx}
def rSumT (K : PySem.W.Frag) : List V → Hp → VK → Prop := fun vs H Q => ∃ (a : Addr) (ns : List Int), vs = [V.ref a] ∧ SqT K H a (ns.map V.int) ∧ Q (.int ns.sum) H
theorem cr_sumT (hc : X.calm = true) : CallR X (.builtin "sum") (rSumT X.K) := by
  intro pins s σ H vs us Q I r h
  obtain ⟨a, ns, rfl, hs, q⟩ := h
  obtain ⟨its, rv, hl, _⟩ := I.tuple hs
  rw [Vals.ref1 r]
  have hi : IntsAre its ns := rv.ints
  have hl : s.heap.IsTuple a its.toArray := hl
  obtain ⟨xs, e⟩ := hi.allInts.items
  have hn : numsOf (intItems xs).toList = ns := by rw [← e]; exact hi.numsOf
  rw [nums_intItems] at hn
  rw [e] at hl
  refine PySem.W.ktm_sumG (I.ok.hd hc) hl fun h' tk t' hk => ?_
  rw [preSum_eq, List.take_of_length_le (by simp), hn]
  exact ⟨.int _, H, I.kept hk, ⟨_, rfl⟩, q⟩
end
section
variable {ι π τ : Type} {Y : ι → Cx} {K : PySem.W.Frag} {RR : π → Res τ} {Rs : Res τ}
def dSumT (x : Rv) : Option Rv := match x with
  | .dat (.tuple ds) => (intsOf ds).map fun ns => .dat (.int ns.sum)
  | _ => none
def bSumA : List Rv → Option Rv := orC bSum (fn1 dSumT)
theorem c_sumT (hc : ∀ i, (Y i).calm = true) (hK : ∀ i, (Y i).K = K) : CA Y K RR (.builtin "sum") (fn1 dSumT) := by
  refine ⟨rSumT K, fun i => by rw [← hK i]; exact cr_sumT (hc i), fun pp => csem1 fun s x z v G H Q e g r q => ?_⟩
  unfold dSumT at e
  split at e
  · rename_i ds
    cases e2 : intsOf ds with
    | none => rw [e2] at e; cases e
    | some ns =>
      rw [e2] at e
      cases e
      cases r with
      | tup hs ha =>
        have e3 := intsOf_eq e2
        subst e3
        have e4 := dpa_ints ns ha
        subst e4
        exact ⟨_, ns, rfl, sqT_mono g.le hs, post_now q g (Dp.int _) trivial⟩
  · cases e
theorem c_sumA (hc : ∀ i, (Y i).calm = true) (hK : ∀ i, (Y i).K = K) : CA Y K RR (.builtin "sum") bSumA := (c_sum hc hK).or (c_sumT hc hK)
@[simp] theorem q_sumAt {ns : List Int} : bSumA [.dat (.tuple (ns.map .int))] = some (.dat (.int ns.sum)) := by
  unfold bSumA orC
  simp [fn1, dSumT, dSumL]
@[simp] theorem q_sumAl {ns : List Int} : bSumA [.dat (.list (ns.map .int))] = some (.dat (.int ns.sum)) := by
  unfold bSumA orC
  simp [fn1, dSumL]
end
section
variable {τ : Type}
/-- a for that ends at the first that is met -/
theorem forGo_find {α β : Type} {env : α → Ev} {c : β → PyData} {f : α → β → α} {p : β → Bool} {r : β → Rv} {step : PyData → SF τ} {s : τ} : ∀ (L : List β) (a : α),
    (∀ a, ∀ b ∈ L, step (c b) (env a) s = if p b = true then some (.rt (r b), s) else some (.nx (env (f a b)), s)) →
    forGo step (L.map c) (env a) s = match L.find? p with
      | some b => some (.rt (r b), s)
      | none => some (.nx (env (L.foldl f a)), s)
  | [], a, _ => rfl
  | b :: L, a, h => by
    show (step (c b) (env a) s).bind _ = _
    rw [h a b List.mem_cons_self]
    by_cases hp : p b = true
    · rw [if_pos hp, List.find?_cons_of_pos hp]
      rfl
    · rw [if_neg hp, List.find?_cons_of_neg hp]
      exact forGo_find L (f a b) fun a' b' hb => h a' b' (List.mem_cons_of_mem _ hb)
theorem whileGo_no {c : BF τ} {body : SF τ} {n : Nat} {ρ : Ev} {s s1 : τ} (h : c ρ s = some (false, s1)) : whileGo c body (n + 1) ρ s = some (.nx ρ, s1) := by
  show (c ρ s).bind _ = _
  rw [h]
  rfl
theorem whileGo_yes {c : BF τ} {body : SF τ} {n : Nat} {ρ ρ1 : Ev} {s s1 s2 : τ} (h : c ρ s = some (true, s1)) (h2 : body ρ s1 = some (.nx ρ1, s2)) : whileGo c body (n + 1) ρ s = whileGo c body n ρ1 s2 := by
  show (c ρ s).bind _ = _
  rw [h]
  simp only [Option.bind_some, if_true, h2]
/-- a def that ends with nothing or with its last return -/
theorem rangeD_map1 {lo : Int} {n : Nat} : rangeD lo n = (List.range n).map fun i : Nat => PyData.int (lo + i) := rfl
/-- two ints made one from another until the second is 0 -/
theorem gcd_loop {c : BF Unit} {body : SF Unit} {env : Nat → Nat → Ev} (hc : ∀ a b, c (env a b) () = some (decide (b ≠ 0), ())) (hb : ∀ a b, b ≠ 0 → body (env a b) () = some (.nx (env b (a % b)), ())) : ∀ (n b a : Nat), b < n → whileGo c body n (env a b) () = some (.nx (env (Nat.gcd a b) 0), ())
  | 0, _, _, h => by omega
  | n + 1, b, a, h => by
    by_cases h0 : b = 0
    · subst h0
      rw [whileGo_no (s1 := ()) (by rw [hc]; simp)]
      simp
    · rw [whileGo_yes (s1 := ()) (s2 := ()) (by rw [hc]; simp [h0]) (hb a b h0)]
      have hlt : a % b < b := Nat.mod_lt _ (by omega)
      rw [gcd_loop hc hb n (a % b) b (by omega)]
      have : Nat.gcd b (a % b) = Nat.gcd a b := by
        rw [Nat.gcd_comm b (a % b), ← Nat.gcd_rec, Nat.gcd_comm]
      rw [this]
end
end DL

set_option Elab.async false
set_option linter.all false
set_option maxRecDepth 100000
set_option maxHeartbeats 4000000
set_option autoImplicit false
/-! DL, part K: sorted over tuples, the empty one among them. -/
namespace DL
open PySem PySem.Spec PySem.Calls PyProof.Rows PySem.W PySem.SeqAt
section
variable {prog : Program} {w : World} {A : Around} {s : Shared} {E : Value → Shared → Prop}
theorem call_tuple_lt {Q : Value → Shared → Prop} {l b : Addr} {items items2 : Array Value} {e r : Nat → Bool} (hl : s.heap.IsTuple l items) (hb : s.heap.IsTuple b items2)
    (he : ∀ j (h1 : j < items.size) (h2 : j < items2.size), EqAt A.in1 s items[j] items2[j] (e j)) (hr : ∀ j (h1 : j < items.size) (h2 : j < items2.size), e j = false → RcLt A.in1 s items[j] items2[j] (r j))
    (h : Q (.bool (firstLt e r (decide (items.size < items2.size)) (List.range (min items.size items2.size)))) s) : wpAny (model prog w) A (call (.builtin "tuple.__lt__") [.ref l, .ref b]) Q E s := by
  obtain ⟨⟨cls, dd, data, sl⟩, ho, hc, n, hd⟩ := id hl
  obtain ⟨⟨cls2, dd2, data2, sl2⟩, ho2, hc2, n2, hd2⟩ := id hb
  simp only at hc hd hc2 hd2
  subst hc hd hc2 hd2
  exact call_meets F.slot_tuple_lt ⟨_, ho, rfl⟩ F.entry_tuple_lt (F.args_tuple_lt_2 _ _) (tuple_ltAt l b items items2 n n2 dd dd2 sl sl2 e r) ⟨ho, ho2, he, hr, h⟩
theorem oneLt_tup {xs : List PyData} {db : PyData} {a b : Value} {as bs : List Addr} {Q : Bool → Shared → Prop} (ra : Reads s.heap a (.tuple xs) as) (rb : Reads s.heap b db bs) (h : alike (.tuple xs) db = true)
    (hu : A.units + min (PyData.tuple xs).depth db.depth < cLine) (hq : Q (dataLt (.tuple xs) db) s) : wpAny (model prog w) A (oneLt' true a b) Q E s := by
  cases db with
  | tuple ys =>
    have hal : alikeAll xs ys = true := by simpa [alike] using h
    cases ra with
    | @tuple l o vs n _ as₁ h1 h2 h3 h4 =>
      cases rb with
      | @tuple l' o' vs' n' _ bs₁ k1 k2 k3 k4 =>
        have n1 : vs.size = xs.length := by simpa using ReadsAll.length _ _ _ h4
        have n2 : vs'.size = ys.length := by simpa using ReadsAll.length _ _ _ k4
        rw [dataLt_tuple, ← firstLt_toks xs ys hal, ← n1, ← n2] at hq
        rw [oneLt'_eq]
        simp only [if_true]
        refine wpAny_bind (wpAny_cRoomFor (room_here hu) ?_)
        refine wpAny_bind (wpAny_callSpecialIfBound?_slot (T := "tuple") ⟨_, h1, h2⟩ F.slot_tuple_lt (call_tuple_lt (e := pairEq xs ys) (r := fun j => dataLt (xs.getD j .none) (ys.getD j .none)) ⟨_, h1, h2, _, h3⟩ ⟨_, k1, k2, _, k3⟩ (fun j j1 j2 => ?_) (fun j j1 j2 hj => ?_) ?_))
        · have := eqAt_alikeAll xs ys A.in1 s vs.toList vs'.toList _ _ h4 k4 hal (room_in hu) j (by simpa using j1) (by simpa using j2)
          simpa using this
        · have := rcLt_alikeAll xs ys A.in1 s vs.toList vs'.toList _ _ h4 k4 hal (room_in hu) j (by simpa using j1) (by simpa using j2) hj
          simpa using this
        · exact wpAny_truthy_bool hq
  | _ => exact absurd h (by simp [alike])
theorem mapM_each {α β : Type} {f : α → Sem β} : ∀ {l : List α} {rs : List β} {Q : List β → Shared → Prop}, EachIs (fun v r => ∀ (Q' : β → Shared → Prop), Q' r s → wpAny (model prog w) A (f v) Q' E s) l rs → Q rs s → wpAny (model prog w) A (l.mapM f) Q E s
  | _, _, _, .nil, h => by rw [List.mapM_nil]; exact wpAny_pure h
  | x :: l, _, Q, .cons (b := r) (bs := rs) hx t, h => by
    rw [List.mapM_cons]
    exact wpAny_bind (hx _ (wpAny_bind (mapM_each t (Q := fun bs s' => wpAny (model prog w) A (pure (r :: bs)) Q E s') (wpAny_pure h))))
def firstD : PyData → Bool
  | .tuple (_ :: _) => true
  | _ => false
theorem firsts_of : ∀ {vs : List Value} {ds : List PyData}, EachIs (fun v d => ∃ as, Reads s.heap v d as) vs ds → (∀ d ∈ ds, ∃ xs, d = .tuple xs) → ∃ rs : List (Option Value), EachIs (fun v r => ∀ (Q' : Option Value → Shared → Prop), Q' r s → wpAny (model prog w) A (firstOfTuple' v) Q' E s) vs rs ∧ rs.map (·.isSome) = ds.map firstD
  | _, _, .nil, _ => ⟨[], .nil, rfl⟩
  | _, _, .cons (a := v) (b := d) ⟨as, r⟩ t, ht => by
    obtain ⟨rs, h1, h2⟩ := firsts_of t fun d hd => ht d (List.mem_cons_of_mem _ hd)
    obtain ⟨xs, rfl⟩ := ht d (List.mem_cons_self ..)
    cases r with
    | @tuple a o us n _ _ ho hc hd hr =>
      have hl : us.size = xs.length := by simpa using ReadsAll.length _ _ _ hr
      refine ⟨us[0]? :: rs, .cons (fun Q' hq => ?_) h1, ?_⟩
      · rw [kas_first_eq]
        refine wpAny_bind (wpAny_typeOf (T := "tuple") ⟨o, ho, hc⟩ ?_)
        rw [if_neg (by decide)]
        exact wpAny_bind (listItems_at ho hd (wpAny_pure hq))
      · rw [List.map_cons, List.map_cons, h2]
        congr 1
        cases xs with
        | nil =>
          have : us[0]? = none := Array.getElem?_eq_none (by rw [hl]; exact Nat.le_refl _)
          rw [this]
          rfl
        | cons x xs =>
          have : 0 < us.size := by rw [hl]; exact Nat.succ_pos _
          rw [Array.getElem?_eq_getElem this]
          rfl
theorem SortsAt.tups {vs : List Value} {ds : List PyData} (e : EachIs (fun v d => ∃ as, Reads s.heap v d as) vs ds) (hal : AllAlike ds) (ht : ∀ d ∈ ds, ∃ xs, d = .tuple xs) (hne : ∃ d ∈ ds, firstD d = false) (hu : ∀ d, d ∈ ds → A.units + d.depth < cLine) : SortsAt prog w A s (dataKind s.heap ds) vs := by
  have room : ∀ {d d' : PyData}, d ∈ ds → A.units + min d.depth d'.depth < cLine := fun {d d'} hd => Nat.lt_of_le_of_lt (Nat.add_le_add_left (Nat.min_le_left _ _) _) (hu d hd)
  refine ⟨fun v hv => ?_, ?_⟩
  · obtain ⟨d, hd, as, r⟩ := e.left v hv
    exact ⟨_, dataKind_some hal hd r⟩
  · cases ds with
    | nil =>
      obtain ⟨d, hd, _⟩ := hne
      cases hd
    | cons d0 dr =>
      refine ⟨if firstD d0 = true then general' else oneType', ?_, fun h2 E Q hq => ?_⟩
      · intro E x y a b Q ha hb hq
        obtain ⟨d, as, hd, ra, rfl⟩ := dataKind_inv ha
        obtain ⟨d', as', hd', rb, rfl⟩ := dataKind_inv hb
        obtain ⟨xs, rfl⟩ := ht d hd
        split
        · exact oneLt_alike (f := false) (fun z => nomatch z) ra rb (hal _ hd d' hd') (fun z => nomatch z) (room hd) hq
        · rw [keyLt'_oneType]
          exact oneLt_tup ra rb (hal _ hd d' hd') (room hd) hq
      · obtain ⟨rs, r1, r2⟩ := firsts_of (prog := prog) (w := w) (A := A) (E := E) e ht
        rw [keyKind'_eq, List.mapM_toArray, map_eq_pure_bind]
        refine wpAny_bind (wpAny_bind (mapM_each r1 (wpAny_pure ?_)))
        have n1 : rs.toArray.all (·.isSome) = false := by
          rw [List.all_toArray, Bool.eq_false_iff]
          intro z
          obtain ⟨d, hd, hf⟩ := hne
          have : ∀ b ∈ rs.map (·.isSome), b = true := fun b hb => by
            obtain ⟨r, hr, rfl⟩ := List.mem_map.mp hb
            exact List.all_eq_true.mp z r hr
          rw [r2] at this
          have := this _ (List.mem_map.mpr ⟨d, hd, rfl⟩)
          rw [hf] at this
          cases this
        rw [if_neg (by rw [n1]; exact Bool.false_ne_true)]
        cases rs with
        | nil => simp at r2
        | cons r0 rr =>
          rw [List.map_cons, List.map_cons] at r2
          have r0f : r0.isSome = firstD d0 := (List.cons.inj r2).1
          have g0 : ((r0 :: rr).toArray[0]?.bind id).isSome = firstD d0 := by
            rw [← r0f]
            simp
          by_cases hf : firstD d0 = true
          · rw [if_pos (by rw [g0]; exact hf)]
            rw [if_pos hf] at hq
            exact wpAny_pure hq
          · rw [if_neg (by rw [g0]; exact hf)]
            rw [if_neg hf] at hq
            rw [oneTypeOnly'_eq, List.mapM_toArray, map_eq_pure_bind]
            have hT : ∀ v ∈ vs, Looks (model prog w) s.heap (typeOf v) (Value.type "tuple") := fun v hv => by
              obtain ⟨d, hd, as, r⟩ := e.left v hv
              obtain ⟨xs, rfl⟩ := ht d hd
              exact looks_reads r
            refine wpAny_bind (wpAny_bind (wpAny_bind (kas_mapM (r := Value.type "tuple") _ (fun v hv Q' hq => (hT v hv).here hq) (wpAny_pure ?_))))
            have hall : ((List.map (fun _ => Value.type "tuple") vs).toArray.all fun x => x == Value.type "tuple") = true := by
              simp only [List.all_toArray, List.all_map, List.all_eq_true]
              intro _ _
              exact beq_self_eq_true _
            have h0 : (List.map (fun _ => Value.type "tuple") vs).toArray[0]? = some (Value.type "tuple") := by
              cases vs with
              | nil => simp at h2
              | cons v vs => simp
            rw [h0]
            simp only [hall, if_true]
            exact wpAny_pure (wpAny_pure hq)
def isTupD : PyData → Bool
  | .tuple _ => true
  | _ => false
def okSortE (ds : List PyData) : Bool := (ds.all fun d => ds.all fun e => PySem.W.alike d e) && ds.all isTupD && ds.all fun d => decide (d.depth ≤ 64)
theorem okSortE_iff {ds : List PyData} (h : okSortE ds = true) : AllAlike ds ∧ (∀ d ∈ ds, ∃ xs, d = .tuple xs) ∧ ∀ d ∈ ds, d.depth ≤ 64 := by
  unfold okSortE at h
  rw [Bool.and_eq_true, Bool.and_eq_true] at h
  obtain ⟨⟨h1, h2⟩, h3⟩ := h
  refine ⟨fun d hd e he => List.all_eq_true.mp (List.all_eq_true.mp h1 d hd) e he, fun d hd => ?_, fun d hd => of_decide_eq_true (List.all_eq_true.mp h3 d hd)⟩
  have := List.all_eq_true.mp h2 d hd
  unfold isTupD at this
  split at this
  · exact ⟨_, rfl⟩
  · cases this
theorem sortsE {vs : List Value} {ds : List PyData} (e : EachIs (fun v d => ∃ as, Reads s.heap v d as) vs ds) (hal : AllAlike ds) (ht : ∀ d ∈ ds, ∃ xs, d = .tuple xs) (hu : ∀ d, d ∈ ds → A.units + d.depth < cLine) : SortsAt prog w A s (dataKind s.heap ds) vs := by
  by_cases h : ∃ d ∈ ds, firstD d = false
  · exact SortsAt.tups e hal ht h hu
  · refine SortsAt.data e hal (.inl fun d hd => ?_) hu
    obtain ⟨xs, rfl⟩ := ht d hd
    cases xs with
    | nil => exact absurd ⟨_, hd, rfl⟩ h
    | cons x xs => exact ⟨x, xs, rfl⟩
theorem sorted_dataE {β : Type} {R : Value → β → Prop} {bs : List β} {enc : β → PyData} {vs : List Value} {l : Addr} {Q : Value → Shared → Prop} (hl : s.heap.IsList l vs.toArray ∨ ∃ o n, s.heap.get? l = some o ∧ o.cls = .type "tuple" ∧ o.data = .seq vs.toArray n)
    (e : EachIs R vs bs) (er : EachIs (fun v b => ∃ as, Reads s.heap v (enc b) as) vs bs) (hal : AllAlike (bs.map enc)) (hk : ∀ d ∈ bs.map enc, ∃ xs, d = .tuple xs) (hL : bs.length ≤ sizeLine)
    (hu : ∀ b, b ∈ bs → A.units + 2 + (enc b).depth < cLine) (h : ∀ out, out.length = bs.length → EachIs R out (bs.mergeSort (dataLe false enc)) → Q (.ref (s.heap.objs.size + 1)) { s with heap := sortedAll s.heap vs (List.toArray out) }) :
    wpAny (model prog w) A (call (.builtin "sorted") [.ref l]) Q E s := by
  have er' : EachIs (fun v b => ∃ as, Reads (sortingHeap (copyHeap s.heap vs) (s.heap.objs.size + 1) vs) v (enc b) as) vs bs := er.mono fun _ _ ⟨as, r⟩ => ⟨as, PyProof.Rows.Reads.keeps (fun _ _ => sorting_copy_old) r⟩
  have S : SortsAt prog w A.in1.in1 { s with heap := sortingHeap (copyHeap s.heap vs) (s.heap.objs.size + 1) vs } (dataKind (sortingHeap (copyHeap s.heap vs) (s.heap.objs.size + 1) vs) (bs.map enc)) vs :=
    sortsE (s := { s with heap := sortingHeap (copyHeap s.heap vs) (s.heap.objs.size + 1) vs }) (each_map (R := fun v d => ∃ as, Reads (sortingHeap (copyHeap s.heap vs) (s.heap.objs.size + 1) vs) v d as) enc er') hal hk (bound_map hu)
  have fin := h _ (by rw [sortVals_length false rfl]; exact e.length) (sortVals_data false e er' hal)
  rcases hl with hl | ⟨o, n, ho, hc, hd⟩
  · exact sorted_vals hl S (by rw [e.length]; exact hL) fin
  · exact sorted_valsT ho hc hd S (by rw [e.length]; exact hL) fin
end
end DL
namespace DL
open PySem PySem.Spec PyProof.Rows L2
section
variable {X : Cx}
def rSortE (K : PySem.W.Frag) : List V → Hp → VK → Prop := fun xs H Q => ∃ a vs ds, xs = [.ref a] ∧ (SqL K H a vs ∨ SqT K H a vs) ∧ DpAll K H vs ds ∧ okSortE ds = true ∧ ∀ p, H p = none → Q (.ref p) (upd H p (.lst (srtV ds vs)))
theorem cr_sortE {k : Nat} (hr : Room k X.A) : CallR X (.builtin "sorted") (rSortE X.K) := by
  intro pins s σ H xs us Q I r h
  obtain ⟨a, vs, ds, rfl, hs, ha, ok, q⟩ := h
  obtain ⟨ok1, ok2, ok3⟩ := okSortE_iff ok
  obtain ⟨its, rv, hl, hz⟩ : ∃ its, Vals vs its ∧ (s.heap.IsList a its.toArray ∨ ∃ o n, s.heap.get? a = some o ∧ o.cls = .type "tuple" ∧ o.data = .seq its.toArray n) ∧ vs.length ≤ sizeLine := by
    rcases hs with hs | hs
    · obtain ⟨its, rv, hl, hz⟩ := I.list hs
      exact ⟨its, rv, .inl hl.isList, hz⟩
    · obtain ⟨its, rv, ⟨o, ho, hc, n, hd⟩, hz⟩ := I.tuple hs
      exact ⟨its, rv, .inr ⟨o, n, ho, hc, hd⟩, hz⟩
  obtain ⟨u, rfl, ru⟩ := vals1 r
  obtain rfl : u = Value.ref a := ru
  obtain ⟨as, rd⟩ := Dp.readsAll I ds vs its ha rv
  have hlen := dpa_len ha
  have mf : (ds.zip vs).map Prod.fst = ds := List.map_fst_zip (by rw [hlen]; exact Nat.le_refl _)
  refine sorted_dataE (vs := its) (bs := ds.zip vs) (enc := Prod.fst) (R := fun u b => RelV b.2 u) hl (zip_vals rv hlen) (zip_reads rd hlen) (by rw [mf]; exact ok1) (by rw [mf]; exact ok2) (by rw [List.length_zip, hlen, Nat.min_self, ← hlen]; exact hz) (fun b hb => ?_) fun out ho eo => ?_
  · have h1 : b.1 ∈ ds := by rw [← mf]; exact List.mem_map.mpr ⟨b, hb, rfl⟩
    have := ok3 _ h1
    have := hr.un
    omega
  · obtain ⟨n, hn⟩ := sortedAll_at s.heap its (List.toArray out)
    have e : (ds.zip vs).mergeSort (PySem.W.dataLe false Prod.fst) = (ds.zip vs).mergeSort fun a b => leD a.1 b.1 := rfl
    rw [e] at eo
    refine ⟨.ref (s.heap.objs.size + 1), upd H (s.heap.objs.size + 1) (.lst (srtV ds vs)), I.laid (t' := s.toks) (fun b o e => sortedAll_old e) (Nat.le_succ _) ⟨?_, out, n, vals_of_each eo, hn⟩, rfl, q _ (I.hok.fresh (Nat.le_succ _))⟩
    rw [srt_len hlen]
    exact hz
end
section
variable {ι π τ : Type} {Y : ι → Cx} {K : PySem.W.Frag} {RR : π → Res τ} {Rs : Res τ}
def dSortE (x : Rv) : Option Rv := (itemsOf x).bind fun ds => if okSortE ds = true then some (.own (sortD ds)) else none
def bSortedE : List Rv → Option Rv := orC (fn1 dSortE) bSortedA
theorem c_sortE {k : Nat} (hr : ∀ i, Room k (Y i).A) (hK : ∀ i, (Y i).K = K) : CA Y K RR (.builtin "sorted") (fn1 dSortE) := by
  refine ⟨rSortE K, fun i => by rw [← hK i]; exact cr_sortE (hr i), fun pp => csem1 fun s x z v G H Q e g r q => ?_⟩
  unfold dSortE at e
  cases e1 : itemsOf x with
  | none => rw [e1] at e; cases e
  | some ds =>
    rw [e1] at e
    simp only [Option.bind_some] at e
    split at e
    · rename_i ok
      cases e
      obtain ⟨p, vs, rfl, hq, ha⟩ := r.seq g.le e1
      exact ⟨p, vs, ds, rfl, hq, dpa_mono g.le ds _ ha, ok, fun l hl => post_own q g hl (srt_dpa ha)⟩
    · cases e
theorem c_sortedE {k : Nat} (hr : ∀ i, Room k (Y i).A) (hK : ∀ i, (Y i).K = K) : CA Y K RR (.builtin "sorted") bSortedE := (c_sortE hr hK).or (c_sortedA hr hK)
theorem sortE_of {x : Rv} {ds : List PyData} (h : itemsOf x = some ds) (ok : okSortE ds = true) : bSortedE [x] = some (.own (sortD ds)) := by
  unfold bSortedE orC
  show (match dSortE x with | some r => some r | none => bSortedA [x]) = _
  unfold dSortE
  rw [h, Option.bind_some, if_pos ok]
theorem okSortE_tups (L : List (List Nat)) : okSortE (L.map tup) = true := by
  unfold okSortE
  simp only [Bool.and_eq_true, List.all_eq_true, decide_eq_true_eq]
  refine ⟨⟨fun d hd e he => ?_, fun d hd => ?_⟩, fun d hd => ?_⟩
  · obtain ⟨s, _, rfl⟩ := List.mem_map.mp hd
    obtain ⟨t, _, rfl⟩ := List.mem_map.mp he
    exact alike_tup
  · obtain ⟨s, _, rfl⟩ := List.mem_map.mp hd
    rfl
  · obtain ⟨s, _, rfl⟩ := List.mem_map.mp hd
    exact Nat.le_trans pd_tup.2 (by decide)
end
end DL
namespace DL
open PySem PySem.Spec PyProof.Rows L2
theorem tup_mul0 (l : Addr) (items : Array Value) (n : Nat) (dd : Option Addr) (sl : Array (Option Value)) (u : Tok) (hi : items.isEmpty = false) :
    Meets (Builtin.«tuple.__mul__» ⟨[.ref l, .int 0 u], []⟩) (fun _ R s => s.heap.get? l = some { cls := .type "tuple", dict := dd, data := .seq items n, slots := sl } ∧
      R (.ok (.ret (Value.ref s.heap.objs.size))) { s with heap := s.heap.push { cls := Value.type "tuple", data := Data.seq #[] }, toks := s.toks }) :=
  .of_wp fun prog w A R s h => by
    obtain ⟨hp, g, d, tk, os⟩ := s
    obtain ⟨hl, h⟩ := h
    have f1 := AutoSeq1.idx_int
    have c1 : (items.isEmpty || (0 : Int) == 1) = false := by rw [hi]; rfl
    have c2 : (decide ((0 : Int) ≤ 0) || items.isEmpty) = true := by simp
    wp_walk using wpAny_loadPart' hl
    repeat (first
      | (refine wpAny_ite_false (decide_eq_false (by rw [c1]; exact Bool.false_ne_true)) ?_; wp_walk using wpAny_loadPart' hl)
      | (refine wpAny_ite_true (decide_eq_true c2) ?_; wp_walk using wpAny_loadPart' hl))
    all_goals exact ⟨_, rfl, h⟩
section
variable {X : Cx}
def rRep0 (K : PySem.W.Frag) : R2 := fun x y H Q => ∃ l xs, x = .ref l ∧ y = .int 0 ∧ SqT K H l xs ∧ xs ≠ [] ∧ ∀ p, H p = none → Q (.ref p) (upd H p (.tup []))
theorem op_rep0 : OpR X (binaryOp .Mult) (rRep0 X.K) := by
  intro pins s σ H x y v u Q I rx ry h
  obtain ⟨l, xs, rfl, rfl, hT, hne, q⟩ := h
  cases rx
  obtain ⟨t, rfl⟩ := ry
  obtain ⟨its, r, ⟨⟨cls, dd, data, sl⟩, ho, hc, n, hd⟩, hs⟩ := I.tuple hT
  simp only at hc hd
  subst hc hd
  have hle : its.length = xs.length := r.length.symm
  have hi : its.toArray.isEmpty = false := by
    cases its with
    | nil => exact absurd (List.eq_nil_of_length_eq_zero hle.symm) hne
    | cons a b => rfl
  refine wpAny_binaryOp_repeat_ref (T := "tuple") (U := "int") (by decide) ⟨_, ho, rfl⟩ (fun s' => typeIs_int s' 0 t) noFill_tuple_mul F.fills_int_mul F.slot_int_rmul repeat_tuple F.slot_int_index.lookup
    (call_meets F.slot_int_rmul (typeIs_int s 0 t) F.entry_int_rmul (F.args_int_rmul_2 _ _) (int_rmul_tuple 0 t l its.toArray n dd sl)
      ⟨ho, rfl, ⟨_, ho, rfl⟩, call_meets F.slot_tuple_mul ⟨_, ho, rfl⟩ F.entry_tuple_mul (F.args_tuple_mul_2 _ _) (tup_mul0 l its.toArray n dd sl t hi) ⟨ho, ?_⟩⟩)
  refine ⟨.ref s.heap.objs.size, _, I.laid (t' := s.toks) (o := .tup []) (fun b ob q => Heap.get?_push_of_some _ q) (Nat.le_refl _) ?_, rfl, q _ (I.hok.fresh (Nat.le_refl _))⟩
  exact ⟨Nat.zero_le _, [], .nil, IsTup.new _ _⟩
end
section
variable {ι π τ : Type} {Y : ι → Cx} {K : PySem.W.Frag} {RR : π → Res τ} {Rs : Res τ}
def dRep0 (x y : Rv) : Option Rv := match x, y with
  | .dat (.tuple ds), .dat (.int k) => if k = 0 ∧ ds.isEmpty = false then some (.dat (.tuple [])) else none
  | _, _ => none
theorem o_rep0 (hK : ∀ i, (Y i).K = K) : OX Y K RR (binaryOp .Mult) dRep0 := by
  refine ⟨rRep0 K, fun i => by rw [← hK i]; exact op_rep0, fun pp s x y r v w G H Q e gh rx ry q => ?_⟩
  unfold dRep0 at e
  split at e
  · split at e
    · rename_i hk
      cases e
      obtain ⟨rfl, hk⟩ := hk
      cases rx with
      | tup h1 a1 =>
        cases ry
        refine ⟨_, _, rfl, rfl, sqT_mono gh.le h1, fun z => ?_, fun p hp => post_tup q gh hp .nil⟩
        subst z
        cases a1
        simp at hk
    · cases e
  · cases e
abbrev dMulZ : Rv → Rv → Option Rv := orR dMulA dRep0
theorem o_mulZ (hK : ∀ i, (Y i).K = K) : OX Y K RR (binaryOp .Mult) dMulZ := (o_mulA hK).or (o_rep0 hK)
end
end DL

set_option Elab.async false
set_option linter.all false
set_option maxRecDepth 100000
set_option maxHeartbeats 4000000
set_option autoImplicit false
/-! DL, part L: x, y = (data, a new list). -/
namespace DL
open PySem PySem.Spec PyProof.Rows L2
section
variable {ι π τ : Type} {Y : ι → Cx} {K : PySem.W.Frag} {RR : π → Res τ} {Rs : Res τ}
def dPar2 (i j : Nat) (fa fb : EF τ) : SF τ := fun ρ s => (fa ρ s).bind fun x => (fb ρ x.2).bind fun y => match x.1 with
  | .dat a => (setSlot i (.dat a) ρ).bind fun ρ1 => (setSlot j y.1 ρ1).map fun ρ2 => (.nx ρ2, y.2)
  | _ => none
theorem s_par2 {i j : Nat} {x y : Str} {a b : Expr} {fa fb : EF τ} {px py pt pos : Pos} {kt k2 : Nat} {pt2 : Pos} (hK : ∀ l, (Y l).K = K) (hc : ∀ l, (Y l).calm = true) (hN : ∀ l, (Y l).N.Nodup) (ha : EX Y K RR a fa) (hb : EX Y K RR b fb)
    (hi : ∀ l, (Y l).N[i]? = some x := by intro _; rfl) (hj : ∀ l, (Y l).N[j]? = some y := by intro _; rfl)
    (hx : ∀ l, Loc (Y l).env.scope x := by intro _; first | exact Or.inl rfl | exact Or.inr rfl) (hy : ∀ l, Loc (Y l).env.scope y := by intro _; first | exact Or.inl rfl | exact Or.inr rfl)
    (hfx : ∀ l, (Y l).fn x = true ∨ (Y l).env.scope.names.lookup x = some .local := by intro _; first | exact .inl rfl | exact .inr rfl) (hfy : ∀ l, (Y l).fn y = true ∨ (Y l).env.scope.names.lookup y = some .local := by intro _; first | exact .inl rfl | exact .inr rfl)
    (e1 : ∀ l, starEach [a, b] (Y l).env = (false, eval a (Y l).env) :: starEach [b] (Y l).env := by intro _; rfl) (e2 : ∀ l, starEach [b] (Y l).env = (false, eval b (Y l).env) :: starEach [] (Y l).env := by intro _; rfl)
    (n1 : ∀ l, (assignEach [.Name x px, .Name y py] (Y l).env).length = 2 := by intro _; rfl) (n2 : ∀ l, (assignEach [.Name x px, .Name y py] (Y l).env).findIdx? (·.1) = none := by intro _; rfl)
    (m1 : ∀ l, (assignEach [.Name x px, .Name y py] (Y l).env).map (·.2) = assign (.Name x px) (Y l).env :: (assignEach [.Name y py] (Y l).env).map (·.2) := by intro _; rfl) (m2 : ∀ l, (assignEach [.Name y py] (Y l).env).map (·.2) = assign (.Name y py) (Y l).env :: (assignEach [] (Y l).env).map (·.2) := by intro _; rfl)
    (hs : ∀ l, swapsWithSole [.Tuple [.Name x px, .Name y py] kt pt] (.Tuple [a, b] k2 pt2) pos.line (Y l).env = pure false := by intro _; rfl) (hw : ∀ l, swappedStores [.Tuple [.Name x px, .Name y py] kt pt] (.Tuple [a, b] k2 pt2) (Y l).env = pure none := by intro _; rfl)
    (h1 : ∀ l, (assignEach [.Tuple [.Name x px, .Name y py] kt pt] (Y l).env).map (·.2) = [assign (.Tuple [.Name x px, .Name y py] kt pt) (Y l).env] := by intro _; rfl) :
    SX Y K RR (.Assign [.Tuple [.Name x px, .Name y py] kt pt] (.Tuple [a, b] k2 pt2) pos) (dPar2 i j fa fb) := by
  obtain ⟨t1, a1, a2⟩ := ha
  obtain ⟨t2, b1, b2⟩ := hb
  have pg : ∀ l, PG (Y l) (.Tuple [.Name x px, .Name y py] kt pt) (gTup K 2 _) := fun l => by
    rw [← hK l]
    exact pg_tup (hc l) (pgs_cons (pg_name (hN l) (hi l) (hx l) (hfx l)) (pgs_cons (pg_name (hN l) (hj l) (hy l) (hfy l)) pgs_nil (m2 l)) (m1 l)) (n1 l) (n2 l)
  refine ⟨_, fun l => ps_asg (pe_tup (pa_cons (a1 l) (pa_cons (b1 l) pa_nil (e2 l)) (e1 l))) (pg l) (hs l) (hw l) (h1 l), fun pp G0 H0 ρ s o s' σ G H D e si g0 q => ?_⟩
  unfold dPar2 at e
  cases f1 : fa ρ s with
  | none => rw [f1] at e; cases e
  | some u =>
    obtain ⟨u, s1⟩ := u
    rw [f1] at e
    simp only [Option.bind_some] at e
    cases f2 : fb ρ s1 with
    | none => rw [f2] at e; cases e
    | some v =>
      obtain ⟨v, s2⟩ := v
      rw [f2] at e
      simp only [Option.bind_some] at e
      split at e
      · rename_i d
        cases f3 : setSlot i (.dat d) ρ with
        | none => rw [f3] at e; cases e
        | some ρ1 =>
          rw [f3] at e
          simp only [Option.bind_some] at e
          cases f4 : setSlot j v ρ1 with
          | none => rw [f4] at e; cases e
          | some ρ2 =>
            rw [f4] at e
            cases e
            refine a2 pp G0 H0 ρ s _ s1 σ G H _ f1 si g0 fun v1 G1 H1 g1 x1 r1 _ => ?_
            refine b2 pp G0 H0 ρ s1 v _ σ G1 H1 _ f2 (si.ext x1) g1 fun v2 G2 H2 g2 x2 r2 fr2 => ?_
            refine ⟨by show 2 ≤ sizeLine; rw [sizeLine_eq]; omega, fun p hp => ?_⟩
            unfold setSlot at f3
            rw [if_neg (by simp [isBor])] at f3
            split at f3
            · rename_i li
              cases f3
              unfold setSlot at f4
              split at f4
              · cases f4
              · rename_i nb
                split at f4
                · rename_i lj
                  cases f4
                  have s1' := (si.ext x1).set li r1 (show FreeOwn ρ σ H0 v1 (.dat d) from trivial) rfl
                  have fo := s1'.freeOwn fr2
                  have x3 : Ext (RR pp).foot G2 H2 G2 (upd H2 p (.tup [v1, v2])) := .new hp
                  have s2' := (s1'.ext (x2.trans x3)).set lj (r2.ext x3) fo (Bool.eq_false_iff.mpr nb)
                  exact ⟨p, [v1, v2], rfl, SqT.of upd_same, rfl, _, _, rfl, _, _, rfl, rfl, q _ G2 _ s2' (g2.new hp) (leG_tr x1.g x2.g)⟩
                · cases f4
            · cases f3
      · cases e
end
section
variable {τ : Type} {ρ : Ev} {s : τ}
@[simp] theorem q_par2 {i j : Nat} {fa fb : EF τ} : dPar2 i j fa fb ρ s = (fa ρ s).bind fun x => (fb ρ x.2).bind fun y => match x.1 with
  | .dat a => (setSlot i (.dat a) ρ).bind fun ρ1 => (setSlot j y.1 ρ1).map fun ρ2 => (.nx ρ2, y.2)
  | _ => none := Eq.trans rfl rfl
end
end DL

set_option Elab.async false
set_option linter.all false
set_option maxRecDepth 100000
set_option maxHeartbeats 4000000
set_option autoImplicit false
namespace K87
open PySem PySem.Spec PyProof.Rows L2 DL
abbrev topS (i : Nat) : Stmt := PySem.Challenge.pw_forewarned_k87_posts_that_look_at_one_an.main.body.getD i (.Pass ⟨0, 0, 0, 0⟩)
abbrev s_may_be_bad : Stmt := topS 1
abbrev s_sets_of : Stmt := topS 2
abbrev s_all_bad : Stmt := topS 3
abbrev s_surely_bad : Stmt := topS 4
abbrev s_surely_well : Stmt := topS 5
abbrev s__law_draws : Stmt := topS 7
abbrev s__law_next : Stmt := topS 8
abbrev s__law_pick : Stmt := topS 9
abbrev s__law_says : Stmt := topS 10
abbrev s__law_same : Stmt := topS 11
abbrev s__law_sets : Stmt := topS 12
abbrev s__law_agrees : Stmt := topS 13
abbrev s__law_pairs : Stmt := topS 14
abbrev s_law : Stmt := topS 15
structure Top (K : PySem.W.Frag) (mg : Str → Option Value) : Prop where
  d_may_be_bad : Lk K mg "may_be_bad" s_may_be_bad
  d_sets_of : Lk K mg "sets_of" s_sets_of
  d_all_bad : Lk K mg "all_bad" s_all_bad
  d_surely_bad : Lk K mg "surely_bad" s_surely_bad
  d_surely_well : Lk K mg "surely_well" s_surely_well
  d__law_draws : Lk K mg "_law_draws" s__law_draws
  d__law_next : Lk K mg "_law_next" s__law_next
  d__law_pick : Lk K mg "_law_pick" s__law_pick
  d__law_says : Lk K mg "_law_says" s__law_says
  d__law_same : Lk K mg "_law_same" s__law_same
  d__law_sets : Lk K mg "_law_sets" s__law_sets
  d__law_agrees : Lk K mg "_law_agrees" s__law_agrees
  d__law_pairs : Lk K mg "_law_pairs" s__law_pairs
  b_abs : mg "abs" = none
  b_all : mg "all" = none
  b_any : mg "any" = none
  b_bool : mg "bool" = none
  b_int : mg "int" = none
  b_isinstance : mg "isinstance" = none
  b_len : mg "len" = none
  b_min : mg "min" = none
  b_range : mg "range" = none
  b_sorted : mg "sorted" = none
  b_str : mg "str" = none
  b_tuple : mg "tuple" = none
section
variable {P : Program} {w : World} {K : PySem.W.Frag} {mg : Str → Option Value} {base : Heap}
theorem sc_may_be_bad : FnScope ["many", "looks", "bad", "post", "a", "b", "word"] ["many", "looks", "bad"] (defScope s_may_be_bad) := ⟨rfl, rfl, rfl, by decide +kernel, rfl, by decide +kernel, by decide +kernel⟩
abbrev g_may_be_bad : SF Unit := (dSeq (dIfS (dNot (dTest (dCall bAll (dCons (dLc [3] (dItems (dVar 2)) (setSlot 3) dYes (dFrz (dChain dLe dLt (dC (.dat (.int 0))) (dVar 3) (dVar 0)))) dNil)))) (dRet (dC (.dat (.bool false)))) dSkip) (dRet (dCall bAll (dCons (dLc [4, 5, 6] (dItems (dVar 1)) (setTup 3 (gConsD (setSlot 4) (gConsD (setSlot 5) (gConsD (setSlot 6) gNilD)))) (dTest (dBin (dIn true) (dVar 4) (dVar 2))) (dFrz (dBin dEq (dBin dEq (dVar 6) (dC (.dat (.str "bad")))) (dBin (dIn false) (dVar 5) (dVar 2))))) dNil))))
def F_may_be_bad : List Rv → Unit → Option (Rv × Unit) := dFunc 3 7 g_may_be_bad
theorem ok_may_be_bad (T : Top K mg) : Cal P w K mg base RUf "may_be_bad" 1 3 F_may_be_bad :=
  cal_mk (ps := ["many", "looks", "bad"]) T.d_may_be_bad (fun f fd F => F.binds fun _ _ _ _ _ _ us hl => match us, hl with | [_, _, _], _ => rfl) (fun f fd F => fn_ok (N := ["many", "looks", "bad", "post", "a", "b", "word"]) (k := 0) F sc_may_be_bad fun cdv A outer s H E hr =>
    (b_cons (s_if (t_not (t_val (e_callB (c_all (fun _ => rfl) (fun _ => rfl)) (fun _ => rfl) (fun _ => T.b_all) (by decide +kernel) (a_cons (e_lc (fun _ => rfl) (fun _ => sc_may_be_bad.nd) (own := [("post", 3)]) (i_seq (fun _ => rfl) (e_var 2)) (fun _ => blkOk_by (by rfl)) (g_name (i := 3) (fun _ => sc_may_be_bad.nd)) ts_nil (e_chain (o_le (fun _ => hr) (fun _ => rfl)) (o_lt (fun _ => hr) (fun _ => rfl)) e_int (e_var 3) (e_var 0)) (by decide)) a_nil)))) (b_one (s_ret e_bool)) b_nil)
    (b_one (s_ret (e_callB (c_all (fun _ => rfl) (fun _ => rfl)) (fun _ => rfl) (fun _ => T.b_all) (by decide +kernel) (a_cons (e_lc (fun _ => rfl) (fun _ => sc_may_be_bad.nd) (own := [("a", 4), ("b", 5), ("word", 6)]) (i_seq (fun _ => rfl) (e_var 1)) (fun _ => blkOk_by (by rfl)) (g_tup (fun _ => rfl) (fun _ => rfl) (gs_cons (g_name (i := 4) (fun _ => sc_may_be_bad.nd)) (gs_cons (g_name (i := 5) (fun _ => sc_may_be_bad.nd)) (gs_cons (g_name (i := 6) (fun _ => sc_may_be_bad.nd)) gs_nil)))) (ts_one (t_cmp (o_notin (fun _ => hr) (fun _ => rfl)) (e_var 4) (e_var 2))) (e_cmp (o_eq (fun _ => hr) (fun _ => rfl)) (e_cmp (o_eq (fun _ => hr) (fun _ => rfl)) (e_var 6) e_str) (e_cmp (o_in (fun _ => hr) (fun _ => rfl)) (e_var 5) (e_var 2))) (by decide)) a_nil))))))
theorem sc_sets_of : FnScope ["many", "most", "layer", "found", "_", "longer", "row", "post"] ["many", "most"] (defScope s_sets_of) := ⟨rfl, rfl, rfl, by decide +kernel, rfl, by decide +kernel, by decide +kernel⟩
abbrev g_sets_of : SF Unit := (dSeq (dSet 2 (dFrz (dLst (dCons (dTup dNil) dNil)))) (dSeq (dSet 3 (dLst (dCons (dTup dNil) dNil))) (dSeq (dFor (dRange (dCons (dCall (fn2 dMin2) (dCons (dVar 1) (dCons (dVar 0) dNil))) dNil)) (setSlot 4) (dSeq (dSet 5 (dLst dNil)) (dSeq (dFor (dItemsS (dVar 2)) (setSlot 6) (dExtend 5 (dLc [7] (dRange (dCons (dIf (dTest (dBin dNe (dVar 6) (dTup dNil))) (dBin dAdd (dBin dIx (dVar 6) (dUn dNeg (dC (.dat (.int 1))))) (dC (.dat (.int 1)))) (dC (.dat (.int 0)))) (dCons (dVar 0) dNil))) (setSlot 7) dYes (dFrz (dBin dAdd (dVar 6) (dTup (dCons (dVar 7) dNil))))))) (dSeq (dFrzS 5 (dSet 2 (dVar 5))) (dExtend 3 (dVar 2)))))) (dFrzS 3 (dRet (dVar 3))))))
def F_sets_of : List Rv → Unit → Option (Rv × Unit) := dFunc 2 8 g_sets_of
theorem ok_sets_of (T : Top K mg) : Cal P w K mg base RUf "sets_of" 1 2 F_sets_of :=
  cal_mk (ps := ["many", "most"]) T.d_sets_of (fun f fd F => F.binds fun _ _ _ _ _ _ us hl => match us, hl with | [_, _], _ => rfl) (fun f fd F => fn_ok (N := ["many", "most", "layer", "found", "_", "longer", "row", "post"]) (k := 0) F sc_sets_of fun cdv A outer s H E hr =>
    (b_cons (s_set (i := 2) (fun _ => sc_sets_of.nd) (e_frz (e_lst (a_cons (e_tup a_nil) a_nil))))
    (b_cons (s_set (i := 3) (fun _ => sc_sets_of.nd) (e_lst (a_cons (e_tup a_nil) a_nil)))
    (b_cons (s_for (fun _ => PassesOwn.never) (fun _ => rfl) (iS_range1 (fun _ => rfl) (fun _ => T.b_range) (a_cons (e_callB (c_min2 (fun _ => rfl)) (fun _ => rfl) (fun _ => T.b_min) (by decide +kernel) (a_cons (e_var 1) (a_cons (e_var 0) a_nil))) a_nil) (len_cons1 len_nil)) (g_name (i := 4) (fun _ => sc_sets_of.nd)) (b_cons (s_set (i := 5) (fun _ => sc_sets_of.nd) (e_lst a_nil))
    (b_cons (s_for (fun _ => PassesOwn.never) (fun _ => rfl) (iS_seq (fun _ => rfl) (e_var 2)) (g_name (i := 6) (fun _ => sc_sets_of.nd)) (b_one (s_extend (i := 5) (fun _ => rfl) (e_lc (fun _ => rfl) (fun _ => sc_sets_of.nd) (own := [("post", 7)]) (i_range2 (fun _ => rfl) (fun _ => T.b_range) (a_cons (e_if (t_cmp (o_ne (fun _ => hr) (fun _ => rfl)) (e_var 6) (e_tup a_nil)) (e_bin (o_add (fun _ => rfl)) (e_ix (fun _ => rfl) (e_var 6) (e_neg e_int)) e_int) e_int) (a_cons (e_var 0) a_nil)) (len_cons1 (len_cons1 len_nil))) (fun _ => blkOk_by (by rfl)) (g_name (i := 7) (fun _ => sc_sets_of.nd)) ts_nil (e_bin (o_add (fun _ => rfl)) (e_var 6) (e_tup (a_cons (e_var 7) a_nil))) (by decide)))))
    (b_cons (s_frz 5 (s_set (i := 2) (fun _ => sc_sets_of.nd) (e_var 5)))
    (b_one (s_extend (i := 3) (fun _ => rfl) (e_var 2)))))))
    (b_one (s_frz 3 (s_ret (e_var 3))))))))
theorem sc_all_bad : FnScope ["many", "looks", "most", "bad"] ["many", "looks", "most"] (defScope s_all_bad) := ⟨rfl, rfl, rfl, by decide +kernel, rfl, by decide +kernel, by decide +kernel⟩
abbrev g_all_bad : SF Unit := (dRet (dCall bTuple (dCons (dCall bSortedE (dCons (dLc [3] (dItems (dFn F_sets_of (dCons (dVar 0) (dCons (dVar 2) dNil)))) (setSlot 3) (dTest (dFn F_may_be_bad (dCons (dVar 0) (dCons (dVar 1) (dCons (dVar 3) dNil))))) (dFrz (dVar 3))) dNil)) dNil)))
def F_all_bad : List Rv → Unit → Option (Rv × Unit) := dFunc 3 4 g_all_bad
theorem ok_all_bad (T : Top K mg) : Cal P w K mg base RUf "all_bad" 2 3 F_all_bad :=
  cal_mk (ps := ["many", "looks", "most"]) T.d_all_bad (fun f fd F => F.binds fun _ _ _ _ _ _ us hl => match us, hl with | [_, _, _], _ => rfl) (fun f fd F => fn_ok (N := ["many", "looks", "most", "bad"]) (k := 1) F sc_all_bad fun cdv A outer s H E hr =>
    (b_one (s_ret (e_callTy (c_tuple (fun _ => rfl)) (fun _ => rfl) (fun _ => T.b_tuple) (by decide +kernel) (a_cons (e_callB (c_sortedE (fun _ => hr) (fun _ => rfl)) (fun _ => rfl) (fun _ => T.b_sorted) (by decide +kernel) (a_cons (e_lc (fun _ => rfl) (fun _ => sc_all_bad.nd) (own := [("bad", 3)]) (i_seq (fun _ => rfl) (e_callC (ok_sets_of T) (fun _ => ⟨rfl, rfl, rfl, rfl, rfl⟩) (fun _ => hr) (by decide +kernel) (fun _ => rfl) (a_cons (e_var 0) (a_cons (e_var 2) a_nil)) (len_cons1 (len_cons1 len_nil)) rfl)) (fun _ => blkOk_by (by rfl)) (g_name (i := 3) (fun _ => sc_all_bad.nd)) (ts_one (t_val (e_callC (ok_may_be_bad T) (fun _ => ⟨rfl, rfl, rfl, rfl, rfl⟩) (fun _ => hr) (by decide +kernel) (fun _ => rfl) (a_cons (e_var 0) (a_cons (e_var 1) (a_cons (e_var 3) a_nil))) (len_cons1 (len_cons1 (len_cons1 len_nil))) rfl))) (e_var 3) (by decide)) a_nil)) a_nil)))))
theorem sc_surely_bad : FnScope ["many", "looks", "most", "able", "post", "bad"] ["many", "looks", "most"] (defScope s_surely_bad) := ⟨rfl, rfl, rfl, by decide +kernel, rfl, by decide +kernel, by decide +kernel⟩
abbrev g_surely_bad : SF Unit := (dSeq (dSet 3 (dFn F_all_bad (dCons (dVar 0) (dCons (dVar 1) (dCons (dVar 2) dNil))))) (dSeq (dIfS (dTest (dBin dEq (dVar 3) (dTup dNil))) (dRet (dC (.dat .none))) dSkip) (dRet (dCall bTuple (dCons (dLc [4] (dRange (dCons (dVar 0) dNil)) (setSlot 4) (dTest (dCall bAll (dCons (dLc [5] (dItems (dVar 3)) (setSlot 5) dYes (dFrz (dBin (dIn false) (dVar 4) (dVar 5)))) dNil))) (dFrz (dVar 4))) dNil)))))
def F_surely_bad : List Rv → Unit → Option (Rv × Unit) := dFunc 3 6 g_surely_bad
theorem ok_surely_bad (T : Top K mg) : Cal P w K mg base RUf "surely_bad" 3 3 F_surely_bad :=
  cal_mk (ps := ["many", "looks", "most"]) T.d_surely_bad (fun f fd F => F.binds fun _ _ _ _ _ _ us hl => match us, hl with | [_, _, _], _ => rfl) (fun f fd F => fn_ok (N := ["many", "looks", "most", "able", "post", "bad"]) (k := 2) F sc_surely_bad fun cdv A outer s H E hr =>
    (b_cons (s_set (i := 3) (fun _ => sc_surely_bad.nd) (e_callC (ok_all_bad T) (fun _ => ⟨rfl, rfl, rfl, rfl, rfl⟩) (fun _ => hr) (by decide +kernel) (fun _ => rfl) (a_cons (e_var 0) (a_cons (e_var 1) (a_cons (e_var 2) a_nil))) (len_cons1 (len_cons1 (len_cons1 len_nil))) rfl))
    (b_cons (s_if (t_cmp (o_eq (fun _ => hr) (fun _ => rfl)) (e_var 3) (e_tup a_nil)) (b_one (s_ret e_none)) b_nil)
    (b_one (s_ret (e_callTy (c_tuple (fun _ => rfl)) (fun _ => rfl) (fun _ => T.b_tuple) (by decide +kernel) (a_cons (e_lc (fun _ => rfl) (fun _ => sc_surely_bad.nd) (own := [("post", 4)]) (i_range1 (fun _ => rfl) (fun _ => T.b_range) (a_cons (e_var 0) a_nil) (len_cons1 len_nil)) (fun _ => blkOk_by (by rfl)) (g_name (i := 4) (fun _ => sc_surely_bad.nd)) (ts_one (t_val (e_callB (c_all (fun _ => rfl) (fun _ => rfl)) (fun _ => rfl) (fun _ => T.b_all) (by decide +kernel) (a_cons (e_lc (fun _ => rfl) (fun _ => sc_surely_bad.nd) (own := [("bad", 5)]) (i_seq (fun _ => rfl) (e_var 3)) (fun _ => blkOk_by (by rfl)) (g_name (i := 5) (fun _ => sc_surely_bad.nd)) ts_nil (e_cmp (o_in (fun _ => hr) (fun _ => rfl)) (e_var 4) (e_var 5)) (by decide)) a_nil)))) (e_var 4) (by decide)) a_nil)))))))
theorem sc_surely_well : FnScope ["many", "looks", "most", "able", "post", "bad"] ["many", "looks", "most"] (defScope s_surely_well) := ⟨rfl, rfl, rfl, by decide +kernel, rfl, by decide +kernel, by decide +kernel⟩
abbrev g_surely_well : SF Unit := (dSeq (dSet 3 (dFn F_all_bad (dCons (dVar 0) (dCons (dVar 1) (dCons (dVar 2) dNil))))) (dSeq (dIfS (dTest (dBin dEq (dVar 3) (dTup dNil))) (dRet (dC (.dat .none))) dSkip) (dRet (dCall bTuple (dCons (dLc [4] (dRange (dCons (dVar 0) dNil)) (setSlot 4) (dNot (dTest (dCall bAny (dCons (dLc [5] (dItems (dVar 3)) (setSlot 5) dYes (dFrz (dBin (dIn false) (dVar 4) (dVar 5)))) dNil)))) (dFrz (dVar 4))) dNil)))))
def F_surely_well : List Rv → Unit → Option (Rv × Unit) := dFunc 3 6 g_surely_well
theorem ok_surely_well (T : Top K mg) : Cal P w K mg base RUf "surely_well" 3 3 F_surely_well :=
  cal_mk (ps := ["many", "looks", "most"]) T.d_surely_well (fun f fd F => F.binds fun _ _ _ _ _ _ us hl => match us, hl with | [_, _, _], _ => rfl) (fun f fd F => fn_ok (N := ["many", "looks", "most", "able", "post", "bad"]) (k := 2) F sc_surely_well fun cdv A outer s H E hr =>
    (b_cons (s_set (i := 3) (fun _ => sc_surely_well.nd) (e_callC (ok_all_bad T) (fun _ => ⟨rfl, rfl, rfl, rfl, rfl⟩) (fun _ => hr) (by decide +kernel) (fun _ => rfl) (a_cons (e_var 0) (a_cons (e_var 1) (a_cons (e_var 2) a_nil))) (len_cons1 (len_cons1 (len_cons1 len_nil))) rfl))
    (b_cons (s_if (t_cmp (o_eq (fun _ => hr) (fun _ => rfl)) (e_var 3) (e_tup a_nil)) (b_one (s_ret e_none)) b_nil)
    (b_one (s_ret (e_callTy (c_tuple (fun _ => rfl)) (fun _ => rfl) (fun _ => T.b_tuple) (by decide +kernel) (a_cons (e_lc (fun _ => rfl) (fun _ => sc_surely_well.nd) (own := [("post", 4)]) (i_range1 (fun _ => rfl) (fun _ => T.b_range) (a_cons (e_var 0) a_nil) (len_cons1 len_nil)) (fun _ => blkOk_by (by rfl)) (g_name (i := 4) (fun _ => sc_surely_well.nd)) (ts_one (t_not (t_val (e_callB (c_any (fun _ => rfl) (fun _ => rfl)) (fun _ => rfl) (fun _ => T.b_any) (by decide +kernel) (a_cons (e_lc (fun _ => rfl) (fun _ => sc_surely_well.nd) (own := [("bad", 5)]) (i_seq (fun _ => rfl) (e_var 3)) (fun _ => blkOk_by (by rfl)) (g_name (i := 5) (fun _ => sc_surely_well.nd)) ts_nil (e_cmp (o_in (fun _ => hr) (fun _ => rfl)) (e_var 4) (e_var 5)) (by decide)) a_nil))))) (e_var 4) (by decide)) a_nil)))))))
theorem sc__law_draws : FnScope ["script", "many", "draws", "mixed", "k", "cell", "rest", "turn"] ["script", "many"] (defScope s__law_draws) := ⟨rfl, rfl, rfl, by decide +kernel, rfl, by decide +kernel, by decide +kernel⟩
abbrev g__law_draws : SF Unit := (dSeq (dSet 2 (dLst dNil)) (dSeq (dSet 3 (dC (.dat (.int 7)))) (dSeq (dFor (dRange (dCons (dCall bLen (dCons (dVar 0) dNil)) dNil)) (setSlot 4) (dSeq (dSet 5 (dCall bAbs (dCons (dCall bInt (dCons (dBin dIx (dVar 0) (dVar 4)) dNil)) dNil))) (dSeq (dSet 3 (dBin dMod (dCall bInt (dCons (dBin dAdd (dBin dAdd (dBin dMul (dVar 3) (dC (.dat (.int 48271)))) (dBin dMod (dVar 5) (dC (.dat (.int 1000003))))) (dVar 4)) dNil)) (dC (.dat (.int 65537))))) (dSeq (dSet 6 (dC (.dat (.int 0)))) (dSeq (dIfS (dTest (dBin dGe (dVar 5) (dBin dPow (dC (.dat (.int 10))) (dC (.dat (.int 18)))))) (dSet 6 (dVar 5)) (dSeq (dAppend 2 (dBin dMod (dCall bInt (dCons (dVar 5) dNil)) (dC (.dat (.int 997))))) (dAppend 2 (dBin dMod (dBin dMod (dCall bInt (dCons (dBin dAdd (dBin dMul (dVar 3) (dC (.dat (.int 69621)))) (dC (.dat (.int 5)))) dNil)) (dC (.dat (.int 65521)))) (dC (.dat (.int 997))))))) (dFor (dRange (dCons (dC (.dat (.int 60))) dNil)) (setSlot 7) (dIfS (dTest (dBin dGt (dVar 6) (dC (.dat (.int 0))))) (dSeq (dAppend 2 (dBin dMod (dCall bInt (dCons (dVar 6) dNil)) (dC (.dat (.int 997))))) (dSet 6 (dBin dFdiv (dVar 6) (dC (.dat (.int 997)))))) dSkip))))))) (dSeq (dFor (dRange (dCons (dVar 1) dNil)) (setSlot 4) (dSeq (dSet 3 (dBin dMod (dCall bInt (dCons (dBin dAdd (dBin dAdd (dBin dMul (dVar 3) (dC (.dat (.int 16807)))) (dVar 4)) (dC (.dat (.int 1)))) dNil)) (dC (.dat (.int 65537))))) (dAppend 2 (dBin dMod (dCall bInt (dCons (dVar 3) dNil)) (dC (.dat (.int 997))))))) (dRet (dSl (dVar 2) dNo (dPart (dVar 1))))))))
def F__law_draws : List Rv → Unit → Option (Rv × Unit) := dFunc 2 8 g__law_draws
theorem ok__law_draws (T : Top K mg) : Cal P w K mg base RUf "_law_draws" 1 2 F__law_draws :=
  cal_mk (ps := ["script", "many"]) T.d__law_draws (fun f fd F => F.binds fun _ _ _ _ _ _ us hl => match us, hl with | [_, _], _ => rfl) (fun f fd F => fn_ok (N := ["script", "many", "draws", "mixed", "k", "cell", "rest", "turn"]) (k := 0) F sc__law_draws fun cdv A outer s H E hr =>
    (b_cons (s_set (i := 2) (fun _ => sc__law_draws.nd) (e_lst a_nil))
    (b_cons (s_set (i := 3) (fun _ => sc__law_draws.nd) e_int)
    (b_cons (s_for (fun _ => PassesOwn.never) (fun _ => rfl) (iS_range1 (fun _ => rfl) (fun _ => T.b_range) (a_cons (e_callB (c_len (fun _ => rfl)) (fun _ => rfl) (fun _ => T.b_len) (by decide +kernel) (a_cons (e_var 0) a_nil)) a_nil) (len_cons1 len_nil)) (g_name (i := 4) (fun _ => sc__law_draws.nd)) (b_cons (s_set (i := 5) (fun _ => sc__law_draws.nd) (e_callB (c_abs) (fun _ => rfl) (fun _ => T.b_abs) (by decide +kernel) (a_cons (e_callTy (c_int) (fun _ => rfl) (fun _ => T.b_int) (by decide +kernel) (a_cons (e_ix (fun _ => rfl) (e_var 0) (e_var 4)) a_nil)) a_nil)))
    (b_cons (s_set (i := 3) (fun _ => sc__law_draws.nd) (e_bin (o_mod) (e_callTy (c_int) (fun _ => rfl) (fun _ => T.b_int) (by decide +kernel) (a_cons (e_bin (o_add (fun _ => rfl)) (e_bin (o_add (fun _ => rfl)) (e_bin (o_mul (fun _ => rfl)) (e_var 3) e_int) (e_bin (o_mod) (e_var 5) e_int)) (e_var 4)) a_nil)) e_int))
    (b_cons (s_set (i := 6) (fun _ => sc__law_draws.nd) e_int)
    (b_cons (s_if (t_cmp (o_ge (fun _ => hr) (fun _ => rfl)) (e_var 5) (e_bin (o_pow) e_int e_int)) (b_one (s_set (i := 6) (fun _ => sc__law_draws.nd) (e_var 5))) (b_cons (s_append (i := 2) (fun _ => rfl) (e_bin (o_mod) (e_callTy (c_int) (fun _ => rfl) (fun _ => T.b_int) (by decide +kernel) (a_cons (e_var 5) a_nil)) e_int))
    (b_one (s_append (i := 2) (fun _ => rfl) (e_bin (o_mod) (e_bin (o_mod) (e_callTy (c_int) (fun _ => rfl) (fun _ => T.b_int) (by decide +kernel) (a_cons (e_bin (o_add (fun _ => rfl)) (e_bin (o_mul (fun _ => rfl)) (e_var 3) e_int) e_int) a_nil)) e_int) e_int)))))
    (b_one (s_for (fun _ => PassesOwn.never) (fun _ => rfl) (iS_range1 (fun _ => rfl) (fun _ => T.b_range) (a_cons e_int a_nil) (len_cons1 len_nil)) (g_name (i := 7) (fun _ => sc__law_draws.nd)) (b_one (s_if (t_cmp (o_gt (fun _ => hr) (fun _ => rfl)) (e_var 6) e_int) (b_cons (s_append (i := 2) (fun _ => rfl) (e_bin (o_mod) (e_callTy (c_int) (fun _ => rfl) (fun _ => T.b_int) (by decide +kernel) (a_cons (e_var 6) a_nil)) e_int))
    (b_one (s_set (i := 6) (fun _ => sc__law_draws.nd) (e_bin (o_fdiv) (e_var 6) e_int)))) b_nil)))))))))
    (b_cons (s_for (fun _ => PassesOwn.never) (fun _ => rfl) (iS_range1 (fun _ => rfl) (fun _ => T.b_range) (a_cons (e_var 1) a_nil) (len_cons1 len_nil)) (g_name (i := 4) (fun _ => sc__law_draws.nd)) (b_cons (s_set (i := 3) (fun _ => sc__law_draws.nd) (e_bin (o_mod) (e_callTy (c_int) (fun _ => rfl) (fun _ => T.b_int) (by decide +kernel) (a_cons (e_bin (o_add (fun _ => rfl)) (e_bin (o_add (fun _ => rfl)) (e_bin (o_mul (fun _ => rfl)) (e_var 3) e_int) (e_var 4)) e_int) a_nil)) e_int))
    (b_one (s_append (i := 2) (fun _ => rfl) (e_bin (o_mod) (e_callTy (c_int) (fun _ => rfl) (fun _ => T.b_int) (by decide +kernel) (a_cons (e_var 3) a_nil)) e_int)))))
    (b_one (s_ret (e_sl (fun _ => rfl) (e_var 2) p_none (p_some (e_var 1))))))))))
theorem sc__law_next : FnScope ["w", "many"] ["w", "many"] (defScope s__law_next) := ⟨rfl, rfl, rfl, by decide +kernel, rfl, by decide +kernel, by decide +kernel⟩
abbrev g__law_next : SF WSt := (dSeq (dWinc 0) (dSeq (dIfS (dTest (dBin dGt (dWat 0) (dCall bLen (dCons (dWdraws 0) dNil)))) (dRet (dC (.dat (.int 0)))) dSkip) (dRet (dBin dMod (dCall bInt (dCons (dBin dIx (dWdraws 0) (dBin dSub (dWat 0) (dC (.dat (.int 1))))) dNil)) (dVar 1)))))
def F__law_next : List Rv → WSt → Option (Rv × WSt) := dFunc 2 2 g__law_next
theorem ok__law_next (T : Top K mg) : Cal P w K mg base (RW K) "_law_next" 1 2 F__law_next :=
  cal_mk (ps := ["w", "many"]) T.d__law_next (fun f fd F => F.binds fun _ _ _ _ _ _ us hl => match us, hl with | [_, _], _ => rfl) (fun f fd F => fn_ok (N := ["w", "many"]) (k := 0) F sc__law_next fun cdv A outer s H E hr =>
    (b_cons (s_winc 0 (fun _ => hr))
    (b_cons (s_if (t_cmp (o_gt (fun _ => hr) (fun _ => rfl)) (e_wat 0 (fun _ => hr)) (e_callB (c_len (fun _ => rfl)) (fun _ => rfl) (fun _ => T.b_len) (by decide +kernel) (a_cons (e_wdraws 0 (fun _ => hr)) a_nil))) (b_one (s_ret e_int)) b_nil)
    (b_one (s_ret (e_bin (o_mod) (e_callTy (c_int) (fun _ => rfl) (fun _ => T.b_int) (by decide +kernel) (a_cons (e_ix (fun _ => rfl) (e_wdraws 0 (fun _ => hr)) (e_bin (o_sub) (e_wat 0 (fun _ => hr)) e_int)) a_nil)) (e_var 1)))))))
theorem sc__law_pick : FnScope ["w", "rows"] ["w", "rows"] (defScope s__law_pick) := ⟨rfl, rfl, rfl, by decide +kernel, rfl, by decide +kernel, by decide +kernel⟩
abbrev g__law_pick : SF WSt := (dRet (dBin dIx (dVar 1) (dFn F__law_next (dCons (dVar 0) (dCons (dCall bLen (dCons (dVar 1) dNil)) dNil)))))
def F__law_pick : List Rv → WSt → Option (Rv × WSt) := dFunc 2 2 g__law_pick
theorem ok__law_pick (T : Top K mg) : Cal P w K mg base (RW K) "_law_pick" 2 2 F__law_pick :=
  cal_mk (ps := ["w", "rows"]) T.d__law_pick (fun f fd F => F.binds fun _ _ _ _ _ _ us hl => match us, hl with | [_, _], _ => rfl) (fun f fd F => fn_ok (N := ["w", "rows"]) (k := 1) F sc__law_pick fun cdv A outer s H E hr =>
    (b_one (s_ret (e_ix (fun _ => rfl) (e_var 1) (e_callC (ok__law_next T) (fun _ => ⟨rfl, rfl, rfl, rfl, rfl⟩) (fun _ => hr) (by decide +kernel) (fun _ => rfl) (a_cons (e_var 0) (a_cons (e_callB (c_len (fun _ => rfl)) (fun _ => rfl) (fun _ => T.b_len) (by decide +kernel) (a_cons (e_var 1) a_nil)) a_nil)) (len_cons1 (len_cons1 len_nil)) rfl)))))
theorem sc__law_says : FnScope ["told", "due"] ["told", "due"] (defScope s__law_says) := ⟨rfl, rfl, rfl, by decide +kernel, rfl, by decide +kernel, by decide +kernel⟩
abbrev g__law_says : SF Unit := (dRet (dAndV (dCall bIsi (dCons (dVar 0) (dCons (dC (.val (.ty "bool"))) dNil))) (dBin dEq (dVar 0) (dVar 1))))
def F__law_says : List Rv → Unit → Option (Rv × Unit) := dFunc 2 2 g__law_says
theorem ok__law_says (T : Top K mg) : Cal P w K mg base RUf "_law_says" 1 2 F__law_says :=
  cal_mk (ps := ["told", "due"]) T.d__law_says (fun f fd F => F.binds fun _ _ _ _ _ _ us hl => match us, hl with | [_, _], _ => rfl) (fun f fd F => fn_ok (N := ["told", "due"]) (k := 0) F sc__law_says fun cdv A outer s H E hr =>
    (b_one (s_ret (e_and (e_callB (c_isi (fun _ => rfl)) (fun _ => rfl) (fun _ => T.b_isinstance) (by decide +kernel) (a_cons (e_var 0) (a_cons (e_bltn (v := .ty "bool") (fun _ => rfl) (fun _ => T.b_bool) (by decide +kernel) rfl) a_nil))) (e_one (e_cmp (o_eq (fun _ => hr) (fun _ => rfl)) (e_var 0) (e_var 1)))))))
theorem sc__law_same : FnScope ["told", "due", "k"] ["told", "due"] (defScope s__law_same) := ⟨rfl, rfl, rfl, by decide +kernel, rfl, by decide +kernel, by decide +kernel⟩
abbrev g__law_same (Fs : List Rv → Unit → Option (Rv × Unit)) : SF Unit := (dSeq (dIfS (dTest (dCall bIsi (dCons (dVar 1) (dCons (dC (.val (.ty "tuple"))) dNil)))) (dSeq (dIfS (dOr (dNot (dTest (dCall bIsi (dCons (dVar 0) (dCons (dC (.val (.ty "tuple"))) dNil))))) (dTest (dBin dNe (dCall bLen (dCons (dVar 0) dNil)) (dCall bLen (dCons (dVar 1) dNil))))) (dRet (dC (.dat (.bool false)))) dSkip) (dRet (dBin dEq (dLc [2] (dRange (dCons (dCall bLen (dCons (dVar 1) dNil)) dNil)) (setSlot 2) (dNot (dTest (dFn Fs (dCons (dBin dIx (dVar 0) (dVar 2)) (dCons (dBin dIx (dVar 1) (dVar 2)) dNil))))) (dFrz (dVar 2))) (dLst dNil)))) dSkip) (dSeq (dIfS (dTest (dUn dIsN (dVar 1))) (dRet (dUn dIsN (dVar 0))) dSkip) (dSeq (dIfS (dTest (dCall bIsi (dCons (dVar 1) (dCons (dC (.val (.ty "str"))) dNil)))) (dRet (dAndV (dCall bIsi (dCons (dVar 0) (dCons (dC (.val (.ty "str"))) dNil))) (dBin dEq (dVar 0) (dVar 1)))) dSkip) (dRet (dAndV (dCall bIsi (dCons (dVar 0) (dCons (dC (.val (.ty "int"))) dNil))) (dAndV (dBin dEq (dCall bIsi (dCons (dVar 0) (dCons (dC (.val (.ty "bool"))) dNil))) (dCall bIsi (dCons (dVar 1) (dCons (dC (.val (.ty "bool"))) dNil)))) (dBin dEq (dVar 0) (dVar 1))))))))
abbrev F__law_same : Nat → List Rv → Unit → Option (Rv × Unit) := recF 2 3 g__law_same
theorem ok__law_same (T : Top K mg) : ∀ n, Cal P w K mg base RUf "_law_same" (1 + n) 2 (F__law_same n) :=
  cal_rec (N := ["told", "due", "k"]) (ps := ["told", "due"]) (g := g__law_same) (k0 := 0) T.d__law_same sc__law_same (fun f fd F => F.binds fun _ _ _ _ _ _ us hl => match us, hl with | [_, _], _ => rfl) (fun k Fs hk c cdv A outer s H E f hr =>
    (b_cons (s_if (t_val (e_callB (c_isi (fun _ => rfl)) (fun _ => rfl) (fun _ => T.b_isinstance) (by decide +kernel) (a_cons (e_var 1) (a_cons (e_bltn (v := .ty "tuple") (fun _ => rfl) (fun _ => T.b_tuple) (by decide +kernel) rfl) a_nil)))) (b_cons (s_if (t_pw (w_or (t_not (t_val (e_callB (c_isi (fun _ => rfl)) (fun _ => rfl) (fun _ => T.b_isinstance) (by decide +kernel) (a_cons (e_var 0) (a_cons (e_bltn (v := .ty "tuple") (fun _ => rfl) (fun _ => T.b_tuple) (by decide +kernel) rfl) a_nil))))) (w_or1 (t_cmp (o_ne (fun _ => hr) (fun _ => rfl)) (e_callB (c_len (fun _ => rfl)) (fun _ => rfl) (fun _ => T.b_len) (by decide +kernel) (a_cons (e_var 0) a_nil)) (e_callB (c_len (fun _ => rfl)) (fun _ => rfl) (fun _ => T.b_len) (by decide +kernel) (a_cons (e_var 1) a_nil)))))) (b_one (s_ret e_bool)) b_nil)
    (b_one (s_ret (e_cmp (o_eq (fun _ => hr) (fun _ => rfl)) (e_lc (fun _ => rfl) (fun _ => sc__law_same.nd) (own := [("k", 2)]) (i_range1 (fun _ => rfl) (fun _ => T.b_range) (a_cons (e_callB (c_len (fun _ => rfl)) (fun _ => rfl) (fun _ => T.b_len) (by decide +kernel) (a_cons (e_var 1) a_nil)) a_nil) (len_cons1 len_nil)) (fun _ => blkOk_by (by rfl)) (g_name (i := 2) (fun _ => sc__law_same.nd)) (ts_one (t_not (t_val (e_callC c (fun _ => ⟨rfl, rfl, rfl, rfl, rfl⟩) (fun _ => hr) (Nat.le_refl _) (fun _ => rfl) (a_cons (e_ix (fun _ => rfl) (e_var 0) (e_var 2)) (a_cons (e_ix (fun _ => rfl) (e_var 1) (e_var 2)) a_nil)) (len_cons1 (len_cons1 len_nil)) rfl)))) (e_var 2) (by decide)) (e_lst a_nil))))) b_nil)
    (b_cons (s_if (t_isN (e_var 1)) (b_one (s_ret (e_isN (e_var 0)))) b_nil)
    (b_cons (s_if (t_val (e_callB (c_isi (fun _ => rfl)) (fun _ => rfl) (fun _ => T.b_isinstance) (by decide +kernel) (a_cons (e_var 1) (a_cons (e_bltn (v := .ty "str") (fun _ => rfl) (fun _ => T.b_str) (by decide +kernel) rfl) a_nil)))) (b_one (s_ret (e_and (e_callB (c_isi (fun _ => rfl)) (fun _ => rfl) (fun _ => T.b_isinstance) (by decide +kernel) (a_cons (e_var 0) (a_cons (e_bltn (v := .ty "str") (fun _ => rfl) (fun _ => T.b_str) (by decide +kernel) rfl) a_nil))) (e_one (e_cmp (o_eq (fun _ => hr) (fun _ => rfl)) (e_var 0) (e_var 1)))))) b_nil)
    (b_one (s_ret (e_and (e_callB (c_isi (fun _ => rfl)) (fun _ => rfl) (fun _ => T.b_isinstance) (by decide +kernel) (a_cons (e_var 0) (a_cons (e_bltn (v := .ty "int") (fun _ => rfl) (fun _ => T.b_int) (by decide +kernel) rfl) a_nil))) (e_and (e_cmp (o_eq (fun _ => hr) (fun _ => rfl)) (e_callB (c_isi (fun _ => rfl)) (fun _ => rfl) (fun _ => T.b_isinstance) (by decide +kernel) (a_cons (e_var 0) (a_cons (e_bltn (v := .ty "bool") (fun _ => rfl) (fun _ => T.b_bool) (by decide +kernel) rfl) a_nil))) (e_callB (c_isi (fun _ => rfl)) (fun _ => rfl) (fun _ => T.b_isinstance) (by decide +kernel) (a_cons (e_var 1) (a_cons (e_bltn (v := .ty "bool") (fun _ => rfl) (fun _ => T.b_bool) (by decide +kernel) rfl) a_nil)))) (e_one (e_cmp (o_eq (fun _ => hr) (fun _ => rfl)) (e_var 0) (e_var 1)))))))))))
theorem sc__law_sets : FnScope ["many", "most", "found", "post", "some", "size"] ["many", "most"] (defScope s__law_sets) := ⟨rfl, rfl, rfl, by decide +kernel, rfl, by decide +kernel, by decide +kernel⟩
abbrev g__law_sets : SF Unit := (dSeq (dSet 2 (dFrz (dLst (dCons (dTup dNil) dNil)))) (dSeq (dFor (dRange (dCons (dVar 0) dNil)) (setSlot 3) (dSet 2 (dFrz (dBin dAdd (dVar 2) (dLc [4] (dItems (dVar 2)) (setSlot 4) dYes (dFrz (dBin dAdd (dVar 4) (dTup (dCons (dVar 3) dNil))))))))) (dRet (dLc [5, 4] (dItems (dCall bSortedE (dCons (dLc [4] (dItems (dVar 2)) (setSlot 4) dYes (dFrz (dTup (dCons (dCall bLen (dCons (dVar 4) dNil)) (dCons (dVar 4) dNil))))) dNil))) (setTup 2 (gConsD (setSlot 5) (gConsD (setSlot 4) gNilD))) (dTest (dBin dLe (dVar 5) (dVar 1))) (dFrz (dVar 4))))))
def F__law_sets : List Rv → Unit → Option (Rv × Unit) := dFunc 2 6 g__law_sets
theorem ok__law_sets (T : Top K mg) : Cal P w K mg base RUf "_law_sets" 1 2 F__law_sets :=
  cal_mk (ps := ["many", "most"]) T.d__law_sets (fun f fd F => F.binds fun _ _ _ _ _ _ us hl => match us, hl with | [_, _], _ => rfl) (fun f fd F => fn_ok (N := ["many", "most", "found", "post", "some", "size"]) (k := 0) F sc__law_sets fun cdv A outer s H E hr =>
    (b_cons (s_set (i := 2) (fun _ => sc__law_sets.nd) (e_frz (e_lst (a_cons (e_tup a_nil) a_nil))))
    (b_cons (s_for (fun _ => PassesOwn.never) (fun _ => rfl) (iS_range1 (fun _ => rfl) (fun _ => T.b_range) (a_cons (e_var 0) a_nil) (len_cons1 len_nil)) (g_name (i := 3) (fun _ => sc__law_sets.nd)) (b_one (s_set (i := 2) (fun _ => sc__law_sets.nd) (e_frz (e_bin (o_add (fun _ => rfl)) (e_var 2) (e_lc (fun _ => rfl) (fun _ => sc__law_sets.nd) (own := [("some", 4)]) (i_seq (fun _ => rfl) (e_var 2)) (fun _ => blkOk_by (by rfl)) (g_name (i := 4) (fun _ => sc__law_sets.nd)) ts_nil (e_bin (o_add (fun _ => rfl)) (e_var 4) (e_tup (a_cons (e_var 3) a_nil))) (by decide)))))))
    (b_one (s_ret (e_lc (fun _ => rfl) (fun _ => sc__law_sets.nd) (own := [("size", 5), ("some", 4)]) (i_seq (fun _ => rfl) (e_callB (c_sortedE (fun _ => hr) (fun _ => rfl)) (fun _ => rfl) (fun _ => T.b_sorted) (by decide +kernel) (a_cons (e_lc (fun _ => rfl) (fun _ => sc__law_sets.nd) (own := [("some", 4)]) (i_seq (fun _ => rfl) (e_var 2)) (fun _ => blkOk_by (by rfl)) (g_name (i := 4) (fun _ => sc__law_sets.nd)) ts_nil (e_tup (a_cons (e_callB (c_len (fun _ => rfl)) (fun _ => rfl) (fun _ => T.b_len) (by decide +kernel) (a_cons (e_var 4) a_nil)) (a_cons (e_var 4) a_nil))) (by decide)) a_nil))) (fun _ => blkOk_by (by rfl)) (g_tup (fun _ => rfl) (fun _ => rfl) (gs_cons (g_name (i := 5) (fun _ => sc__law_sets.nd)) (gs_cons (g_name (i := 4) (fun _ => sc__law_sets.nd)) gs_nil))) (ts_one (t_cmp (o_le (fun _ => hr) (fun _ => rfl)) (e_var 5) (e_var 1))) (e_var 4) (by decide)))))))
theorem sc__law_agrees : FnScope ["looks", "bad", "a", "b", "word"] ["looks", "bad"] (defScope s__law_agrees) := ⟨rfl, rfl, rfl, by decide +kernel, rfl, by decide +kernel, by decide +kernel⟩
abbrev g__law_agrees : SF Unit := (dRet (dBin dEq (dLc [2, 3, 4] (dItems (dVar 0)) (setTup 3 (gConsD (setSlot 2) (gConsD (setSlot 3) (gConsD (setSlot 4) gNilD)))) (dAnd (dTest (dBin (dIn true) (dVar 2) (dVar 1))) (dTest (dBin dNe (dBin dEq (dVar 4) (dC (.dat (.str "bad")))) (dBin (dIn false) (dVar 3) (dVar 1))))) (dFrz (dC (.dat (.int 1))))) (dLst dNil)))
def F__law_agrees : List Rv → Unit → Option (Rv × Unit) := dFunc 2 5 g__law_agrees
theorem ok__law_agrees (T : Top K mg) : Cal P w K mg base RUf "_law_agrees" 1 2 F__law_agrees :=
  cal_mk (ps := ["looks", "bad"]) T.d__law_agrees (fun f fd F => F.binds fun _ _ _ _ _ _ us hl => match us, hl with | [_, _], _ => rfl) (fun f fd F => fn_ok (N := ["looks", "bad", "a", "b", "word"]) (k := 0) F sc__law_agrees fun cdv A outer s H E hr =>
    (b_one (s_ret (e_cmp (o_eq (fun _ => hr) (fun _ => rfl)) (e_lc (fun _ => rfl) (fun _ => sc__law_agrees.nd) (own := [("a", 2), ("b", 3), ("word", 4)]) (i_seq (fun _ => rfl) (e_var 0)) (fun _ => blkOk_by (by rfl)) (g_tup (fun _ => rfl) (fun _ => rfl) (gs_cons (g_name (i := 2) (fun _ => sc__law_agrees.nd)) (gs_cons (g_name (i := 3) (fun _ => sc__law_agrees.nd)) (gs_cons (g_name (i := 4) (fun _ => sc__law_agrees.nd)) gs_nil)))) (ts_one (t_pw (w_and (t_cmp (o_notin (fun _ => hr) (fun _ => rfl)) (e_var 2) (e_var 1)) (w_and1 (t_cmp (o_ne (fun _ => hr) (fun _ => rfl)) (e_cmp (o_eq (fun _ => hr) (fun _ => rfl)) (e_var 4) e_str) (e_cmp (o_in (fun _ => hr) (fun _ => rfl)) (e_var 3) (e_var 1))))))) e_int (by decide)) (e_lst a_nil)))))
theorem sc__law_pairs : FnScope ["w", "many", "found", "a", "b"] ["w", "many"] (defScope s__law_pairs) := ⟨rfl, rfl, rfl, by decide +kernel, rfl, by decide +kernel, by decide +kernel⟩
abbrev g__law_pairs : SF WSt := (dSeq (dSet 2 (dFrz (dLst dNil))) (dSeq (dFor (dRange (dCons (dVar 1) dNil)) (setSlot 3) (dSet 2 (dFrz (dBin dAdd (dVar 2) (dLc [4] (dRange (dCons (dVar 1) dNil)) (setSlot 4) (dAnd (dTest (dBin dNe (dVar 3) (dVar 4))) (dTest (dBin dGt (dFn F__law_next (dCons (dVar 0) (dCons (dC (.dat (.int 3))) dNil))) (dC (.dat (.int 0)))))) (dFrz (dTup (dCons (dVar 3) (dCons (dVar 4) dNil))))))))) (dRet (dCall bTuple (dCons (dVar 2) dNil)))))
def F__law_pairs : List Rv → WSt → Option (Rv × WSt) := dFunc 2 5 g__law_pairs
theorem ok__law_pairs (T : Top K mg) : Cal P w K mg base (RW K) "_law_pairs" 2 2 F__law_pairs :=
  cal_mk (ps := ["w", "many"]) T.d__law_pairs (fun f fd F => F.binds fun _ _ _ _ _ _ us hl => match us, hl with | [_, _], _ => rfl) (fun f fd F => fn_ok (N := ["w", "many", "found", "a", "b"]) (k := 1) F sc__law_pairs fun cdv A outer s H E hr =>
    (b_cons (s_set (i := 2) (fun _ => sc__law_pairs.nd) (e_frz (e_lst a_nil)))
    (b_cons (s_for (fun _ => PassesOwn.never) (fun _ => rfl) (iS_range1 (fun _ => rfl) (fun _ => T.b_range) (a_cons (e_var 1) a_nil) (len_cons1 len_nil)) (g_name (i := 3) (fun _ => sc__law_pairs.nd)) (b_one (s_set (i := 2) (fun _ => sc__law_pairs.nd) (e_frz (e_bin (o_add (fun _ => rfl)) (e_var 2) (e_lc (fun _ => rfl) (fun _ => sc__law_pairs.nd) (own := [("b", 4)]) (i_range1 (fun _ => rfl) (fun _ => T.b_range) (a_cons (e_var 1) a_nil) (len_cons1 len_nil)) (fun _ => blkOk_by (by rfl)) (g_name (i := 4) (fun _ => sc__law_pairs.nd)) (ts_one (t_pw (w_and (t_cmp (o_ne (fun _ => hr) (fun _ => rfl)) (e_var 3) (e_var 4)) (w_and1 (t_cmp (o_gt (fun _ => hr) (fun _ => rfl)) (e_callC (ok__law_next T) (fun _ => ⟨rfl, rfl, rfl, rfl, rfl⟩) (fun _ => hr) (by decide +kernel) (fun _ => rfl) (a_cons (e_var 0) (a_cons e_int a_nil)) (len_cons1 (len_cons1 len_nil)) rfl) e_int))))) (e_tup (a_cons (e_var 3) (a_cons (e_var 4) a_nil))) (by decide)))))))
    (b_one (s_ret (e_callTy (c_tuple (fun _ => rfl)) (fun _ => rfl) (fun _ => T.b_tuple) (by decide +kernel) (a_cons (e_var 2) a_nil)))))))
abbrev sc_law : FnScope ["script", "w", "turn", "many", "most", "pairs", "truth", "looks", "lies", "a", "b", "word", "bad", "able", "sure", "well", "post"] ["script"] (defScope s_law) := ⟨rfl, rfl, rfl, by decide +kernel, rfl, by decide +kernel, by decide +kernel⟩
abbrev f0_law : EF Unit := (dFn F__law_draws (dCons (dVar 0) (dCons (dC (.dat (.int 500))) dNil)))
abbrev g_law : SF WSt := (dSeq (dFor (dRange (dCons (dC (.dat (.int 4))) dNil)) (setSlot 2) (dSeq (dSet 3 (dBin dAdd (dC (.dat (.int 2))) (dFn F__law_next (dCons (dVar 1) (dCons (dC (.dat (.int 4))) dNil))))) (dSeq (dPar 4 5 (dCons (dFn F__law_next (dCons (dVar 1) (dCons (dBin dAdd (dVar 3) (dC (.dat (.int 1)))) dNil))) (dCons (dFn F__law_pairs (dCons (dVar 1) (dCons (dVar 3) dNil))) dNil))) (dSeq (dPar2 6 7 (dFn F__law_pick (dCons (dVar 1) (dCons (dFn (liftF F__law_sets) (dCons (dVar 3) (dCons (dVar 3) dNil))) dNil))) (dLst dNil)) (dSeq (dSet 8 (dBin dEq (dFn F__law_next (dCons (dVar 1) (dCons (dC (.dat (.int 5))) dNil))) (dC (.dat (.int 0))))) (dSeq (dFor (dItemsS (dVar 5)) (setTup 2 (gConsD (setSlot 9) (gConsD (setSlot 10) gNilD))) (dSeq (dSet 11 (dFrz (dIf (dTest (dBin (dIn false) (dVar 10) (dVar 6))) (dC (.dat (.str "bad"))) (dC (.dat (.str "well")))))) (dSeq (dIfS (dOr (dTest (dBin (dIn false) (dVar 9) (dVar 6))) (dTest (dVar 8))) (dSet 11 (dFn F__law_pick (dCons (dVar 1) (dCons (dFrz (dLst (dCons (dC (.dat (.str "bad"))) (dCons (dC (.dat (.str "well"))) dNil)))) dNil)))) dSkip) (dAppend 7 (dTup (dCons (dVar 9) (dCons (dVar 10) (dCons (dVar 11) dNil)))))))) (dSeq (dSet 7 (dCall bTuple (dCons (dVar 7) dNil))) (dSeq (dFrzS 7 (dSet 13 (dFrz (dLc [12] (dItems (dFn (liftF F__law_sets) (dCons (dVar 3) (dCons (dVar 4) dNil)))) (setSlot 12) (dTest (dFn (liftF F__law_agrees) (dCons (dVar 7) (dCons (dVar 12) dNil)))) (dFrz (dVar 12)))))) (dSeq (dFrzS 7 (dIfS (dNot (dTest (dFn (liftF (F__law_same 12)) (dCons (dFn (liftF F_all_bad) (dCons (dVar 3) (dCons (dVar 7) (dCons (dVar 4) dNil)))) (dCons (dCall bTuple (dCons (dCall bSortedE (dCons (dVar 13) dNil)) dNil)) dNil))))) (dRet (dC (.dat (.bool false)))) dSkip)) (dSeq (dAsg (dTup (dCons (dC (.dat .none)) (dCons (dC (.dat .none)) dNil))) (setTup 2 (gConsD (setSlot 14) (gConsD (setSlot 15) gNilD)))) (dSeq (dIfS (dTest (dBin dNe (dVar 13) (dLst dNil))) (dSeq (dSet 14 (dCall bTuple (dCons (dLc [16] (dRange (dCons (dVar 3) dNil)) (setSlot 16) (dTest (dBin dEq (dLc [12] (dItems (dVar 13)) (setSlot 12) (dTest (dBin (dIn true) (dVar 16) (dVar 12))) (dFrz (dVar 12))) (dLst dNil))) (dFrz (dVar 16))) dNil))) (dSet 15 (dCall bTuple (dCons (dLc [16] (dRange (dCons (dVar 3) dNil)) (setSlot 16) (dTest (dBin dEq (dLc [12] (dItems (dVar 13)) (setSlot 12) (dTest (dBin (dIn false) (dVar 16) (dVar 12))) (dFrz (dVar 12))) (dLst dNil))) (dFrz (dVar 16))) dNil)))) dSkip) (dSeq (dFrzS 7 (dIfS (dOr (dNot (dTest (dFn (liftF (F__law_same 12)) (dCons (dFn (liftF F_surely_bad) (dCons (dVar 3) (dCons (dVar 7) (dCons (dVar 4) dNil)))) (dCons (dVar 14) dNil))))) (dNot (dTest (dFn (liftF (F__law_same 12)) (dCons (dFn (liftF F_surely_well) (dCons (dVar 3) (dCons (dVar 7) (dCons (dVar 4) dNil)))) (dCons (dVar 15) dNil)))))) (dRet (dC (.dat (.bool false)))) dSkip)) (dFor (dItemsS (dFn (liftF F__law_sets) (dCons (dVar 3) (dCons (dVar 3) dNil)))) (setSlot 12) (dFrzS 7 (dIfS (dNot (dTest (dFn (liftF F__law_says) (dCons (dFn (liftF F_may_be_bad) (dCons (dVar 3) (dCons (dVar 7) (dCons (dVar 12) dNil)))) (dCons (dFn (liftF F__law_agrees) (dCons (dVar 7) (dCons (dVar 12) dNil))) dNil))))) (dRet (dC (.dat (.bool false)))) dSkip))))))))))))))) (dRet (dC (.dat (.bool true)))))
abbrev n_law : Nat := 17
abbrev iw_law : Nat := 1
theorem ok_law (T : Top K mg) {f : Addr} {fd : FuncData} (F : Fun K "law" "law" s_law f fd)
    (hlaw : ∀ ns : List Int, ns.length ≤ 63 → ∃ (ds : List Int) (s2 : WSt), f0_law (some (.dat (.list (ns.map .int))) :: List.replicate (17 - 1) none) () = some (.dat (.list (ds.map .int)), ()) ∧
      g_law ((some (.dat (.list (ns.map .int))) :: List.replicate (17 - 1) none).set 1 (some .tok)) (ds, 0) = some (.rt (.dat (.bool true)), s2)) : FnOk P w K mg base CX0 14 f fd ["script"] (spLaw K) :=
  law_fn (iw := 1) (k := 13) (g := g_law) (f0 := f0_law) F sc_law (by decide) (by decide) (by decide) (fun cdv A outer s H E hr =>
    ⟨_, _, _, _, _, _, _, _, 0, 0, 0, _, _, _, rfl, (e_callC (ok__law_draws T) (fun _ => ⟨rfl, rfl, rfl, rfl, rfl⟩) (fun _ => hr) (by decide +kernel) (fun _ => rfl) (a_cons (e_var 0) (a_cons e_int a_nil)) (len_cons1 (len_cons1 len_nil)) rfl), (b_cons (s_for (fun _ => PassesOwn.never) (fun _ => rfl) (iS_range1 (fun _ => rfl) (fun _ => T.b_range) (a_cons e_int a_nil) (len_cons1 len_nil)) (g_name (i := 2) (fun _ => sc_law.nd)) (b_cons (s_set (i := 3) (fun _ => sc_law.nd) (e_bin (o_add (fun _ => rfl)) e_int (e_callC (ok__law_next T) (fun _ => ⟨rfl, rfl, rfl, rfl, rfl⟩) (fun _ => hr) (by decide +kernel) (fun _ => rfl) (a_cons (e_var 1) (a_cons e_int a_nil)) (len_cons1 (len_cons1 len_nil)) rfl)))
    (b_cons (s_par (i := 4) (j := 5) (fun _ => rfl) (fun _ => sc_law.nd) (by decide) (a_cons (e_callC (ok__law_next T) (fun _ => ⟨rfl, rfl, rfl, rfl, rfl⟩) (fun _ => hr) (by decide +kernel) (fun _ => rfl) (a_cons (e_var 1) (a_cons (e_bin (o_add (fun _ => rfl)) (e_var 3) e_int) a_nil)) (len_cons1 (len_cons1 len_nil)) rfl) (a_cons (e_callC (ok__law_pairs T) (fun _ => ⟨rfl, rfl, rfl, rfl, rfl⟩) (fun _ => hr) (by decide +kernel) (fun _ => rfl) (a_cons (e_var 1) (a_cons (e_var 3) a_nil)) (len_cons1 (len_cons1 len_nil)) rfl) a_nil)))
    (b_cons (s_par2 (i := 6) (j := 7) (fun _ => rfl) (fun _ => rfl) (fun _ => sc_law.nd) (e_callC (ok__law_pick T) (fun _ => ⟨rfl, rfl, rfl, rfl, rfl⟩) (fun _ => hr) (by decide +kernel) (fun _ => rfl) (a_cons (e_var 1) (a_cons (e_callC (ok__law_sets T).lift (fun _ => ⟨rfl, rfl, rfl, rfl, rfl⟩) (fun _ => hr) (by decide +kernel) (fun _ => rfl) (a_cons (e_var 3) (a_cons (e_var 3) a_nil)) (len_cons1 (len_cons1 len_nil)) rfl) a_nil)) (len_cons1 (len_cons1 len_nil)) rfl) (e_lst a_nil))
    (b_cons (s_set (i := 8) (fun _ => sc_law.nd) (e_cmp (o_eq (fun _ => hr) (fun _ => rfl)) (e_callC (ok__law_next T) (fun _ => ⟨rfl, rfl, rfl, rfl, rfl⟩) (fun _ => hr) (by decide +kernel) (fun _ => rfl) (a_cons (e_var 1) (a_cons e_int a_nil)) (len_cons1 (len_cons1 len_nil)) rfl) e_int))
    (b_cons (s_for (fun _ => PassesOwn.never) (fun _ => rfl) (iS_seq (fun _ => rfl) (e_var 5)) (g_tup (fun _ => rfl) (fun _ => rfl) (gs_cons (g_name (i := 9) (fun _ => sc_law.nd)) (gs_cons (g_name (i := 10) (fun _ => sc_law.nd)) gs_nil))) (b_cons (s_set (i := 11) (fun _ => sc_law.nd) (e_frz (e_if (t_cmp (o_in (fun _ => hr) (fun _ => rfl)) (e_var 10) (e_var 6)) e_str e_str)))
    (b_cons (s_if (t_pw (w_or (t_cmp (o_in (fun _ => hr) (fun _ => rfl)) (e_var 9) (e_var 6)) (w_or1 (t_val (e_var 8))))) (b_one (s_set (i := 11) (fun _ => sc_law.nd) (e_callC (ok__law_pick T) (fun _ => ⟨rfl, rfl, rfl, rfl, rfl⟩) (fun _ => hr) (by decide +kernel) (fun _ => rfl) (a_cons (e_var 1) (a_cons (e_frz (e_lst (a_cons e_str (a_cons e_str a_nil)))) a_nil)) (len_cons1 (len_cons1 len_nil)) rfl))) b_nil)
    (b_one (s_append (i := 7) (fun _ => rfl) (e_tup (a_cons (e_var 9) (a_cons (e_var 10) (a_cons (e_var 11) a_nil)))))))))
    (b_cons (s_set (i := 7) (fun _ => sc_law.nd) (e_callTy (c_tuple (fun _ => rfl)) (fun _ => rfl) (fun _ => T.b_tuple) (by decide +kernel) (a_cons (e_var 7) a_nil)))
    (b_cons (s_frz 7 (s_set (i := 13) (fun _ => sc_law.nd) (e_frz (e_lc (fun _ => rfl) (fun _ => sc_law.nd) (own := [("bad", 12)]) (i_seq (fun _ => rfl) (e_callC (ok__law_sets T).lift (fun _ => ⟨rfl, rfl, rfl, rfl, rfl⟩) (fun _ => hr) (by decide +kernel) (fun _ => rfl) (a_cons (e_var 3) (a_cons (e_var 4) a_nil)) (len_cons1 (len_cons1 len_nil)) rfl)) (fun _ => blkOk_by (by rfl)) (g_name (i := 12) (fun _ => sc_law.nd)) (ts_one (t_val (e_callC (ok__law_agrees T).lift (fun _ => ⟨rfl, rfl, rfl, rfl, rfl⟩) (fun _ => hr) (by decide +kernel) (fun _ => rfl) (a_cons (e_var 7) (a_cons (e_var 12) a_nil)) (len_cons1 (len_cons1 len_nil)) rfl))) (e_var 12) (by decide)))))
    (b_cons (s_frz 7 (s_if (t_not (t_val (e_callC (ok__law_same T 12).lift (fun _ => ⟨rfl, rfl, rfl, rfl, rfl⟩) (fun _ => hr) (by decide +kernel) (fun _ => rfl) (a_cons (e_callC (ok_all_bad T).lift (fun _ => ⟨rfl, rfl, rfl, rfl, rfl⟩) (fun _ => hr) (by decide +kernel) (fun _ => rfl) (a_cons (e_var 3) (a_cons (e_var 7) (a_cons (e_var 4) a_nil))) (len_cons1 (len_cons1 (len_cons1 len_nil))) rfl) (a_cons (e_callTy (c_tuple (fun _ => rfl)) (fun _ => rfl) (fun _ => T.b_tuple) (by decide +kernel) (a_cons (e_callB (c_sortedE (fun _ => hr) (fun _ => rfl)) (fun _ => rfl) (fun _ => T.b_sorted) (by decide +kernel) (a_cons (e_var 13) a_nil)) a_nil)) a_nil)) (len_cons1 (len_cons1 len_nil)) rfl))) (b_one (s_ret e_bool)) b_nil))
    (b_cons (s_asg (e_tup (a_cons e_none (a_cons e_none a_nil))) (g_tup (fun _ => rfl) (fun _ => rfl) (gs_cons (g_name (i := 14) (fun _ => sc_law.nd)) (gs_cons (g_name (i := 15) (fun _ => sc_law.nd)) gs_nil))))
    (b_cons (s_if (t_cmp (o_ne (fun _ => hr) (fun _ => rfl)) (e_var 13) (e_lst a_nil)) (b_cons (s_set (i := 14) (fun _ => sc_law.nd) (e_callTy (c_tuple (fun _ => rfl)) (fun _ => rfl) (fun _ => T.b_tuple) (by decide +kernel) (a_cons (e_lc (fun _ => rfl) (fun _ => sc_law.nd) (own := [("post", 16)]) (i_range1 (fun _ => rfl) (fun _ => T.b_range) (a_cons (e_var 3) a_nil) (len_cons1 len_nil)) (fun _ => blkOk_by (by rfl)) (g_name (i := 16) (fun _ => sc_law.nd)) (ts_one (t_cmp (o_eq (fun _ => hr) (fun _ => rfl)) (e_lc (fun _ => rfl) (fun _ => sc_law.nd) (own := [("bad", 12)]) (i_seq (fun _ => rfl) (e_var 13)) (fun _ => blkOk_by (by rfl)) (g_name (i := 12) (fun _ => sc_law.nd)) (ts_one (t_cmp (o_notin (fun _ => hr) (fun _ => rfl)) (e_var 16) (e_var 12))) (e_var 12) (by decide)) (e_lst a_nil))) (e_var 16) (by decide)) a_nil)))
    (b_one (s_set (i := 15) (fun _ => sc_law.nd) (e_callTy (c_tuple (fun _ => rfl)) (fun _ => rfl) (fun _ => T.b_tuple) (by decide +kernel) (a_cons (e_lc (fun _ => rfl) (fun _ => sc_law.nd) (own := [("post", 16)]) (i_range1 (fun _ => rfl) (fun _ => T.b_range) (a_cons (e_var 3) a_nil) (len_cons1 len_nil)) (fun _ => blkOk_by (by rfl)) (g_name (i := 16) (fun _ => sc_law.nd)) (ts_one (t_cmp (o_eq (fun _ => hr) (fun _ => rfl)) (e_lc (fun _ => rfl) (fun _ => sc_law.nd) (own := [("bad", 12)]) (i_seq (fun _ => rfl) (e_var 13)) (fun _ => blkOk_by (by rfl)) (g_name (i := 12) (fun _ => sc_law.nd)) (ts_one (t_cmp (o_in (fun _ => hr) (fun _ => rfl)) (e_var 16) (e_var 12))) (e_var 12) (by decide)) (e_lst a_nil))) (e_var 16) (by decide)) a_nil))))) b_nil)
    (b_cons (s_frz 7 (s_if (t_pw (w_or (t_not (t_val (e_callC (ok__law_same T 12).lift (fun _ => ⟨rfl, rfl, rfl, rfl, rfl⟩) (fun _ => hr) (by decide +kernel) (fun _ => rfl) (a_cons (e_callC (ok_surely_bad T).lift (fun _ => ⟨rfl, rfl, rfl, rfl, rfl⟩) (fun _ => hr) (by decide +kernel) (fun _ => rfl) (a_cons (e_var 3) (a_cons (e_var 7) (a_cons (e_var 4) a_nil))) (len_cons1 (len_cons1 (len_cons1 len_nil))) rfl) (a_cons (e_var 14) a_nil)) (len_cons1 (len_cons1 len_nil)) rfl))) (w_or1 (t_not (t_val (e_callC (ok__law_same T 12).lift (fun _ => ⟨rfl, rfl, rfl, rfl, rfl⟩) (fun _ => hr) (by decide +kernel) (fun _ => rfl) (a_cons (e_callC (ok_surely_well T).lift (fun _ => ⟨rfl, rfl, rfl, rfl, rfl⟩) (fun _ => hr) (by decide +kernel) (fun _ => rfl) (a_cons (e_var 3) (a_cons (e_var 7) (a_cons (e_var 4) a_nil))) (len_cons1 (len_cons1 (len_cons1 len_nil))) rfl) (a_cons (e_var 15) a_nil)) (len_cons1 (len_cons1 len_nil)) rfl)))))) (b_one (s_ret e_bool)) b_nil))
    (b_one (s_for (fun _ => PassesOwn.never) (fun _ => rfl) (iS_seq (fun _ => rfl) (e_callC (ok__law_sets T).lift (fun _ => ⟨rfl, rfl, rfl, rfl, rfl⟩) (fun _ => hr) (by decide +kernel) (fun _ => rfl) (a_cons (e_var 3) (a_cons (e_var 3) a_nil)) (len_cons1 (len_cons1 len_nil)) rfl)) (g_name (i := 12) (fun _ => sc_law.nd)) (b_one (s_frz 7 (s_if (t_not (t_val (e_callC (ok__law_says T).lift (fun _ => ⟨rfl, rfl, rfl, rfl, rfl⟩) (fun _ => hr) (by decide +kernel) (fun _ => rfl) (a_cons (e_callC (ok_may_be_bad T).lift (fun _ => ⟨rfl, rfl, rfl, rfl, rfl⟩) (fun _ => hr) (by decide +kernel) (fun _ => rfl) (a_cons (e_var 3) (a_cons (e_var 7) (a_cons (e_var 12) a_nil))) (len_cons1 (len_cons1 (len_cons1 len_nil))) rfl) (a_cons (e_callC (ok__law_agrees T).lift (fun _ => ⟨rfl, rfl, rfl, rfl, rfl⟩) (fun _ => hr) (by decide +kernel) (fun _ => rfl) (a_cons (e_var 7) (a_cons (e_var 12) a_nil)) (len_cons1 (len_cons1 len_nil)) rfl) a_nil)) (len_cons1 (len_cons1 len_nil)) rfl))) (b_one (s_ret e_bool)) b_nil)))))))))))))))))
    (b_one (s_ret e_bool))), rfl, (by first | exact Or.inl rfl | exact Or.inr rfl), rfl⟩) hlaw
end
end K87

set_option Elab.async false
set_option linter.all false
set_option maxRecDepth 100000
set_option maxHeartbeats 4000000
set_option autoImplicit false
namespace K87
open PySem PySem.Spec PyProof.Rows L2 DL
/-! k87: sets of posts -/
def S : Nat → List (List Nat)
  | 0 => [[]]
  | 1 => [[], [0]]
  | 2 => [[], [0], [1], [0, 1]]
  | 3 => [[], [0], [1], [2], [0, 1], [0, 2], [1, 2], [0, 1, 2]]
  | 4 => [[], [0], [1], [2], [3], [0, 1], [0, 2], [0, 3], [1, 2], [1, 3], [2, 3], [0, 1, 2], [0, 1, 3], [0, 2, 3], [1, 2, 3], [0, 1, 2, 3]]
  | 5 => [[], [0], [1], [2], [3], [4], [0, 1], [0, 2], [0, 3], [0, 4], [1, 2], [1, 3], [1, 4], [2, 3], [2, 4], [3, 4], [0, 1, 2], [0, 1, 3], [0, 1, 4], [0, 2, 3], [0, 2, 4], [0, 3, 4], [1, 2, 3], [1, 2, 4], [1, 3, 4], [2, 3, 4], [0, 1, 2, 3], [0, 1, 2, 4], [0, 1, 3, 4], [0, 2, 3, 4], [1, 2, 3, 4], [0, 1, 2, 3, 4]]
  | _ => []
def TT (n m : Nat) : List (List Nat) := (S n).filter fun s => decide (s.length ≤ m)
theorem sets_ok : ∀ n m : Nat, 2 ≤ n → n ≤ 5 → m ≤ n → F_sets_of [.dat (.int (n : Int)), .dat (.int (m : Int))] () = some (.dat (.list ((TT n m).map tup)), ())
  | 2, 0, _, _, _ => isRes_eq (by decide +kernel)
  | 2, 1, _, _, _ => isRes_eq (by decide +kernel)
  | 2, 2, _, _, _ => isRes_eq (by decide +kernel)
  | 2, m + 3, _, _, h => by omega
  | 3, 0, _, _, _ => isRes_eq (by decide +kernel)
  | 3, 1, _, _, _ => isRes_eq (by decide +kernel)
  | 3, 2, _, _, _ => isRes_eq (by decide +kernel)
  | 3, 3, _, _, _ => isRes_eq (by decide +kernel)
  | 3, m + 4, _, _, h => by omega
  | 4, 0, _, _, _ => isRes_eq (by decide +kernel)
  | 4, 1, _, _, _ => isRes_eq (by decide +kernel)
  | 4, 2, _, _, _ => isRes_eq (by decide +kernel)
  | 4, 3, _, _, _ => isRes_eq (by decide +kernel)
  | 4, 4, _, _, _ => isRes_eq (by decide +kernel)
  | 4, m + 5, _, _, h => by omega
  | 5, 0, _, _, _ => isRes_eq (by decide +kernel)
  | 5, 1, _, _, _ => isRes_eq (by decide +kernel)
  | 5, 2, _, _, _ => isRes_eq (by decide +kernel)
  | 5, 3, _, _, _ => isRes_eq (by decide +kernel)
  | 5, 4, _, _, _ => isRes_eq (by decide +kernel)
  | 5, 5, _, _, _ => isRes_eq (by decide +kernel)
  | 5, m + 6, _, _, h => by omega
  | 0, _, h, _, _ => by omega
  | 1, _, h, _, _ => by omega
  | n + 6, _, _, h, _ => by omega
theorem law_sets_ok : ∀ n m : Nat, 2 ≤ n → n ≤ 5 → m ≤ n → F__law_sets [.dat (.int (n : Int)), .dat (.int (m : Int))] () = some (.dat (.list ((TT n m).map tup)), ())
  | 2, 0, _, _, _ => isRes_eq (by decide +kernel)
  | 2, 1, _, _, _ => isRes_eq (by decide +kernel)
  | 2, 2, _, _, _ => isRes_eq (by decide +kernel)
  | 2, m + 3, _, _, h => by omega
  | 3, 0, _, _, _ => isRes_eq (by decide +kernel)
  | 3, 1, _, _, _ => isRes_eq (by decide +kernel)
  | 3, 2, _, _, _ => isRes_eq (by decide +kernel)
  | 3, 3, _, _, _ => isRes_eq (by decide +kernel)
  | 3, m + 4, _, _, h => by omega
  | 4, 0, _, _, _ => isRes_eq (by decide +kernel)
  | 4, 1, _, _, _ => isRes_eq (by decide +kernel)
  | 4, 2, _, _, _ => isRes_eq (by decide +kernel)
  | 4, 3, _, _, _ => isRes_eq (by decide +kernel)
  | 4, 4, _, _, _ => isRes_eq (by decide +kernel)
  | 4, m + 5, _, _, h => by omega
  | 5, 0, _, _, _ => isRes_eq (by decide +kernel)
  | 5, 1, _, _, _ => isRes_eq (by decide +kernel)
  | 5, 2, _, _, _ => isRes_eq (by decide +kernel)
  | 5, 3, _, _, _ => isRes_eq (by decide +kernel)
  | 5, 4, _, _, _ => isRes_eq (by decide +kernel)
  | 5, 5, _, _, _ => isRes_eq (by decide +kernel)
  | 5, m + 6, _, _, h => by omega
  | 0, _, h, _, _ => by omega
  | 1, _, h, _, _ => by omega
  | n + 6, _, _, h, _ => by omega
theorem S_len : ∀ n : Nat, n ≤ 5 → (S n).length ≤ 32 ∧ ∀ s ∈ S n, s.length ≤ 5
  | 0, _ => by decide +kernel
  | 1, _ => by decide +kernel
  | 2, _ => by decide +kernel
  | 3, _ => by decide +kernel
  | 4, _ => by decide +kernel
  | 5, _ => by decide +kernel
  | n + 6, h => by omega
theorem T_len {n m : Nat} (h : n ≤ 5) : (TT n m).length ≤ 32 := Nat.le_trans (List.length_filter_le _ _) (S_len n h).1
def pr (x : Nat × Nat) : PyData := .tuple [.int x.1, .int x.2]
def PP (L : List (Nat × Nat)) : PyData := .tuple (L.map pr)
def wd (w : Bool) : Str := if w = true then "bad" else "well"
theorem wd_eq (w : Bool) : decide (wd w = ("bad" : Str)) = w := by cases w <;> decide +kernel
def look (x : Nat × Nat × Bool) : PyData := .tuple [.int x.1, .int x.2.1, .str (wd x.2.2)]

def agr (s : List Nat) (x : Nat × Nat × Bool) : Bool := mem x.1 s || decide (x.2.2 = mem x.2.1 s)
theorem agrees_ok {L : List (Nat × Nat × Bool)} {s : List Nat} : F__law_agrees [.dat (.tuple (L.map look)), .dat (tup s)] () = some (.dat (.bool (L.all (agr s))), ()) := by
  refine func_rt rfl ?_
  have l : lcGo (lcStep (setTup 3 (gConsD (setSlot 2) (gConsD (setSlot 3) (gConsD (setSlot 4) gNilD)))) (dAnd (dTest (dBin (dIn true) (dVar 2) (dVar 1))) (dTest (dBin dNe (dBin dEq (dVar 4) (dC (.dat (.str "bad")))) (dBin (dIn false) (dVar 3) (dVar 1))))) (dFrz (dC (.dat (.int 1)))) [some (.dat (.tuple (L.map look))), some (.dat (tup s)), none, none, none]) (L.map look) () = some ((L.filter fun x => !agr s x).map fun _ => PyData.int 1, ()) := lcGo_map L fun x hx => by
    obtain ⟨a, b, w⟩ := x
    have h := wd_eq w
    simp [look, in_t, in_f, -q_in_t, -q_in_f, agr, h]
    cases mem a s <;> cases mem b s <;> cases w <;> simp [wd]
  have it : dItems (dVar 0) [some (.dat (.tuple (L.map look))), some (.dat (tup s)), none, none, none] () = some (L.map look, ()) := by simp
  have lc := lc_of (vs := [2, 3, 4]) it rfl l
  have ok : okD (.list ((L.filter fun x => !agr s x).map fun _ => PyData.int 1)) = true := okD_list fun d hd => by
    obtain ⟨x, _, rfl⟩ := List.mem_map.mp hd
    exact ⟨pd_int.1, Nat.le_trans pd_int.2 (by decide)⟩
  have e : (L.filter fun x => !agr s x).isEmpty = L.all (agr s) := by
    rw [Bool.eq_iff_iff, List.isEmpty_iff, List.filter_eq_nil_iff, List.all_eq_true]
    exact ⟨fun h x hx => by simpa using h x hx, fun h x hx => by simp [h x hx]⟩
  show dRet _ [some (.dat (.tuple (L.map look))), some (.dat (tup s)), none, none, none] () = _
  simp [lc, -q_lc, ok, eqvs_nil, e]


theorem S_lt : ∀ n : Nat, n ≤ 5 → ∀ s ∈ S n, ∀ p ∈ s, p < n
  | 0, _ => by decide +kernel
  | 1, _ => by decide +kernel
  | 2, _ => by decide +kernel
  | 3, _ => by decide +kernel
  | 4, _ => by decide +kernel
  | 5, _ => by decide +kernel
  | n + 6, h => by omega
theorem may_ok {n : Nat} {L : List (Nat × Nat × Bool)} {q : List Nat} (h : ∀ p ∈ q, p < n) : F_may_be_bad [.dat (.int (n : Int)), .dat (.tuple (L.map look)), .dat (tup q)] () = some (.dat (.bool (L.all (agr q))), ()) := by
  have l1 : lcGo (lcStep (setSlot 3) dYes (dFrz (dChain dLe dLt (dC (.dat (.int 0))) (dVar 3) (dVar 0))) [some (.dat (.int (n : Int))), some (.dat (.tuple (L.map look))), some (.dat (tup q)), none, none, none, none]) (q.map fun p : Nat => PyData.int p) () = some (q.map fun p => PyData.bool (decide (p < n)), ()) := lcGo_all q fun p hp => by
    have h1 : 0 ≤ (p : Int) := by omega
    simp [h1]
  have e1 : (q.map fun p => decide (p < n)).all id = true := by
    rw [List.all_map, List.all_eq_true]
    exact fun p hp => by simpa using h p hp
  have a1 : dIfS (dNot (dTest (dCall bAll (dCons (dLc [3] (dItems (dVar 2)) (setSlot 3) dYes (dFrz (dChain dLe dLt (dC (.dat (.int 0))) (dVar 3) (dVar 0)))) dNil)))) (dRet (dC (.dat (.bool false)))) dSkip [some (.dat (.int (n : Int))), some (.dat (.tuple (L.map look))), some (.dat (tup q)), none, none, none, none] () = some (.nx [some (.dat (.int (n : Int))), some (.dat (.tuple (L.map look))), some (.dat (tup q)), none, none, none, none], ()) := by
    have it : dItems (dVar 2) [some (.dat (.int (n : Int))), some (.dat (.tuple (L.map look))), some (.dat (tup q)), none, none, none, none] () = some (q.map fun p : Nat => PyData.int p, ()) := by simp
    have lc := lc_of (vs := [3]) it rfl l1
    have ba : bAll [.own (q.map fun p => PyData.bool (decide (p < n)))] = some (.dat (.bool true)) := by
      rw [q_all, q_listOf_o, Option.bind_some, bools_map, Option.map_some, e1]
    simp [lc, -q_lc, ba, -q_all]
  have l2 : lcGo (lcStep (setTup 3 (gConsD (setSlot 4) (gConsD (setSlot 5) (gConsD (setSlot 6) gNilD)))) (dTest (dBin (dIn true) (dVar 4) (dVar 2))) (dFrz (dBin dEq (dBin dEq (dVar 6) (dC (.dat (.str "bad")))) (dBin (dIn false) (dVar 5) (dVar 2)))) [some (.dat (.int (n : Int))), some (.dat (.tuple (L.map look))), some (.dat (tup q)), none, none, none, none]) (L.map look) () = some ((L.filter fun x => !mem x.1 q).map fun x => PyData.bool (decide (x.2.2 = mem x.2.1 q)), ()) := lcGo_map L fun x hx => by
    obtain ⟨a, b, w⟩ := x
    have h := wd_eq w
    simp [look, in_t, in_f, -q_in_t, -q_in_f, h]
    cases mem a q <;> simp
  have it : dItems (dVar 1) [some (.dat (.int (n : Int))), some (.dat (.tuple (L.map look))), some (.dat (tup q)), none, none, none, none] () = some (L.map look, ()) := by simp
  have lc := lc_of (vs := [4, 5, 6]) it rfl l2
  have e2 : ((L.filter fun x => !mem x.1 q).map fun x => decide (x.2.2 = mem x.2.1 q)).all id = L.all (agr q) := by
    rw [List.all_map, Bool.eq_iff_iff, List.all_eq_true, List.all_eq_true]
    unfold agr
    constructor
    · intro h x hx
      by_cases hm : mem x.1 q = true
      · simp [hm]
      · have := h x (List.mem_filter.mpr ⟨hx, by simpa using hm⟩)
        simp at this
        simp [this]
    · intro h x hx
      obtain ⟨h1, h2⟩ := List.mem_filter.mp hx
      have := h x h1
      simp at h2
      simpa [h2] using this
  have bb : bAll [.own ((L.filter fun x => !mem x.1 q).map fun x => PyData.bool (decide (x.2.2 = mem x.2.1 q)))] = some (.dat (.bool (L.all (agr q)))) := by
    rw [q_all, q_listOf_o, Option.bind_some, bools_map, Option.map_some, e2]
  refine func_rt rfl ((seq_nx a1).trans ?_)
  simp [lc, -q_lc, bb, -q_all]
def srt (L : List (List Nat)) : List (List Nat) := L.mergeSort fun a b => leD (tup a) (tup b)
theorem srt_eq (L : List (List Nat)) : sortD (L.map tup) = (srt L).map tup := by
  unfold srt
  rw [List.map_mergeSort (s := leD) (fun a _ b _ => rfl), sortD_eq]
theorem mem_srt {L : List (List Nat)} {s : List Nat} : s ∈ srt L ↔ s ∈ L := (List.mergeSort_perm _ _).mem_iff
def ableOf (n m : Nat) (L : List (Nat × Nat × Bool)) : List (List Nat) := (TT n m).filter fun q => L.all (agr q)
theorem T_mem {n m : Nat} {q : List Nat} (h : q ∈ TT n m) : q ∈ S n := (List.mem_filter.mp h).1
theorem all_bad_ok {n m : Nat} {L : List (Nat × Nat × Bool)} (h2 : 2 ≤ n) (h5 : n ≤ 5) (hm : m ≤ n) : F_all_bad [.dat (.int (n : Int)), .dat (.tuple (L.map look)), .dat (.int (m : Int))] () = some (.dat (.tuple ((srt (ableOf n m L)).map tup)), ()) := by
  have l : lcGo (lcStep (setSlot 3) (dTest (dFn F_may_be_bad (dCons (dVar 0) (dCons (dVar 1) (dCons (dVar 3) dNil))))) (dFrz (dVar 3)) [some (.dat (.int (n : Int))), some (.dat (.tuple (L.map look))), some (.dat (.int (m : Int))), none]) ((TT n m).map tup) () = some ((ableOf n m L).map tup, ()) := lcGo_map _ fun q hq => by
    have c := may_ok (n := n) (L := L) (q := q) (S_lt n h5 q (T_mem hq))
    simp [c]
    split <;> simp_all
  have it : dItems (dFn F_sets_of (dCons (dVar 0) (dCons (dVar 2) dNil))) [some (.dat (.int (n : Int))), some (.dat (.tuple (L.map look))), some (.dat (.int (m : Int))), none] () = some ((TT n m).map tup, ()) := by
    simp [sets_ok n m h2 h5 hm]
  have lc := lc_of (vs := [3]) it rfl l
  have so := sortE_of (x := .own ((ableOf n m L).map tup)) rfl (okSortE_tups _)
  rw [srt_eq] at so
  refine func_rt rfl ?_
  simp [lc, -q_lc, so]
theorem okD_ttups {L : List (List Nat)} : okD (.tuple (L.map tup)) = true := okD_tuple fun d hd => by
  obtain ⟨p, _, rfl⟩ := List.mem_map.mp hd
  exact ⟨pd_tup.1, Nat.le_trans pd_tup.2 (by decide)⟩
def sureB (n : Nat) (A : List (List Nat)) : List Nat := (List.range n).filter fun p => (A.filter fun q => !mem p q).isEmpty
def sureW (n : Nat) (A : List (List Nat)) : List Nat := (List.range n).filter fun p => (A.filter fun q => mem p q).isEmpty
theorem all_srt {A : List (List Nat)} {p : Nat} : (srt A).all (fun q => mem p q) = (A.filter fun q => !mem p q).isEmpty := by
  rw [Bool.eq_iff_iff, List.all_eq_true, List.isEmpty_iff, List.filter_eq_nil_iff]
  exact ⟨fun h q hq => by simp [h q (mem_srt.mpr hq)], fun h q hq => by simpa using h q (mem_srt.mp hq)⟩
theorem any_srt {A : List (List Nat)} {p : Nat} : (!(srt A).any (fun q => mem p q)) = (A.filter fun q => mem p q).isEmpty := by
  rw [Bool.eq_iff_iff, List.isEmpty_iff, List.filter_eq_nil_iff, Bool.not_eq_true', List.any_eq_false]
  exact ⟨fun h q hq => h q (mem_srt.mpr hq), fun h q hq => h q (mem_srt.mp hq)⟩
theorem nil_srt {A : List (List Nat)} : (srt A).isEmpty = A.isEmpty := by
  have := List.length_mergeSort (le := fun a b => leD (tup a) (tup b)) A
  rw [Bool.eq_iff_iff, List.isEmpty_iff_length_eq_zero, List.isEmpty_iff_length_eq_zero]
  unfold srt
  rw [this]
theorem eq_nilT {X : List (List Nat)} : dEq (.dat (.tuple (X.map tup))) (.dat (.tuple [])) = some (.dat (.bool X.isEmpty)) := by
  rw [q_eq, okD_ttups, q_eqv_t, eqvs_nil]
  rfl
theorem rg_n {n : Nat} (h5 : n ≤ 5) : rgOf [.dat (.int (n : Int))] = some ((List.range n).map fun i : Nat => PyData.int i) := by rw [rg1_nat (by omega), rangeD_map]
theorem surely_bad_ok {n m : Nat} {L : List (Nat × Nat × Bool)} (h2 : 2 ≤ n) (h5 : n ≤ 5) (hm : m ≤ n) : F_surely_bad [.dat (.int (n : Int)), .dat (.tuple (L.map look)), .dat (.int (m : Int))] () = some (.dat (if (ableOf n m L).isEmpty = true then .none else tup (sureB n (ableOf n m L))), ()) := by
  have c := all_bad_ok (L := L) h2 h5 hm
  have a1 : dSet 3 (dFn F_all_bad (dCons (dVar 0) (dCons (dVar 1) (dCons (dVar 2) dNil)))) [some (.dat (.int (n : Int))), some (.dat (.tuple (L.map look))), some (.dat (.int (m : Int))), none, none, none] () = some (.nx [some (.dat (.int (n : Int))), some (.dat (.tuple (L.map look))), some (.dat (.int (m : Int))), some (.dat (.tuple ((srt (ableOf n m L)).map tup))), none, none], ()) := by
    simp [c]
  have en : (srt (ableOf n m L)).isEmpty = (ableOf n m L).isEmpty := nil_srt
  by_cases he : (ableOf n m L).isEmpty = true
  · rw [if_pos he]
    have k := eq_nilT (X := srt (ableOf n m L))
    rw [en, he] at k
    refine func_rt rfl ((seq_nx a1).trans (seq_rt ?_))
    simp [k, -q_eq]
  · rw [if_neg he]
    have k := eq_nilT (X := srt (ableOf n m L))
    rw [en, Bool.eq_false_iff.mpr he] at k
    have a2 : dIfS (dTest (dBin dEq (dVar 3) (dTup dNil))) (dRet (dC (.dat .none))) dSkip [some (.dat (.int (n : Int))), some (.dat (.tuple (L.map look))), some (.dat (.int (m : Int))), some (.dat (.tuple ((srt (ableOf n m L)).map tup))), none, none] () = some (.nx [some (.dat (.int (n : Int))), some (.dat (.tuple (L.map look))), some (.dat (.int (m : Int))), some (.dat (.tuple ((srt (ableOf n m L)).map tup))), none, none], ()) := by
      simp [k, -q_eq]
    have l : lcGo (lcStep (setSlot 4) (dTest (dCall bAll (dCons (dLc [5] (dItems (dVar 3)) (setSlot 5) dYes (dFrz (dBin (dIn false) (dVar 4) (dVar 5)))) dNil))) (dFrz (dVar 4)) [some (.dat (.int (n : Int))), some (.dat (.tuple (L.map look))), some (.dat (.int (m : Int))), some (.dat (.tuple ((srt (ableOf n m L)).map tup))), none, none]) ((List.range n).map fun i : Nat => PyData.int i) () = some ((sureB n (ableOf n m L)).map fun i : Nat => PyData.int i, ()) := lcGo_map _ fun p hp => by
      have l2 : lcGo (lcStep (setSlot 5) dYes (dFrz (dBin (dIn false) (dVar 4) (dVar 5))) [some (.dat (.int (n : Int))), some (.dat (.tuple (L.map look))), some (.dat (.int (m : Int))), some (.dat (.tuple ((srt (ableOf n m L)).map tup))), some (.dat (.int p)), none]) ((srt (ableOf n m L)).map tup) () = some ((srt (ableOf n m L)).map fun q => PyData.bool (mem p q), ()) := lcGo_all _ fun q hq => by
        simp [in_f, -q_in_f]
      have e := all_srt (A := ableOf n m L) (p := p)
      have ba : bAll [.own ((srt (ableOf n m L)).map fun q => PyData.bool (mem p q))] = some (.dat (.bool ((ableOf n m L).filter fun q => !mem p q).isEmpty)) := by
        rw [q_all, q_listOf_o, Option.bind_some, bools_map, Option.map_some, ← e, List.all_map]
        rfl
      generalize srt (ableOf n m L) = X at *
      generalize ((ableOf n m L).filter fun q => !mem p q).isEmpty = B at *
      simp [l2, ba, -q_all]
      split <;> simp_all
    have it : dRange (dCons (dVar 0) dNil) [some (.dat (.int (n : Int))), some (.dat (.tuple (L.map look))), some (.dat (.int (m : Int))), some (.dat (.tuple ((srt (ableOf n m L)).map tup))), none, none] () = some ((List.range n).map fun i : Nat => PyData.int i, ()) := by
      simp [rg_n h5, -q_rg1]
    have lc := lc_of (vs := [4]) it rfl l
    refine func_rt rfl ((seq_nx a1).trans ((seq_nx a2).trans ?_))
    simp [lc, -q_lc]
    rfl
theorem surely_well_ok {n m : Nat} {L : List (Nat × Nat × Bool)} (h2 : 2 ≤ n) (h5 : n ≤ 5) (hm : m ≤ n) : F_surely_well [.dat (.int (n : Int)), .dat (.tuple (L.map look)), .dat (.int (m : Int))] () = some (.dat (if (ableOf n m L).isEmpty = true then .none else tup (sureW n (ableOf n m L))), ()) := by
  have c := all_bad_ok (L := L) h2 h5 hm
  have a1 : dSet 3 (dFn F_all_bad (dCons (dVar 0) (dCons (dVar 1) (dCons (dVar 2) dNil)))) [some (.dat (.int (n : Int))), some (.dat (.tuple (L.map look))), some (.dat (.int (m : Int))), none, none, none] () = some (.nx [some (.dat (.int (n : Int))), some (.dat (.tuple (L.map look))), some (.dat (.int (m : Int))), some (.dat (.tuple ((srt (ableOf n m L)).map tup))), none, none], ()) := by
    simp [c]
  have en : (srt (ableOf n m L)).isEmpty = (ableOf n m L).isEmpty := nil_srt
  by_cases he : (ableOf n m L).isEmpty = true
  · rw [if_pos he]
    have k := eq_nilT (X := srt (ableOf n m L))
    rw [en, he] at k
    refine func_rt rfl ((seq_nx a1).trans (seq_rt ?_))
    simp [k, -q_eq]
  · rw [if_neg he]
    have k := eq_nilT (X := srt (ableOf n m L))
    rw [en, Bool.eq_false_iff.mpr he] at k
    have a2 : dIfS (dTest (dBin dEq (dVar 3) (dTup dNil))) (dRet (dC (.dat .none))) dSkip [some (.dat (.int (n : Int))), some (.dat (.tuple (L.map look))), some (.dat (.int (m : Int))), some (.dat (.tuple ((srt (ableOf n m L)).map tup))), none, none] () = some (.nx [some (.dat (.int (n : Int))), some (.dat (.tuple (L.map look))), some (.dat (.int (m : Int))), some (.dat (.tuple ((srt (ableOf n m L)).map tup))), none, none], ()) := by
      simp [k, -q_eq]
    have l : lcGo (lcStep (setSlot 4) (dNot (dTest (dCall bAny (dCons (dLc [5] (dItems (dVar 3)) (setSlot 5) dYes (dFrz (dBin (dIn false) (dVar 4) (dVar 5)))) dNil)))) (dFrz (dVar 4)) [some (.dat (.int (n : Int))), some (.dat (.tuple (L.map look))), some (.dat (.int (m : Int))), some (.dat (.tuple ((srt (ableOf n m L)).map tup))), none, none]) ((List.range n).map fun i : Nat => PyData.int i) () = some ((sureW n (ableOf n m L)).map fun i : Nat => PyData.int i, ()) := lcGo_map _ fun p hp => by
      have l2 : lcGo (lcStep (setSlot 5) dYes (dFrz (dBin (dIn false) (dVar 4) (dVar 5))) [some (.dat (.int (n : Int))), some (.dat (.tuple (L.map look))), some (.dat (.int (m : Int))), some (.dat (.tuple ((srt (ableOf n m L)).map tup))), some (.dat (.int p)), none]) ((srt (ableOf n m L)).map tup) () = some ((srt (ableOf n m L)).map fun q => PyData.bool (mem p q), ()) := lcGo_all _ fun q hq => by
        simp [in_f, -q_in_f]
      have e := any_srt (A := ableOf n m L) (p := p)
      have ba : bAny [.own ((srt (ableOf n m L)).map fun q => PyData.bool (mem p q))] = some (.dat (.bool ((srt (ableOf n m L)).any fun q => mem p q))) := by
        rw [q_any, q_listOf_o, Option.bind_some, bools_map, Option.map_some, List.any_map]
        rfl
      rw [← e]
      generalize ((srt (ableOf n m L)).any fun q => mem p q) = B at *
      generalize srt (ableOf n m L) = X at *
      simp [l2, ba, -q_any]
      cases B <;> simp
    have it : dRange (dCons (dVar 0) dNil) [some (.dat (.int (n : Int))), some (.dat (.tuple (L.map look))), some (.dat (.int (m : Int))), some (.dat (.tuple ((srt (ableOf n m L)).map tup))), none, none] () = some ((List.range n).map fun i : Nat => PyData.int i, ()) := by
      simp [rg_n h5, -q_rg1]
    have lc := lc_of (vs := [4]) it rfl l
    refine func_rt rfl ((seq_nx a1).trans ((seq_nx a2).trans ?_))
    simp [lc, -q_lc]
    rfl
/-! pairs -/
theorem alike_pr (x y : Nat × Nat) : PySem.W.alike (pr x) (pr y) = true := by
  unfold pr
  simp [PySem.W.alike, PySem.W.alikeAll]
theorem pd_pr {x : Nat × Nat} : (pr x).plain = true ∧ (pr x).depth ≤ 1 := by
  unfold pr
  simp [PyData.plain, PyData.plainAll, PyData.depth, PyData.depthAll]
theorem okSort_prs (L : List (Nat × Nat)) : okSort (L.map pr) = true := by
  unfold okSort
  simp only [Bool.and_eq_true, Bool.or_eq_true, List.all_eq_true, decide_eq_true_eq]
  refine ⟨⟨fun d hd e he => ?_, .inl fun d hd => ?_⟩, fun d hd => ?_⟩
  · obtain ⟨s, _, rfl⟩ := List.mem_map.mp hd
    obtain ⟨t, _, rfl⟩ := List.mem_map.mp he
    exact alike_pr s t
  · obtain ⟨s, hs, rfl⟩ := List.mem_map.mp hd
    rfl
  · obtain ⟨s, _, rfl⟩ := List.mem_map.mp hd
    exact Nat.le_trans pd_pr.2 (by decide)
theorem okD_lprs {L : List (Nat × Nat)} : okD (.list (L.map pr)) = true := okD_list fun d hd => by
  obtain ⟨p, _, rfl⟩ := List.mem_map.mp hd
  exact ⟨pd_pr.1, Nat.le_trans pd_pr.2 (by decide)⟩
theorem eqvs_self : ∀ L : List (Nat × Nat), PyData.eqvAll (L.map pr) (L.map pr) = true
  | [] => by simp
  | x :: L => by
    rw [List.map_cons, q_eqvs_cc, eqvs_self L]
    simp [pr]
def rowp (n a : Nat) : List (Nat × Nat) := ((List.range n).filter fun b => !decide (a = b)).map fun b => (a, b)
def allp (n k : Nat) : List (Nat × Nat) := (List.range k).flatMap (rowp n)
theorem allp_succ (n k : Nat) : allp n (k + 1) = allp n k ++ rowp n k := by
  unfold allp
  rw [List.range_succ, List.flatMap_append]
  simp
theorem allp_ord : ∀ n : Nat, n ≤ 5 → (allp n n).Pairwise (fun x y => leD (pr x) (pr y) = true) ∧ (allp n n).length ≤ 20
  | 0, _ => by decide +kernel
  | 1, _ => by decide +kernel
  | 2, _ => by decide +kernel
  | 3, _ => by decide +kernel
  | 4, _ => by decide +kernel
  | 5, _ => by decide +kernel
  | n + 6, h => by omega
theorem sort_pr {n : Nat} {L : List (Nat × Nat)} (hn : n ≤ 5) (h : L.Sublist (allp n n)) : sortD (L.map pr) = L.map pr := by
  rw [sortD_eq]
  have : (L.map pr).Pairwise fun a b => leD a b = true := List.pairwise_map.mpr ((allp_ord n hn).1.sublist h)
  first
    | exact List.mergeSort_of_pairwise this
    | exact List.mergeSort_of_sorted this
theorem lcGo_sub {α τ : Type} {I : τ → Prop} {c e : α → PyData} {p : α → Bool} {step : PyData → τ → Option (List PyData × τ)} : ∀ (L : List α) (s : τ), I s → (∀ a ∈ L, ∀ s, I s → ∃ (k : Bool) (s' : τ), (k = true → p a = true) ∧ step (c a) s = some (if k = true then [e a] else [], s') ∧ I s') → ∃ (M : List α) (s' : τ), M.Sublist (L.filter p) ∧ lcGo step (L.map c) s = some (M.map e, s') ∧ I s'
  | [], s, hi, _ => ⟨[], s, List.Sublist.refl _, rfl, hi⟩
  | a :: L, s, hi, h => by
    obtain ⟨k, s1, h1, h2, h3⟩ := h a List.mem_cons_self s hi
    obtain ⟨M, s2, k1, k2, k3⟩ := lcGo_sub L s1 h3 fun b hb => h b (List.mem_cons_of_mem _ hb)
    cases k with
    | true =>
      refine ⟨a :: M, s2, ?_, ?_, k3⟩
      · rw [List.filter_cons_of_pos (h1 rfl)]
        exact k1.cons_cons a
      · show (step (c a) s).bind _ = _
        rw [h2]
        simp [k2]
    | false =>
      refine ⟨M, s2, ?_, ?_, k3⟩
      · by_cases hp : p a = true
        · rw [List.filter_cons_of_pos hp]
          exact k1.cons a
        · rw [List.filter_cons_of_neg hp]
          exact k1
      · show (step (c a) s).bind _ = _
        rw [h2]
        simp [k2]
theorem pairs_ok {n : Nat} {s : WSt} (hn : n ≤ 5) (h : OkW s) : ∃ (L : List (Nat × Nat)) (s' : WSt), F__law_pairs [.tok, .dat (.int (n : Int))] s = some (.dat (PP L), s') ∧ L.Sublist (allp n n) ∧ OkW s' := by
  have rg : rgOf [.dat (.int (n : Int))] = some ((List.range n).map fun i : Nat => PyData.int i) := by rw [rg1_nat (by omega), rangeD_map]
  have turn : ∀ i x, ((List.range n).map fun i : Nat => PyData.int i)[i]? = some x → ∀ ρ (s : WSt), ((∃ (L : List (Nat × Nat)) (x3 : Option Rv), ρ = [some .tok, some (.dat (.int n)), some (.dat (.list (L.map pr))), x3, none] ∧ L.Sublist (allp n (0 + i))) ∧ OkW s) →
      ∃ ρ' s', forStep (setSlot 3) (dSet 2 (dFrz (dBin dAdd (dVar 2) (dLc [4] (dRange (dCons (dVar 1) dNil)) (setSlot 4) (dAnd (dTest (dBin dNe (dVar 3) (dVar 4))) (dTest (dBin dGt (dFn F__law_next (dCons (dVar 0) (dCons (dC (.dat (.int 3))) dNil))) (dC (.dat (.int 0)))))) (dFrz (dTup (dCons (dVar 3) (dCons (dVar 4) dNil)))))))) x ρ s = some (.nx ρ', s') ∧
        ((∃ (L : List (Nat × Nat)) (x3 : Option Rv), ρ' = [some .tok, some (.dat (.int n)), some (.dat (.list (L.map pr))), x3, none] ∧ L.Sublist (allp n (0 + i + 1))) ∧ OkW s') := by
    rintro i x hx ρ s ⟨⟨L, x3, rfl, hL⟩, ok⟩
    have hi : i < n ∧ x = .int i := by
      rw [← rangeD_map] at hx
      exact range_int0 hx
    obtain ⟨hi, rfl⟩ := hi
    obtain ⟨M, s1, m1, m2, ok1⟩ := lcGo_sub (I := OkW) (c := fun b : Nat => PyData.int b) (e := fun b => pr (i, b)) (p := fun b => !decide (i = b)) (step := lcStep (setSlot 4) (dAnd (dTest (dBin dNe (dVar 3) (dVar 4))) (dTest (dBin dGt (dFn F__law_next (dCons (dVar 0) (dCons (dC (.dat (.int 3))) dNil))) (dC (.dat (.int 0)))))) (dFrz (dTup (dCons (dVar 3) (dCons (dVar 4) dNil)))) [some .tok, some (.dat (.int n)), some (.dat (.list (L.map pr))), some (.dat (.int i)), none]) (List.range n) s ok (fun b hb s hs => by
        by_cases e : i = b
        · refine ⟨false, s, by simp, ?_, hs⟩
          simp [e]
        · obtain ⟨r, s', n1, _, _, ok'⟩ := next_ok (m := 3) (by omega) hs
          have n1 : F__law_next [.tok, .dat (.int 3)] s = some (.dat (.int r), s') := n1
          have e' : ¬ (i : Int) = b := by omega
          refine ⟨decide (0 < r), s', fun _ => by simp [e], ?_, ok'⟩
          by_cases hr : 0 < r <;> simp [e, e', n1, hr, pr])
    have it : dRange (dCons (dVar 1) dNil) [some .tok, some (.dat (.int n)), some (.dat (.list (L.map pr))), some (.dat (.int i)), none] s = some ((List.range n).map fun i : Nat => PyData.int i, s) := by
      simp [rg, -q_rg1]
    have lc := lc_of (vs := [4]) it rfl m2
    have hlen : L.length ≤ 1000 ∧ M.length ≤ 1000 := by
      have h1 := hL.length_le
      have h2 := m1.length_le
      have h3 := List.length_filter_le (fun b => !decide (i = b)) (List.range n)
      rw [List.length_range] at h3
      have h4 : (allp n (0 + i)).length ≤ 5 * 5 := by
        unfold allp
        rw [List.length_flatMap]
        have : ∀ K : List Nat, (K.map fun a => (rowp n a).length).sum ≤ 5 * K.length := fun K => by
          induction K with
          | nil => simp
          | cons a K ih =>
            rw [List.map_cons, List.sum_cons, List.length_cons]
            have := List.length_filter_le (fun b => !decide (a = b)) (List.range n)
            rw [List.length_range] at this
            unfold rowp at ih ⊢
            rw [List.length_map]
            omega
        have := this (List.range (0 + i))
        rw [List.length_range] at this
        omega
      omega
    refine ⟨[some .tok, some (.dat (.int n)), some (.dat (.list ((L ++ M.map fun b => (i, b)).map pr))), some (.dat (.int i)), none], s1, ?_, ⟨L ++ M.map fun b => (i, b), _, rfl, ?_⟩, ok1⟩
    · have hz : L.length + M.length ≤ 16777216 := by omega
      simp [lc, -q_lc, hz]
    · rw [allp_succ]
      refine List.Sublist.append hL ?_
      rw [Nat.zero_add]
      exact m1.map _
  obtain ⟨ρ', s', e1, ⟨L, x3, rfl, hL⟩, ok'⟩ := forGo_inv (τ := WSt) (I := fun k ρ s => (∃ (L : List (Nat × Nat)) (x3 : Option Rv), ρ = [some .tok, some (.dat (.int n)), some (.dat (.list (L.map pr))), x3, none] ∧ L.Sublist (allp n k)) ∧ OkW s) ((List.range n).map fun i : Nat => PyData.int i) 0 [some .tok, some (.dat (.int n)), some (.dat (.list (([] : List (Nat × Nat)).map pr))), none, none] s ⟨⟨[], none, rfl, List.nil_sublist _⟩, h⟩ turn
  rw [List.length_map, List.length_range, Nat.zero_add] at hL
  refine ⟨L, s', ?_, hL, ok'⟩
  have a1 : dSet 2 (dFrz (dLst dNil)) [some .tok, some (.dat (.int n)), none, none, none] s = some (.nx [some .tok, some (.dat (.int n)), some (.dat (.list (([] : List (Nat × Nat)).map pr))), none, none], s) := by simp
  have it : dRange (dCons (dVar 1) dNil) [some .tok, some (.dat (.int n)), some (.dat (.list (([] : List (Nat × Nat)).map pr))), none, none] s = some ((List.range n).map fun i : Nat => PyData.int i, s) := by
    simp [rg, -q_rg1]
  refine func_rt rfl ((seq_nx a1).trans ((seq_nx (for_of it e1)).trans ?_))
  simp
  rfl

/-! the law of k87 -/
abbrev EE (sc : PyData) (t2 t3 t4 t5 t6 t7 t8 t9 t10 t11 t12 t13 t14 t15 : Option Rv) : Ev := [some (.dat sc), some .tok, t2, t3, t4, t5, t6, t7, t8, t9, t10, t11, t12, t13, t14, t15, none]
theorem TT_ne : ∀ n : Nat, 2 ≤ n → n ≤ 5 → 0 < (TT n n).length
  | 2, _, _ => by decide +kernel
  | 3, _, _ => by decide +kernel
  | 4, _, _ => by decide +kernel
  | 5, _, _ => by decide +kernel
  | 0, h, _ => by omega
  | 1, h, _ => by omega
  | n + 6, _, h => by omega
section
variable {sc : PyData} {t2 t3 t4 t5 t6 t7 t8 t9 t10 t11 t12 t13 t14 t15 : Option Rv} {s : WSt}
theorem st_many (ok : OkW s) : ∃ (n : Nat) (s' : WSt), dSet 3 (dBin dAdd (dC (.dat (.int 2))) (dFn F__law_next (dCons (dVar 1) (dCons (dC (.dat (.int 4))) dNil)))) (EE sc t2 t3 t4 t5 t6 t7 t8 t9 t10 t11 t12 t13 t14 t15) s = some (.nx (EE sc t2 (some (.dat (.int (n : Int)))) t4 t5 t6 t7 t8 t9 t10 t11 t12 t13 t14 t15), s') ∧ 2 ≤ n ∧ n ≤ 5 ∧ OkW s' := by
  obtain ⟨r, s1, n1, n2, n3, ok1⟩ := next_ok (m := 4) (by omega) ok
  have n1 : F__law_next [.tok, .dat (.int 4)] s = some (.dat (.int r), s1) := n1
  refine ⟨(2 + r).toNat, s1, ?_, by omega, by omega, ok1⟩
  have : ((2 + r).toNat : Int) = 2 + r := by omega
  simp [n1, this]
theorem st_pairs {n : Nat} (h5 : n ≤ 5) (ok : OkW s) : ∃ (m : Nat) (L : List (Nat × Nat)) (s' : WSt), dPar 4 5 (dCons (dFn F__law_next (dCons (dVar 1) (dCons (dBin dAdd (dVar 3) (dC (.dat (.int 1)))) dNil))) (dCons (dFn F__law_pairs (dCons (dVar 1) (dCons (dVar 3) dNil))) dNil)) (EE sc t2 (some (.dat (.int (n : Int)))) t4 t5 t6 t7 t8 t9 t10 t11 t12 t13 t14 t15) s = some (.nx (EE sc t2 (some (.dat (.int (n : Int)))) (some (.dat (.int (m : Int)))) (some (.dat (PP L))) t6 t7 t8 t9 t10 t11 t12 t13 t14 t15), s') ∧ m ≤ n ∧ L.Sublist (allp n n) ∧ OkW s' := by
  obtain ⟨r, s1, n1, n2, n3, ok1⟩ := next_ok (m := (n : Int) + 1) (by omega) ok
  have n1 : F__law_next [.tok, .dat (.int ((n : Int) + 1))] s = some (.dat (.int r), s1) := n1
  obtain ⟨L, s2, e2, hL, ok2⟩ := pairs_ok h5 ok1
  refine ⟨r.toNat, L, s2, ?_, by omega, hL, ok2⟩
  have : (r.toNat : Int) = r := by omega
  simp [n1, e2, this]
theorem st_truth {n : Nat} (h2 : 2 ≤ n) (h5 : n ≤ 5) (ok : OkW s) : ∃ (q : List Nat) (s' : WSt), dPar2 6 7 (dFn F__law_pick (dCons (dVar 1) (dCons (dFn (liftF F__law_sets) (dCons (dVar 3) (dCons (dVar 3) dNil))) dNil))) (dLst dNil) (EE sc t2 (some (.dat (.int (n : Int)))) t4 t5 t6 t7 t8 t9 t10 t11 t12 t13 t14 t15) s = some (.nx (EE sc t2 (some (.dat (.int (n : Int)))) t4 t5 (some (.dat (tup q))) (some (.own (([] : List (Nat × Nat × Bool)).map look))) t8 t9 t10 t11 t12 t13 t14 t15), s') ∧ OkW s' := by
  obtain ⟨d, s1, e1, hd, ok1⟩ := pick_of (x := .list ((TT n n).map tup)) ok (.inl rfl) (by rw [List.length_map]; exact TT_ne n h2 h5)
  have e1 : F__law_pick [.tok, .dat (.list ((TT n n).map tup))] s = some (.dat d, s1) := e1
  obtain ⟨q, _, rfl⟩ := List.mem_map.mp hd
  refine ⟨q, s1, ?_, ok1⟩
  simp [lift_of (law_sets_ok n n h2 h5 (Nat.le_refl _)) (s := s) rfl, e1]
theorem st_lies (ok : OkW s) : ∃ (b : Bool) (s' : WSt), dSet 8 (dBin dEq (dFn F__law_next (dCons (dVar 1) (dCons (dC (.dat (.int 5))) dNil))) (dC (.dat (.int 0)))) (EE sc t2 t3 t4 t5 t6 t7 t8 t9 t10 t11 t12 t13 t14 t15) s = some (.nx (EE sc t2 t3 t4 t5 t6 t7 (some (.dat (.bool b))) t9 t10 t11 t12 t13 t14 t15), s') ∧ OkW s' := by
  obtain ⟨r, s1, n1, _, _, ok1⟩ := next_ok (m := 5) (by omega) ok
  have n1 : F__law_next [.tok, .dat (.int 5)] s = some (.dat (.int r), s1) := n1
  exact ⟨decide (r = 0), s1, by simp [n1], ok1⟩
theorem st_word {q : List Nat} {b : Bool} {x : Nat × Nat} {K : List (Nat × Nat × Bool)} (ok : OkW s) (hK : K.length < 16777216) : ∃ (w : Bool) (s' : WSt), forStep (setTup 2 (gConsD (setSlot 9) (gConsD (setSlot 10) gNilD))) (dSeq (dSet 11 (dFrz (dIf (dTest (dBin (dIn false) (dVar 10) (dVar 6))) (dC (.dat (.str "bad"))) (dC (.dat (.str "well")))))) (dSeq (dIfS (dOr (dTest (dBin (dIn false) (dVar 9) (dVar 6))) (dTest (dVar 8))) (dSet 11 (dFn F__law_pick (dCons (dVar 1) (dCons (dFrz (dLst (dCons (dC (.dat (.str "bad"))) (dCons (dC (.dat (.str "well"))) dNil)))) dNil)))) dSkip) (dAppend 7 (dTup (dCons (dVar 9) (dCons (dVar 10) (dCons (dVar 11) dNil))))))) (pr x) (EE sc t2 t3 t4 t5 (some (.dat (tup q))) (some (.own (K.map look))) (some (.dat (.bool b))) t9 t10 t11 t12 t13 t14 t15) s = some (.nx (EE sc t2 t3 t4 t5 (some (.dat (tup q))) (some (.own ((K ++ [(x.1, x.2, w)]).map look))) (some (.dat (.bool b))) (some (.dat (.int x.1))) (some (.dat (.int x.2))) (some (.dat (.str (wd w)))) t12 t13 t14 t15), s') ∧ OkW s' := by
  have t0 : setTup 2 (gConsD (setSlot 9) (gConsD (setSlot 10) gNilD)) (.dat (pr x)) (EE sc t2 t3 t4 t5 (some (.dat (tup q))) (some (.own (K.map look))) (some (.dat (.bool b))) t9 t10 t11 t12 t13 t14 t15) = some (EE sc t2 t3 t4 t5 (some (.dat (tup q))) (some (.own (K.map look))) (some (.dat (.bool b))) (some (.dat (.int x.1))) (some (.dat (.int x.2))) t11 t12 t13 t14 t15) := by simp [pr]
  have a1 : dSet 11 (dFrz (dIf (dTest (dBin (dIn false) (dVar 10) (dVar 6))) (dC (.dat (.str "bad"))) (dC (.dat (.str "well"))))) (EE sc t2 t3 t4 t5 (some (.dat (tup q))) (some (.own (K.map look))) (some (.dat (.bool b))) (some (.dat (.int x.1))) (some (.dat (.int x.2))) t11 t12 t13 t14 t15) s = some (.nx (EE sc t2 t3 t4 t5 (some (.dat (tup q))) (some (.own (K.map look))) (some (.dat (.bool b))) (some (.dat (.int x.1))) (some (.dat (.int x.2))) (some (.dat (.str (wd (mem x.2 q))))) t12 t13 t14 t15), s) := by
    simp [in_f, -q_in_f]
    cases mem x.2 q <;> simp [wd]
  obtain ⟨d, s1, e1, hd, ok1⟩ := pick_of (x := .list [.str "bad", .str "well"]) ok (.inl rfl) (by simp)
  have e1 : F__law_pick [.tok, .dat (.list [.str "bad", .str "well"])] s = some (.dat d, s1) := e1
  have hw : ∃ w, d = .str (wd w) := by
    simp at hd
    rcases hd with rfl | rfl
    · exact ⟨true, rfl⟩
    · exact ⟨false, rfl⟩
  obtain ⟨w1, rfl⟩ := hw
  have fin : ∀ (w : Bool) (s : WSt), dAppend 7 (dTup (dCons (dVar 9) (dCons (dVar 10) (dCons (dVar 11) dNil)))) (EE sc t2 t3 t4 t5 (some (.dat (tup q))) (some (.own (K.map look))) (some (.dat (.bool b))) (some (.dat (.int x.1))) (some (.dat (.int x.2))) (some (.dat (.str (wd w)))) t12 t13 t14 t15) s = some (.nx (EE sc t2 t3 t4 t5 (some (.dat (tup q))) (some (.own ((K ++ [(x.1, x.2, w)]).map look))) (some (.dat (.bool b))) (some (.dat (.int x.1))) (some (.dat (.int x.2))) (some (.dat (.str (wd w)))) t12 t13 t14 t15), s) := fun w s => by
    simp [hK, look]
  rw [q_forStep, t0, Option.bind_some]
  by_cases hc : (mem x.1 q || b) = true
  · refine ⟨w1, s1, (seq_nx a1).trans ((seq_nx (ρ1 := EE sc t2 t3 t4 t5 (some (.dat (tup q))) (some (.own (K.map look))) (some (.dat (.bool b))) (some (.dat (.int x.1))) (some (.dat (.int x.2))) (some (.dat (.str (wd w1)))) t12 t13 t14 t15) (s1 := s1) ?_).trans (fin w1 s1)), ok1⟩
    simp [in_f, -q_in_f]
    cases h1 : mem x.1 q <;> cases b <;> simp_all
  · refine ⟨mem x.2 q, s, (seq_nx a1).trans ((seq_nx (ρ1 := EE sc t2 t3 t4 t5 (some (.dat (tup q))) (some (.own (K.map look))) (some (.dat (.bool b))) (some (.dat (.int x.1))) (some (.dat (.int x.2))) (some (.dat (.str (wd (mem x.2 q))))) t12 t13 t14 t15) (s1 := s) ?_).trans (fin _ s)), ok⟩
    simp [in_f, -q_in_f]
    cases h1 : mem x.1 q <;> cases b <;> simp_all
end
section
variable {sc : PyData} {t2 t3 t4 t5 t6 t7 t8 t9 t10 t11 t12 t13 t14 t15 : Option Rv} {s : WSt}
theorem st_looks {q : List Nat} {b : Bool} {L : List (Nat × Nat)} (hL : L.length ≤ 1000) (ok : OkW s) : ∃ (K : List (Nat × Nat × Bool)) (u9 u10 u11 : Option Rv) (s' : WSt), dFor (dItemsS (dVar 5)) (setTup 2 (gConsD (setSlot 9) (gConsD (setSlot 10) gNilD))) (dSeq (dSet 11 (dFrz (dIf (dTest (dBin (dIn false) (dVar 10) (dVar 6))) (dC (.dat (.str "bad"))) (dC (.dat (.str "well")))))) (dSeq (dIfS (dOr (dTest (dBin (dIn false) (dVar 9) (dVar 6))) (dTest (dVar 8))) (dSet 11 (dFn F__law_pick (dCons (dVar 1) (dCons (dFrz (dLst (dCons (dC (.dat (.str "bad"))) (dCons (dC (.dat (.str "well"))) dNil)))) dNil)))) dSkip) (dAppend 7 (dTup (dCons (dVar 9) (dCons (dVar 10) (dCons (dVar 11) dNil))))))) (EE sc t2 t3 t4 (some (.dat (PP L))) (some (.dat (tup q))) (some (.own (([] : List (Nat × Nat × Bool)).map look))) (some (.dat (.bool b))) t9 t10 t11 t12 t13 t14 t15) s = some (.nx (EE sc t2 t3 t4 (some (.dat (PP L))) (some (.dat (tup q))) (some (.own (K.map look))) (some (.dat (.bool b))) u9 u10 u11 t12 t13 t14 t15), s') ∧ OkW s' := by
  have it : dItemsS (dVar 5) (EE sc t2 t3 t4 (some (.dat (PP L))) (some (.dat (tup q))) (some (.own (([] : List (Nat × Nat × Bool)).map look))) (some (.dat (.bool b))) t9 t10 t11 t12 t13 t14 t15) s = some (L.map pr, s) := by simp [PP]
  obtain ⟨ρ', s', e1, ⟨K, u9, u10, u11, rfl, _⟩, ok'⟩ := forGo_inv (τ := WSt) (I := fun k ρ s => (∃ (K : List (Nat × Nat × Bool)) (u9 u10 u11 : Option Rv), ρ = EE sc t2 t3 t4 (some (.dat (PP L))) (some (.dat (tup q))) (some (.own (K.map look))) (some (.dat (.bool b))) u9 u10 u11 t12 t13 t14 t15 ∧ K.length ≤ k) ∧ OkW s) (L.map pr) 0 _ s
    (step := forStep (setTup 2 (gConsD (setSlot 9) (gConsD (setSlot 10) gNilD))) (dSeq (dSet 11 (dFrz (dIf (dTest (dBin (dIn false) (dVar 10) (dVar 6))) (dC (.dat (.str "bad"))) (dC (.dat (.str "well")))))) (dSeq (dIfS (dOr (dTest (dBin (dIn false) (dVar 9) (dVar 6))) (dTest (dVar 8))) (dSet 11 (dFn F__law_pick (dCons (dVar 1) (dCons (dFrz (dLst (dCons (dC (.dat (.str "bad"))) (dCons (dC (.dat (.str "well"))) dNil)))) dNil)))) dSkip) (dAppend 7 (dTup (dCons (dVar 9) (dCons (dVar 10) (dCons (dVar 11) dNil)))))))) ⟨⟨[], t9, t10, t11, rfl, Nat.le_refl _⟩, ok⟩ (by
      rintro i d hd ρ s ⟨⟨K, u9, u10, u11, rfl, hk⟩, ok⟩
      rw [List.getElem?_map] at hd
      cases hx : L[i]? with
      | none => rw [hx] at hd; cases hd
      | some x =>
        rw [hx] at hd
        cases hd
        have hi : i < L.length := (List.getElem?_eq_some_iff.mp hx).1
        obtain ⟨w, s1, e, ok1⟩ := st_word (sc := sc) (t2 := t2) (t3 := t3) (t4 := t4) (t5 := some (.dat (PP L))) (q := q) (b := b) (x := x) (K := K) (t9 := u9) (t10 := u10) (t11 := u11) (t12 := t12) (t13 := t13) (t14 := t14) (t15 := t15) ok (by omega)
        exact ⟨_, s1, e, ⟨K ++ [(x.1, x.2, w)], _, _, _, rfl, by rw [List.length_append, List.length_singleton]; omega⟩, ok1⟩)
  exact ⟨K, u9, u10, u11, s', for_of it e1, ok'⟩
theorem st_tuple {K : List (Nat × Nat × Bool)} : dSet 7 (dCall bTuple (dCons (dVar 7) dNil)) (EE sc t2 t3 t4 t5 t6 (some (.own (K.map look))) t8 t9 t10 t11 t12 t13 t14 t15) s = some (.nx (EE sc t2 t3 t4 t5 t6 (some (.dat (.tuple (K.map look)))) t8 t9 t10 t11 t12 t13 t14 t15), s) := by
  simp
theorem st_able {n m : Nat} {K : List (Nat × Nat × Bool)} (h2 : 2 ≤ n) (h5 : n ≤ 5) (hm : m ≤ n) : dFrzS 7 (dSet 13 (dFrz (dLc [12] (dItems (dFn (liftF F__law_sets) (dCons (dVar 3) (dCons (dVar 4) dNil)))) (setSlot 12) (dTest (dFn (liftF F__law_agrees) (dCons (dVar 7) (dCons (dVar 12) dNil)))) (dFrz (dVar 12))))) (EE sc t2 (some (.dat (.int (n : Int)))) (some (.dat (.int (m : Int)))) t5 t6 (some (.dat (.tuple (K.map look)))) t8 t9 t10 t11 t12 t13 t14 t15) s = some (.nx (EE sc t2 (some (.dat (.int (n : Int)))) (some (.dat (.int (m : Int)))) t5 t6 (some (.dat (.tuple (K.map look)))) t8 t9 t10 t11 t12 (some (.dat (.list ((ableOf n m K).map tup)))) t14 t15), s) := by
  have l : lcGo (lcStep (setSlot 12) (dTest (dFn (liftF F__law_agrees) (dCons (dVar 7) (dCons (dVar 12) dNil)))) (dFrz (dVar 12)) (EE sc t2 (some (.dat (.int (n : Int)))) (some (.dat (.int (m : Int)))) t5 t6 (some (.dat (.tuple (K.map look)))) t8 t9 t10 t11 none t13 t14 t15)) ((TT n m).map tup) s = some ((ableOf n m K).map tup, s) := lcGo_map _ fun q hq => by
    have c := lift_of (agrees_ok (L := K) (s := q)) (s := s) rfl
    simp [c]
    split <;> simp_all
  have it : dItems (dFn (liftF F__law_sets) (dCons (dVar 3) (dCons (dVar 4) dNil))) (EE sc t2 (some (.dat (.int (n : Int)))) (some (.dat (.int (m : Int)))) t5 t6 (some (.dat (.tuple (K.map look)))) t8 t9 t10 t11 t12 t13 t14 t15) s = some ((TT n m).map tup, s) := by
    simp [lift_of (law_sets_ok n m h2 h5 hm) (s := s) rfl]
  have lc := lc_of (vs := [12]) it rfl l
  rw [q_frzS]
  show dSet 13 _ (EE sc t2 (some (.dat (.int (n : Int)))) (some (.dat (.int (m : Int)))) t5 t6 (some (.dat (.tuple (K.map look)))) t8 t9 t10 t11 t12 t13 t14 t15) s = _
  simp [lc, -q_lc]
theorem able_len {n m : Nat} {K : List (Nat × Nat × Bool)} (h5 : n ≤ 5) : (ableOf n m K).length ≤ 32 ∧ ∀ q ∈ ableOf n m K, q.length ≤ 5 :=
  ⟨Nat.le_trans (List.length_filter_le _ _) (T_len h5), fun q hq => (S_len n h5).2 q (T_mem (List.mem_filter.mp hq).1)⟩
theorem st_chk1 {n m : Nat} {K : List (Nat × Nat × Bool)} (h2 : 2 ≤ n) (h5 : n ≤ 5) (hm : m ≤ n) : dFrzS 7 (dIfS (dNot (dTest (dFn (liftF (F__law_same 12)) (dCons (dFn (liftF F_all_bad) (dCons (dVar 3) (dCons (dVar 7) (dCons (dVar 4) dNil)))) (dCons (dCall bTuple (dCons (dCall bSortedE (dCons (dVar 13) dNil)) dNil)) dNil))))) (dRet (dC (.dat (.bool false)))) dSkip) (EE sc t2 (some (.dat (.int (n : Int)))) (some (.dat (.int (m : Int)))) t5 t6 (some (.dat (.tuple (K.map look)))) t8 t9 t10 t11 t12 (some (.dat (.list ((ableOf n m K).map tup)))) t14 t15) s = some (.nx (EE sc t2 (some (.dat (.int (n : Int)))) (some (.dat (.int (m : Int)))) t5 t6 (some (.dat (.tuple (K.map look)))) t8 t9 t10 t11 t12 (some (.dat (.list ((ableOf n m K).map tup)))) t14 t15), s) := by
  have c1 := lift_of (all_bad_ok (L := K) h2 h5 hm) (s := s) rfl
  have so := sortE_of (x := .dat (.list ((ableOf n m K).map tup))) rfl (okSortE_tups _)
  rw [srt_eq] at so
  obtain ⟨b1, b2⟩ := able_len (n := n) (m := m) (K := K) h5
  have c2 : liftF (F__law_same 12) [.dat (.tuple ((srt (ableOf n m K)).map tup)), .dat (.tuple ((srt (ableOf n m K)).map tup))] s = some (.dat (.bool true), s) := by
    refine lift_of (same_ok 12 _ ?_) rfl
    have := samey_sorted (n := 9) b2 b1
    rw [srt_eq] at this
    exact this
  simp [c1, c2, so]
theorem st_none : dAsg (dTup (dCons (dC (.dat .none)) (dCons (dC (.dat .none)) dNil))) (setTup 2 (gConsD (setSlot 14) (gConsD (setSlot 15) gNilD))) (EE sc t2 t3 t4 t5 t6 t7 t8 t9 t10 t11 t12 t13 t14 t15) s = some (.nx (EE sc t2 t3 t4 t5 t6 t7 t8 t9 t10 t11 t12 t13 (some (.dat .none)) (some (.dat .none))), s) := by
  simp
end
def sureV (n : Nat) (A : List (List Nat)) : PyData := if A.isEmpty = true then .none else tup (sureB n A)
def wellV (n : Nat) (A : List (List Nat)) : PyData := if A.isEmpty = true then .none else tup (sureW n A)
section
variable {sc : PyData} {t2 t3 t4 t5 t6 t7 t8 t9 t10 t11 t12 t13 t14 t15 : Option Rv} {s : WSt}
theorem st_sure {n : Nat} {A : List (List Nat)} (h5 : n ≤ 5) : dIfS (dTest (dBin dNe (dVar 13) (dLst dNil))) (dSeq (dSet 14 (dCall bTuple (dCons (dLc [16] (dRange (dCons (dVar 3) dNil)) (setSlot 16) (dTest (dBin dEq (dLc [12] (dItems (dVar 13)) (setSlot 12) (dTest (dBin (dIn true) (dVar 16) (dVar 12))) (dFrz (dVar 12))) (dLst dNil))) (dFrz (dVar 16))) dNil))) (dSet 15 (dCall bTuple (dCons (dLc [16] (dRange (dCons (dVar 3) dNil)) (setSlot 16) (dTest (dBin dEq (dLc [12] (dItems (dVar 13)) (setSlot 12) (dTest (dBin (dIn false) (dVar 16) (dVar 12))) (dFrz (dVar 12))) (dLst dNil))) (dFrz (dVar 16))) dNil)))) dSkip (EE sc t2 (some (.dat (.int (n : Int)))) t4 t5 t6 t7 t8 t9 t10 t11 t12 (some (.dat (.list (A.map tup)))) (some (.dat .none)) (some (.dat .none))) s = some (.nx (EE sc t2 (some (.dat (.int (n : Int)))) t4 t5 t6 t7 t8 t9 t10 t11 t12 (some (.dat (.list (A.map tup)))) (some (.dat (sureV n A))) (some (.dat (wellV n A)))), s) := by
  have k : dNe (.dat (.list (A.map tup))) (.own []) = some (.dat (.bool (!A.isEmpty))) := by
    unfold dNe dRel
    simp [eqvs_nil]
  by_cases he : A.isEmpty = true
  · rw [he] at k
    simp [k, sureV, wellV, he]
  · have he' : A.isEmpty = false := by simpa using he
    rw [he'] at k
    have c : dTest (dBin dNe (dVar 13) (dLst dNil)) (EE sc t2 (some (.dat (.int (n : Int)))) t4 t5 t6 t7 t8 t9 t10 t11 t12 (some (.dat (.list (A.map tup)))) (some (.dat .none)) (some (.dat .none))) s = some (true, s) := by simp [k]
    have go : ∀ (neg : Bool) (u14 u15 : Option Rv) (F : List Nat) (fI : Rv → Rv → Option Rv), fI = dIn neg → F = (List.range n).filter (fun p => (A.filter fun q => if neg then !mem p q else mem p q).isEmpty) → dLc [16] (dRange (dCons (dVar 3) dNil)) (setSlot 16) (dTest (dBin dEq (dLc [12] (dItems (dVar 13)) (setSlot 12) (dTest (dBin fI (dVar 16) (dVar 12))) (dFrz (dVar 12))) (dLst dNil))) (dFrz (dVar 16)) (EE sc t2 (some (.dat (.int (n : Int)))) t4 t5 t6 t7 t8 t9 t10 t11 t12 (some (.dat (.list (A.map tup)))) u14 u15) s = some (.own (F.map fun i : Nat => PyData.int i), s) := fun neg u14 u15 F fI hf hF => by
      subst hF
      subst hf
      have l : lcGo (lcStep (setSlot 16) (dTest (dBin dEq (dLc [12] (dItems (dVar 13)) (setSlot 12) (dTest (dBin (dIn neg) (dVar 16) (dVar 12))) (dFrz (dVar 12))) (dLst dNil))) (dFrz (dVar 16)) (EE sc t2 (some (.dat (.int (n : Int)))) t4 t5 t6 t7 t8 t9 t10 t11 t12 (some (.dat (.list (A.map tup)))) u14 u15)) ((List.range n).map fun i : Nat => PyData.int i) s = some (((List.range n).filter fun p => (A.filter fun q => if neg then !mem p q else mem p q).isEmpty).map fun i : Nat => PyData.int i, s) := lcGo_map _ fun p hp => by
        have l2 : lcGo (lcStep (setSlot 12) (dTest (dBin (dIn neg) (dVar 16) (dVar 12))) (dFrz (dVar 12)) [some (.dat sc), some .tok, t2, some (.dat (.int (n : Int))), t4, t5, t6, t7, t8, t9, t10, t11, none, some (.dat (.list (A.map tup))), u14, u15, some (.dat (.int p))]) (A.map tup) s = some ((A.filter fun q => if neg then !mem p q else mem p q).map tup, s) := lcGo_map _ fun q hq => by
          cases neg
          · simp [in_f, -q_in_f]
            cases mem p q <;> simp
          · simp [in_t, -q_in_t]
            cases mem p q <;> simp
        generalize A.filter (fun q => if neg then !mem p q else mem p q) = C at *
        simp [l2, eqvs_nil]
        split <;> simp_all
      have it : dRange (dCons (dVar 3) dNil) (EE sc t2 (some (.dat (.int (n : Int)))) t4 t5 t6 t7 t8 t9 t10 t11 t12 (some (.dat (.list (A.map tup)))) u14 u15) s = some ((List.range n).map fun i : Nat => PyData.int i, s) := by
        simp [rg_n h5, -q_rg1]
      exact lc_of (vs := [16]) it rfl l
    have g1 := go true (some (.dat .none)) (some (.dat .none)) (sureB n A) _ rfl rfl
    have g2 := go false (some (.dat (sureV n A))) (some (.dat .none)) (sureW n A) _ rfl rfl
    have v1 : sureV n A = tup (sureB n A) := by unfold sureV; rw [if_neg he]
    have v2 : wellV n A = tup (sureW n A) := by unfold wellV; rw [if_neg he]
    have a1 : dSet 14 (dCall bTuple (dCons (dLc [16] (dRange (dCons (dVar 3) dNil)) (setSlot 16) (dTest (dBin dEq (dLc [12] (dItems (dVar 13)) (setSlot 12) (dTest (dBin (dIn true) (dVar 16) (dVar 12))) (dFrz (dVar 12))) (dLst dNil))) (dFrz (dVar 16))) dNil)) (EE sc t2 (some (.dat (.int (n : Int)))) t4 t5 t6 t7 t8 t9 t10 t11 t12 (some (.dat (.list (A.map tup)))) (some (.dat .none)) (some (.dat .none))) s = some (.nx (EE sc t2 (some (.dat (.int (n : Int)))) t4 t5 t6 t7 t8 t9 t10 t11 t12 (some (.dat (.list (A.map tup)))) (some (.dat (sureV n A))) (some (.dat .none))), s) := by
      rw [v1]
      simp [g1, -q_lc]
      rfl
    have a2 : dSet 15 (dCall bTuple (dCons (dLc [16] (dRange (dCons (dVar 3) dNil)) (setSlot 16) (dTest (dBin dEq (dLc [12] (dItems (dVar 13)) (setSlot 12) (dTest (dBin (dIn false) (dVar 16) (dVar 12))) (dFrz (dVar 12))) (dLst dNil))) (dFrz (dVar 16))) dNil)) (EE sc t2 (some (.dat (.int (n : Int)))) t4 t5 t6 t7 t8 t9 t10 t11 t12 (some (.dat (.list (A.map tup)))) (some (.dat (sureV n A))) (some (.dat .none))) s = some (.nx (EE sc t2 (some (.dat (.int (n : Int)))) t4 t5 t6 t7 t8 t9 t10 t11 t12 (some (.dat (.list (A.map tup)))) (some (.dat (sureV n A))) (some (.dat (wellV n A)))), s) := by
      rw [v2]
      simp [g2, -q_lc]
      rfl
    rw [q_ifS, c, Option.bind_some, if_pos rfl]
    exact (seq_nx a1).trans a2
theorem samey_sure {k n : Nat} {A : List (List Nat)} (h5 : n ≤ 5) : samey (k + 2) (sureV n A) ∧ samey (k + 2) (wellV n A) := by
  have h : ∀ f : Nat → Bool, ((List.range n).filter f).length ≤ 1000000 := fun f => by
    have := List.length_filter_le f (List.range n)
    rw [List.length_range] at this
    omega
  unfold sureV wellV
  constructor <;> split
  · trivial
  · exact samey_tup (h _)
  · trivial
  · exact samey_tup (h _)
theorem st_chk2 {n m : Nat} {K : List (Nat × Nat × Bool)} (h2 : 2 ≤ n) (h5 : n ≤ 5) (hm : m ≤ n) : dFrzS 7 (dIfS (dOr (dNot (dTest (dFn (liftF (F__law_same 12)) (dCons (dFn (liftF F_surely_bad) (dCons (dVar 3) (dCons (dVar 7) (dCons (dVar 4) dNil)))) (dCons (dVar 14) dNil))))) (dNot (dTest (dFn (liftF (F__law_same 12)) (dCons (dFn (liftF F_surely_well) (dCons (dVar 3) (dCons (dVar 7) (dCons (dVar 4) dNil)))) (dCons (dVar 15) dNil)))))) (dRet (dC (.dat (.bool false)))) dSkip) (EE sc t2 (some (.dat (.int (n : Int)))) (some (.dat (.int (m : Int)))) t5 t6 (some (.dat (.tuple (K.map look)))) t8 t9 t10 t11 t12 t13 (some (.dat (sureV n (ableOf n m K)))) (some (.dat (wellV n (ableOf n m K))))) s = some (.nx (EE sc t2 (some (.dat (.int (n : Int)))) (some (.dat (.int (m : Int)))) t5 t6 (some (.dat (.tuple (K.map look)))) t8 t9 t10 t11 t12 t13 (some (.dat (sureV n (ableOf n m K)))) (some (.dat (wellV n (ableOf n m K))))), s) := by
  have c1 := lift_of (surely_bad_ok (L := K) h2 h5 hm) (s := s) rfl
  have c2 := lift_of (surely_well_ok (L := K) h2 h5 hm) (s := s) rfl
  have c1 : liftF F_surely_bad [.dat (.int (n : Int)), .dat (.tuple (K.map look)), .dat (.int (m : Int))] s = some (.dat (sureV n (ableOf n m K)), s) := c1
  have c2 : liftF F_surely_well [.dat (.int (n : Int)), .dat (.tuple (K.map look)), .dat (.int (m : Int))] s = some (.dat (wellV n (ableOf n m K)), s) := c2
  have d1 : liftF (F__law_same 12) [.dat (sureV n (ableOf n m K)), .dat (sureV n (ableOf n m K))] s = some (.dat (.bool true), s) := lift_of (same_ok 12 _ (samey_sure h5).1) rfl
  have d2 : liftF (F__law_same 12) [.dat (wellV n (ableOf n m K)), .dat (wellV n (ableOf n m K))] s = some (.dat (.bool true), s) := lift_of (same_ok 12 _ (samey_sure h5).2) rfl
  simp [c1, c2, d1, d2]
theorem st_last {n : Nat} {K : List (Nat × Nat × Bool)} (h2 : 2 ≤ n) (h5 : n ≤ 5) : ∃ u12, dFor (dItemsS (dFn (liftF F__law_sets) (dCons (dVar 3) (dCons (dVar 3) dNil)))) (setSlot 12) (dFrzS 7 (dIfS (dNot (dTest (dFn (liftF F__law_says) (dCons (dFn (liftF F_may_be_bad) (dCons (dVar 3) (dCons (dVar 7) (dCons (dVar 12) dNil)))) (dCons (dFn (liftF F__law_agrees) (dCons (dVar 7) (dCons (dVar 12) dNil))) dNil))))) (dRet (dC (.dat (.bool false)))) dSkip)) (EE sc t2 (some (.dat (.int (n : Int)))) t4 t5 t6 (some (.dat (.tuple (K.map look)))) t8 t9 t10 t11 t12 t13 t14 t15) s = some (.nx (EE sc t2 (some (.dat (.int (n : Int)))) t4 t5 t6 (some (.dat (.tuple (K.map look)))) t8 t9 t10 t11 u12 t13 t14 t15), s) := by
  have it : dItemsS (dFn (liftF F__law_sets) (dCons (dVar 3) (dCons (dVar 3) dNil))) (EE sc t2 (some (.dat (.int (n : Int)))) t4 t5 t6 (some (.dat (.tuple (K.map look)))) t8 t9 t10 t11 t12 t13 t14 t15) s = some ((TT n n).map tup, s) := by
    simp [lift_of (law_sets_ok n n h2 h5 (Nat.le_refl _)) (s := s) rfl]
  have fo := forGo_fold (env := fun a : Option Rv => EE sc t2 (some (.dat (.int (n : Int)))) t4 t5 t6 (some (.dat (.tuple (K.map look)))) t8 t9 t10 t11 a t13 t14 t15) (c := tup) (f := fun _ q => some (.dat (tup q))) (s := s) (step := forStep (setSlot 12) (dFrzS 7 (dIfS (dNot (dTest (dFn (liftF F__law_says) (dCons (dFn (liftF F_may_be_bad) (dCons (dVar 3) (dCons (dVar 7) (dCons (dVar 12) dNil)))) (dCons (dFn (liftF F__law_agrees) (dCons (dVar 7) (dCons (dVar 12) dNil))) dNil))))) (dRet (dC (.dat (.bool false)))) dSkip))) (TT n n) t12 (fun a q hq => by
    have c1 := lift_of (may_ok (n := n) (L := K) (S_lt n h5 q (T_mem hq))) (s := s) rfl
    have c2 := lift_of (agrees_ok (L := K) (s := q)) (s := s) rfl
    generalize K.all (agr q) = B at *
    have c3 : liftF F__law_says [.dat (.bool B), .dat (.bool B)] s = some (.dat (.bool true), s) := lift_of (says_ok.trans (by simp)) rfl
    simp [c1, c2, c3])
  exact ⟨_, for_of it fo⟩
end
theorem law_math : ∀ ns : List Int, ns.length ≤ 63 → ∃ (ds : List Int) (s2 : WSt), f0_law (some (.dat (.list (ns.map .int))) :: List.replicate (17 - 1) none) () = some (.dat (.list (ds.map .int)), ()) ∧
    g_law ((some (.dat (.list (ns.map .int))) :: List.replicate (17 - 1) none).set 1 (some .tok)) (ds, 0) = some (.rt (.dat (.bool true)), s2) := by
  intro ns h63
  obtain ⟨ds, hd, e0⟩ := draws_500 ns h63
  have e0 : F__law_draws [.dat (.list (ns.map .int)), .dat (.int 500)] () = some (.dat (.list (ds.map .int)), ()) := e0
  obtain ⟨ρ', s', e1, ⟨t2, t3, t4, t5, t6, t7, t8, t9, t10, t11, t12, t13, t14, t15, rfl⟩, _⟩ := forGo_inv (τ := WSt) (I := fun _ ρ s => (∃ t2 t3 t4 t5 t6 t7 t8 t9 t10 t11 t12 t13 t14 t15, ρ = EE (.list (ns.map .int)) t2 t3 t4 t5 t6 t7 t8 t9 t10 t11 t12 t13 t14 t15) ∧ OkW s) (rangeD 0 4) 0 (EE (.list (ns.map .int)) none none none none none none none none none none none none none none) (ds, 0)
    (step := forStep (setSlot 2) (dSeq (dSet 3 (dBin dAdd (dC (.dat (.int 2))) (dFn F__law_next (dCons (dVar 1) (dCons (dC (.dat (.int 4))) dNil))))) (dSeq (dPar 4 5 (dCons (dFn F__law_next (dCons (dVar 1) (dCons (dBin dAdd (dVar 3) (dC (.dat (.int 1)))) dNil))) (dCons (dFn F__law_pairs (dCons (dVar 1) (dCons (dVar 3) dNil))) dNil))) (dSeq (dPar2 6 7 (dFn F__law_pick (dCons (dVar 1) (dCons (dFn (liftF F__law_sets) (dCons (dVar 3) (dCons (dVar 3) dNil))) dNil))) (dLst dNil)) (dSeq (dSet 8 (dBin dEq (dFn F__law_next (dCons (dVar 1) (dCons (dC (.dat (.int 5))) dNil))) (dC (.dat (.int 0))))) (dSeq (dFor (dItemsS (dVar 5)) (setTup 2 (gConsD (setSlot 9) (gConsD (setSlot 10) gNilD))) (dSeq (dSet 11 (dFrz (dIf (dTest (dBin (dIn false) (dVar 10) (dVar 6))) (dC (.dat (.str "bad"))) (dC (.dat (.str "well")))))) (dSeq (dIfS (dOr (dTest (dBin (dIn false) (dVar 9) (dVar 6))) (dTest (dVar 8))) (dSet 11 (dFn F__law_pick (dCons (dVar 1) (dCons (dFrz (dLst (dCons (dC (.dat (.str "bad"))) (dCons (dC (.dat (.str "well"))) dNil)))) dNil)))) dSkip) (dAppend 7 (dTup (dCons (dVar 9) (dCons (dVar 10) (dCons (dVar 11) dNil)))))))) (dSeq (dSet 7 (dCall bTuple (dCons (dVar 7) dNil))) (dSeq (dFrzS 7 (dSet 13 (dFrz (dLc [12] (dItems (dFn (liftF F__law_sets) (dCons (dVar 3) (dCons (dVar 4) dNil)))) (setSlot 12) (dTest (dFn (liftF F__law_agrees) (dCons (dVar 7) (dCons (dVar 12) dNil)))) (dFrz (dVar 12)))))) (dSeq (dFrzS 7 (dIfS (dNot (dTest (dFn (liftF (F__law_same 12)) (dCons (dFn (liftF F_all_bad) (dCons (dVar 3) (dCons (dVar 7) (dCons (dVar 4) dNil)))) (dCons (dCall bTuple (dCons (dCall bSortedE (dCons (dVar 13) dNil)) dNil)) dNil))))) (dRet (dC (.dat (.bool false)))) dSkip)) (dSeq (dAsg (dTup (dCons (dC (.dat .none)) (dCons (dC (.dat .none)) dNil))) (setTup 2 (gConsD (setSlot 14) (gConsD (setSlot 15) gNilD)))) (dSeq (dIfS (dTest (dBin dNe (dVar 13) (dLst dNil))) (dSeq (dSet 14 (dCall bTuple (dCons (dLc [16] (dRange (dCons (dVar 3) dNil)) (setSlot 16) (dTest (dBin dEq (dLc [12] (dItems (dVar 13)) (setSlot 12) (dTest (dBin (dIn true) (dVar 16) (dVar 12))) (dFrz (dVar 12))) (dLst dNil))) (dFrz (dVar 16))) dNil))) (dSet 15 (dCall bTuple (dCons (dLc [16] (dRange (dCons (dVar 3) dNil)) (setSlot 16) (dTest (dBin dEq (dLc [12] (dItems (dVar 13)) (setSlot 12) (dTest (dBin (dIn false) (dVar 16) (dVar 12))) (dFrz (dVar 12))) (dLst dNil))) (dFrz (dVar 16))) dNil)))) dSkip) (dSeq (dFrzS 7 (dIfS (dOr (dNot (dTest (dFn (liftF (F__law_same 12)) (dCons (dFn (liftF F_surely_bad) (dCons (dVar 3) (dCons (dVar 7) (dCons (dVar 4) dNil)))) (dCons (dVar 14) dNil))))) (dNot (dTest (dFn (liftF (F__law_same 12)) (dCons (dFn (liftF F_surely_well) (dCons (dVar 3) (dCons (dVar 7) (dCons (dVar 4) dNil)))) (dCons (dVar 15) dNil)))))) (dRet (dC (.dat (.bool false)))) dSkip)) (dFor (dItemsS (dFn (liftF F__law_sets) (dCons (dVar 3) (dCons (dVar 3) dNil)))) (setSlot 12) (dFrzS 7 (dIfS (dNot (dTest (dFn (liftF F__law_says) (dCons (dFn (liftF F_may_be_bad) (dCons (dVar 3) (dCons (dVar 7) (dCons (dVar 12) dNil)))) (dCons (dFn (liftF F__law_agrees) (dCons (dVar 7) (dCons (dVar 12) dNil))) dNil))))) (dRet (dC (.dat (.bool false)))) dSkip)))))))))))))))
    ⟨⟨none, none, none, none, none, none, none, none, none, none, none, none, none, none, rfl⟩, hd, Int.le_refl 0⟩ (by
      rintro i x hx ρ s ⟨⟨t2, t3, t4, t5, t6, t7, t8, t9, t10, t11, t12, t13, t14, t15, rfl⟩, ok⟩
      obtain ⟨n, s1, a1, n2, n5, ok1⟩ := st_many (sc := .list (ns.map .int)) (t2 := some (.dat x)) (t3 := t3) (t4 := t4) (t5 := t5) (t6 := t6) (t7 := t7) (t8 := t8) (t9 := t9) (t10 := t10) (t11 := t11) (t12 := t12) (t13 := t13) (t14 := t14) (t15 := t15) ok
      obtain ⟨m, L, s2, a2, hm, hL, ok2⟩ := st_pairs (sc := .list (ns.map .int)) (t2 := some (.dat x)) (t4 := t4) (t5 := t5) (t6 := t6) (t7 := t7) (t8 := t8) (t9 := t9) (t10 := t10) (t11 := t11) (t12 := t12) (t13 := t13) (t14 := t14) (t15 := t15) n5 ok1
      have hlen : L.length ≤ 20 := Nat.le_trans hL.length_le (allp_ord n n5).2
      obtain ⟨q, s3, a3, ok3⟩ := st_truth (sc := .list (ns.map .int)) (t2 := some (.dat x)) (t4 := some (.dat (.int (m : Int)))) (t5 := some (.dat (PP L))) (t6 := t6) (t7 := t7) (t8 := t8) (t9 := t9) (t10 := t10) (t11 := t11) (t12 := t12) (t13 := t13) (t14 := t14) (t15 := t15) n2 n5 ok2
      obtain ⟨b, s4, a4, ok4⟩ := st_lies (sc := .list (ns.map .int)) (t2 := some (.dat x)) (t3 := some (.dat (.int (n : Int)))) (t4 := some (.dat (.int (m : Int)))) (t5 := some (.dat (PP L))) (t6 := some (.dat (tup q))) (t7 := some (.own (([] : List (Nat × Nat × Bool)).map look))) (t8 := t8) (t9 := t9) (t10 := t10) (t11 := t11) (t12 := t12) (t13 := t13) (t14 := t14) (t15 := t15) ok3
      obtain ⟨K, u9, u10, u11, s5, a5, ok5⟩ := st_looks (sc := .list (ns.map .int)) (t2 := some (.dat x)) (t3 := some (.dat (.int (n : Int)))) (t4 := some (.dat (.int (m : Int)))) (q := q) (b := b) (L := L) (t9 := t9) (t10 := t10) (t11 := t11) (t12 := t12) (t13 := t13) (t14 := t14) (t15 := t15) (by omega) ok4
      have a6 := st_tuple (s := s5) (sc := .list (ns.map .int)) (t2 := some (.dat x)) (t3 := some (.dat (.int (n : Int)))) (t4 := some (.dat (.int (m : Int)))) (t5 := some (.dat (PP L))) (t6 := some (.dat (tup q))) (t8 := some (.dat (.bool b))) (t9 := u9) (t10 := u10) (t11 := u11) (t12 := t12) (t13 := t13) (t14 := t14) (t15 := t15) (K := K)
      have a7 := st_able (s := s5) (sc := .list (ns.map .int)) (t2 := some (.dat x)) (t5 := some (.dat (PP L))) (t6 := some (.dat (tup q))) (t8 := some (.dat (.bool b))) (t9 := u9) (t10 := u10) (t11 := u11) (t12 := t12) (t13 := t13) (t14 := t14) (t15 := t15) (K := K) n2 n5 hm
      have a8 := st_chk1 (s := s5) (sc := .list (ns.map .int)) (t2 := some (.dat x)) (t5 := some (.dat (PP L))) (t6 := some (.dat (tup q))) (t8 := some (.dat (.bool b))) (t9 := u9) (t10 := u10) (t11 := u11) (t12 := t12) (t14 := t14) (t15 := t15) (K := K) n2 n5 hm
      have a9 := fun t7 t13 => st_none (s := s5) (sc := .list (ns.map .int)) (t2 := some (.dat x)) (t3 := some (.dat (.int (n : Int)))) (t4 := some (.dat (.int (m : Int)))) (t5 := some (.dat (PP L))) (t6 := some (.dat (tup q))) (t7 := t7) (t8 := some (.dat (.bool b))) (t9 := u9) (t10 := u10) (t11 := u11) (t12 := t12) (t13 := t13) (t14 := t14) (t15 := t15)
      have a10 := fun t4 t7 => st_sure (s := s5) (sc := .list (ns.map .int)) (t2 := some (.dat x)) (t4 := t4) (t5 := some (.dat (PP L))) (t6 := some (.dat (tup q))) (t7 := t7) (t8 := some (.dat (.bool b))) (t9 := u9) (t10 := u10) (t11 := u11) (t12 := t12) (A := ableOf n m K) n5
      have a11 := fun t13 => st_chk2 (s := s5) (sc := .list (ns.map .int)) (t2 := some (.dat x)) (t5 := some (.dat (PP L))) (t6 := some (.dat (tup q))) (t8 := some (.dat (.bool b))) (t9 := u9) (t10 := u10) (t11 := u11) (t12 := t12) (t13 := t13) (K := K) n2 n5 hm
      obtain ⟨u12, a12⟩ := st_last (s := s5) (sc := .list (ns.map .int)) (t2 := some (.dat x)) (t4 := some (.dat (.int (m : Int)))) (t5 := some (.dat (PP L))) (t6 := some (.dat (tup q))) (t8 := some (.dat (.bool b))) (t9 := u9) (t10 := u10) (t11 := u11) (t12 := t12) (t13 := some (.dat (.list ((ableOf n m K).map tup)))) (t14 := some (.dat (sureV n (ableOf n m K)))) (t15 := some (.dat (wellV n (ableOf n m K)))) (K := K) n2 n5
      refine ⟨_, s5, ?_, ⟨some (.dat x), some (.dat (.int (n : Int))), some (.dat (.int (m : Int))), some (.dat (PP L)), some (.dat (tup q)), some (.dat (.tuple (K.map look))), some (.dat (.bool b)), u9, u10, u11, u12, some (.dat (.list ((ableOf n m K).map tup))), some (.dat (sureV n (ableOf n m K))), some (.dat (wellV n (ableOf n m K))), rfl⟩, ok5⟩
      rw [q_forStep]
      show (some (EE (.list (ns.map .int)) (some (.dat x)) t3 t4 t5 t6 t7 t8 t9 t10 t11 t12 t13 t14 t15)).bind _ = _
      exact (seq_nx a1).trans ((seq_nx a2).trans ((seq_nx a3).trans ((seq_nx a4).trans ((seq_nx a5).trans ((seq_nx a6).trans ((seq_nx a7).trans ((seq_nx a8).trans ((seq_nx (a9 _ _)).trans ((seq_nx (a10 _ _)).trans ((seq_nx (a11 _)).trans a12)))))))))))
  refine ⟨ds, s', ?_, ?_⟩
  · show f0_law [some (.dat (.list (ns.map .int))), none, none, none, none, none, none, none, none, none, none, none, none, none, none, none, none] () = _
    simp [e0]
  · show g_law (EE (.list (ns.map .int)) none none none none none none none none none none none none none none) (ds, 0) = _
    have it : dRange (τ := WSt) (dCons (dC (.dat (.int 4))) dNil) (EE (.list (ns.map .int)) none none none none none none none none none none none none none none) (ds, 0) = some (rangeD 0 4, (ds, 0)) := rfl
    refine (seq_nx (τ := WSt) (for_of (τ := WSt) it e1)).trans ?_
    simp
end K87

set_option Elab.async false
set_option linter.all false
set_option maxRecDepth 100000
set_option maxHeartbeats 4000000
set_option autoImplicit false
namespace K87
open PySem PySem.Spec PyProof.Rows L2 DL
theorem all_mk {l : PySem.W.OpenLaw} {w : World} {K : PySem.W.Frag} {h : Heap} {mg : Str → Option Value} {fa : Addr} (X : K.In h) (G : h.Ns mainGlobals mg) (hfa : mg "law" = some (.ref fa))
    {f0 f1 f2 f3 f4 f5 f6 f7 f8 f9 f10 f11 f12 f13 : Addr}
    {od0 an0 od1 an1 od2 an2 od3 an3 od4 an4 od5 an5 od6 an6 od7 an7 od8 an8 od9 an9 od10 an10 od11 an11 od12 an12 od13 an13 : Option Addr} {sl0 sl1 sl2 sl3 sl4 sl5 sl6 sl7 sl8 sl9 sl10 sl11 sl12 sl13 : Array (Option Value)}
    {oc0 kV0 dc0 pm0 cd0 ct0 oc1 kV1 dc1 pm1 cd1 ct1 oc2 kV2 dc2 pm2 cd2 ct2 oc3 kV3 dc3 pm3 cd3 ct3 oc4 kV4 dc4 pm4 cd4 ct4 oc5 kV5 dc5 pm5 cd5 ct5 oc6 kV6 dc6 pm6 cd6 ct6 oc7 kV7 dc7 pm7 cd7 ct7 oc8 kV8 dc8 pm8 cd8 ct8 oc9 kV9 dc9 pm9 cd9 ct9 oc10 kV10 dc10 pm10 cd10 ct10 oc11 kV11 dc11 pm11 cd11 ct11 oc12 kV12 dc12 pm12 cd12 ct12 oc13 kV13 dc13 pm13 cd13 ct13 : Value}
    (a0 : PySem.W.nsIn K mainGlobals "may_be_bad" = some (some (.ref f0))) (l0 : K.lookup f0 = some ⟨oc0, od0, .func (PySem.W.fnOf "may_be_bad" "may_be_bad" (defArgs s_may_be_bad) (defBody s_may_be_bad) (defScope s_may_be_bad) .none kV0 dc0 pm0 an0 cd0 ct0), sl0⟩) (c0 : PySem.W.codeIn K cd0 "may_be_bad" = true) (k0 : PySem.W.keepIn K (.ref f0) = true)
    (a1 : PySem.W.nsIn K mainGlobals "sets_of" = some (some (.ref f1))) (l1 : K.lookup f1 = some ⟨oc1, od1, .func (PySem.W.fnOf "sets_of" "sets_of" (defArgs s_sets_of) (defBody s_sets_of) (defScope s_sets_of) .none kV1 dc1 pm1 an1 cd1 ct1), sl1⟩) (c1 : PySem.W.codeIn K cd1 "sets_of" = true) (k1 : PySem.W.keepIn K (.ref f1) = true)
    (a2 : PySem.W.nsIn K mainGlobals "all_bad" = some (some (.ref f2))) (l2 : K.lookup f2 = some ⟨oc2, od2, .func (PySem.W.fnOf "all_bad" "all_bad" (defArgs s_all_bad) (defBody s_all_bad) (defScope s_all_bad) .none kV2 dc2 pm2 an2 cd2 ct2), sl2⟩) (c2 : PySem.W.codeIn K cd2 "all_bad" = true) (k2 : PySem.W.keepIn K (.ref f2) = true)
    (a3 : PySem.W.nsIn K mainGlobals "surely_bad" = some (some (.ref f3))) (l3 : K.lookup f3 = some ⟨oc3, od3, .func (PySem.W.fnOf "surely_bad" "surely_bad" (defArgs s_surely_bad) (defBody s_surely_bad) (defScope s_surely_bad) .none kV3 dc3 pm3 an3 cd3 ct3), sl3⟩) (c3 : PySem.W.codeIn K cd3 "surely_bad" = true) (k3 : PySem.W.keepIn K (.ref f3) = true)
    (a4 : PySem.W.nsIn K mainGlobals "surely_well" = some (some (.ref f4))) (l4 : K.lookup f4 = some ⟨oc4, od4, .func (PySem.W.fnOf "surely_well" "surely_well" (defArgs s_surely_well) (defBody s_surely_well) (defScope s_surely_well) .none kV4 dc4 pm4 an4 cd4 ct4), sl4⟩) (c4 : PySem.W.codeIn K cd4 "surely_well" = true) (k4 : PySem.W.keepIn K (.ref f4) = true)
    (a5 : PySem.W.nsIn K mainGlobals "_law_draws" = some (some (.ref f5))) (l5 : K.lookup f5 = some ⟨oc5, od5, .func (PySem.W.fnOf "_law_draws" "_law_draws" (defArgs s__law_draws) (defBody s__law_draws) (defScope s__law_draws) .none kV5 dc5 pm5 an5 cd5 ct5), sl5⟩) (c5 : PySem.W.codeIn K cd5 "_law_draws" = true) (k5 : PySem.W.keepIn K (.ref f5) = true)
    (a6 : PySem.W.nsIn K mainGlobals "_law_next" = some (some (.ref f6))) (l6 : K.lookup f6 = some ⟨oc6, od6, .func (PySem.W.fnOf "_law_next" "_law_next" (defArgs s__law_next) (defBody s__law_next) (defScope s__law_next) .none kV6 dc6 pm6 an6 cd6 ct6), sl6⟩) (c6 : PySem.W.codeIn K cd6 "_law_next" = true) (k6 : PySem.W.keepIn K (.ref f6) = true)
    (a7 : PySem.W.nsIn K mainGlobals "_law_pick" = some (some (.ref f7))) (l7 : K.lookup f7 = some ⟨oc7, od7, .func (PySem.W.fnOf "_law_pick" "_law_pick" (defArgs s__law_pick) (defBody s__law_pick) (defScope s__law_pick) .none kV7 dc7 pm7 an7 cd7 ct7), sl7⟩) (c7 : PySem.W.codeIn K cd7 "_law_pick" = true) (k7 : PySem.W.keepIn K (.ref f7) = true)
    (a8 : PySem.W.nsIn K mainGlobals "_law_says" = some (some (.ref f8))) (l8 : K.lookup f8 = some ⟨oc8, od8, .func (PySem.W.fnOf "_law_says" "_law_says" (defArgs s__law_says) (defBody s__law_says) (defScope s__law_says) .none kV8 dc8 pm8 an8 cd8 ct8), sl8⟩) (c8 : PySem.W.codeIn K cd8 "_law_says" = true) (k8 : PySem.W.keepIn K (.ref f8) = true)
    (a9 : PySem.W.nsIn K mainGlobals "_law_same" = some (some (.ref f9))) (l9 : K.lookup f9 = some ⟨oc9, od9, .func (PySem.W.fnOf "_law_same" "_law_same" (defArgs s__law_same) (defBody s__law_same) (defScope s__law_same) .none kV9 dc9 pm9 an9 cd9 ct9), sl9⟩) (c9 : PySem.W.codeIn K cd9 "_law_same" = true) (k9 : PySem.W.keepIn K (.ref f9) = true)
    (a10 : PySem.W.nsIn K mainGlobals "_law_sets" = some (some (.ref f10))) (l10 : K.lookup f10 = some ⟨oc10, od10, .func (PySem.W.fnOf "_law_sets" "_law_sets" (defArgs s__law_sets) (defBody s__law_sets) (defScope s__law_sets) .none kV10 dc10 pm10 an10 cd10 ct10), sl10⟩) (c10 : PySem.W.codeIn K cd10 "_law_sets" = true) (k10 : PySem.W.keepIn K (.ref f10) = true)
    (a11 : PySem.W.nsIn K mainGlobals "_law_agrees" = some (some (.ref f11))) (l11 : K.lookup f11 = some ⟨oc11, od11, .func (PySem.W.fnOf "_law_agrees" "_law_agrees" (defArgs s__law_agrees) (defBody s__law_agrees) (defScope s__law_agrees) .none kV11 dc11 pm11 an11 cd11 ct11), sl11⟩) (c11 : PySem.W.codeIn K cd11 "_law_agrees" = true) (k11 : PySem.W.keepIn K (.ref f11) = true)
    (a12 : PySem.W.nsIn K mainGlobals "_law_pairs" = some (some (.ref f12))) (l12 : K.lookup f12 = some ⟨oc12, od12, .func (PySem.W.fnOf "_law_pairs" "_law_pairs" (defArgs s__law_pairs) (defBody s__law_pairs) (defScope s__law_pairs) .none kV12 dc12 pm12 an12 cd12 ct12), sl12⟩) (c12 : PySem.W.codeIn K cd12 "_law_pairs" = true) (k12 : PySem.W.keepIn K (.ref f12) = true)
    (a13 : PySem.W.nsIn K mainGlobals "law" = some (some (.ref f13))) (l13 : K.lookup f13 = some ⟨oc13, od13, .func (PySem.W.fnOf "law" "law" (defArgs s_law) (defBody s_law) (defScope s_law) .none kV13 dc13 pm13 an13 cd13 ct13), sl13⟩) (c13 : PySem.W.codeIn K cd13 "law" = true) (k13 : PySem.W.keepIn K (.ref f13) = true)
    (z0 : PySem.W.nsIn K mainGlobals "abs" = some none)
    (z1 : PySem.W.nsIn K mainGlobals "all" = some none)
    (z2 : PySem.W.nsIn K mainGlobals "any" = some none)
    (z3 : PySem.W.nsIn K mainGlobals "bool" = some none)
    (z4 : PySem.W.nsIn K mainGlobals "int" = some none)
    (z5 : PySem.W.nsIn K mainGlobals "isinstance" = some none)
    (z6 : PySem.W.nsIn K mainGlobals "len" = some none)
    (z7 : PySem.W.nsIn K mainGlobals "min" = some none)
    (z8 : PySem.W.nsIn K mainGlobals "range" = some none)
    (z9 : PySem.W.nsIn K mainGlobals "sorted" = some none)
    (z10 : PySem.W.nsIn K mainGlobals "str" = some none)
    (z11 : PySem.W.nsIn K mainGlobals "tuple" = some none)
    : ∃ fd : FuncData, (∀ (s : Shared) (v : Value), BindsTo s fd ⟨[v], []⟩ [("script", v)]) ∧ ∀ base : Heap, K.In base → base.Ns mainGlobals mg → FnOk l.prog w K mg base CX0 14 fa fd ["script"] (spLaw K) := by
  have e := hfa.symm.trans (PySem.W.mg_of X G a13)
  cases e
  have F0 := fun_mk (st := s_may_be_bad) l0 c0 k0
  have F1 := fun_mk (st := s_sets_of) l1 c1 k1
  have F2 := fun_mk (st := s_all_bad) l2 c2 k2
  have F3 := fun_mk (st := s_surely_bad) l3 c3 k3
  have F4 := fun_mk (st := s_surely_well) l4 c4 k4
  have F5 := fun_mk (st := s__law_draws) l5 c5 k5
  have F6 := fun_mk (st := s__law_next) l6 c6 k6
  have F7 := fun_mk (st := s__law_pick) l7 c7 k7
  have F8 := fun_mk (st := s__law_says) l8 c8 k8
  have F9 := fun_mk (st := s__law_same) l9 c9 k9
  have F10 := fun_mk (st := s__law_sets) l10 c10 k10
  have F11 := fun_mk (st := s__law_agrees) l11 c11 k11
  have F12 := fun_mk (st := s__law_pairs) l12 c12 k12
  have F13 := fun_mk (st := s_law) l13 c13 k13
  have T : Top K mg := ⟨⟨_, _, F0, PySem.W.mg_of X G a0⟩, ⟨_, _, F1, PySem.W.mg_of X G a1⟩, ⟨_, _, F2, PySem.W.mg_of X G a2⟩, ⟨_, _, F3, PySem.W.mg_of X G a3⟩, ⟨_, _, F4, PySem.W.mg_of X G a4⟩, ⟨_, _, F5, PySem.W.mg_of X G a5⟩, ⟨_, _, F6, PySem.W.mg_of X G a6⟩, ⟨_, _, F7, PySem.W.mg_of X G a7⟩, ⟨_, _, F8, PySem.W.mg_of X G a8⟩, ⟨_, _, F9, PySem.W.mg_of X G a9⟩, ⟨_, _, F10, PySem.W.mg_of X G a10⟩, ⟨_, _, F11, PySem.W.mg_of X G a11⟩, ⟨_, _, F12, PySem.W.mg_of X G a12⟩, PySem.W.mg_none_of X G z0, PySem.W.mg_none_of X G z1, PySem.W.mg_none_of X G z2, PySem.W.mg_none_of X G z3, PySem.W.mg_none_of X G z4, PySem.W.mg_none_of X G z5, PySem.W.mg_none_of X G z6, PySem.W.mg_none_of X G z7, PySem.W.mg_none_of X G z8, PySem.W.mg_none_of X G z9, PySem.W.mg_none_of X G z10, PySem.W.mg_none_of X G z11⟩
  exact ⟨PySem.W.fnOf "law" "law" (defArgs s_law) (defBody s_law) (defScope s_law) .none kV13 dc13 pm13 an13 cd13 ct13, fun s v => .of_eq rfl, fun base _ _ => ok_law T F13 law_math⟩
end K87
open PySem PySem.W PyProof.Rows
set_option maxHeartbeats 0 in
theorem PySem.Challenge.cw_forewarned_k87_posts_that_look_at_one_an_holds : PySem.Challenge.rw_forewarned_k87_posts_that_look_at_one_an.Holds := by
  w_on; o_law; k_head; (case hw => w_witness2)
  k_fill
  refine L2.walk_of (l := PySem.Challenge.rw_forewarned_k87_posts_that_look_at_one_an) (n := 63) (k := 14) (x := "script") (CX := fun _ => L2.CX0) (sp := fun w => DL.spLaw _) rfl (by decide) rfl ⟨rfl, by decide, by decide⟩ (fun w h Y => PySem.W.kIn_of Y) ?F (fun _ _ a ns hl _ hS => ⟨a, ns, rfl, hS, hl, fun _ => rfl⟩) (fun _ _ _ _ _ h => h)
  case F =>
    intro w mg fa h KX G hmg
    refine' K87.all_mk KX G hmg ?a0 ?l0 ?c0 ?k0 ?a1 ?l1 ?c1 ?k1 ?a2 ?l2 ?c2 ?k2 ?a3 ?l3 ?c3 ?k3 ?a4 ?l4 ?c4 ?k4 ?a5 ?l5 ?c5 ?k5 ?a6 ?l6 ?c6 ?k6 ?a7 ?l7 ?c7 ?k7 ?a8 ?l8 ?c8 ?k8 ?a9 ?l9 ?c9 ?k9 ?a10 ?l10 ?c10 ?k10 ?a11 ?l11 ?c11 ?k11 ?a12 ?l12 ?c12 ?k12 ?a13 ?l13 ?c13 ?k13 ?z0 ?z1 ?z2 ?z3 ?z4 ?z5 ?z6 ?z7 ?z8 ?z9 ?z10 ?z11
    (case a0 => k_is); (case l0 => k_is); (case c0 => k_is); (case k0 => k_is)
    (case a1 => k_is); (case l1 => k_is); (case c1 => k_is); (case k1 => k_is)
    (case a2 => k_is); (case l2 => k_is); (case c2 => k_is); (case k2 => k_is)
    (case a3 => k_is); (case l3 => k_is); (case c3 => k_is); (case k3 => k_is)
    (case a4 => k_is); (case l4 => k_is); (case c4 => k_is); (case k4 => k_is)
    (case a5 => k_is); (case l5 => k_is); (case c5 => k_is); (case k5 => k_is)
    (case a6 => k_is); (case l6 => k_is); (case c6 => k_is); (case k6 => k_is)
    (case a7 => k_is); (case l7 => k_is); (case c7 => k_is); (case k7 => k_is)
    (case a8 => k_is); (case l8 => k_is); (case c8 => k_is); (case k8 => k_is)
    (case a9 => k_is); (case l9 => k_is); (case c9 => k_is); (case k9 => k_is)
    (case a10 => k_is); (case l10 => k_is); (case c10 => k_is); (case k10 => k_is)
    (case a11 => k_is); (case l11 => k_is); (case c11 => k_is); (case k11 => k_is)
    (case a12 => k_is); (case l12 => k_is); (case c12 => k_is); (case k12 => k_is)
    (case a13 => k_is); (case l13 => k_is); (case c13 => k_is); (case k13 => k_is)
    (case z0 => k_is); (case z1 => k_is); (case z2 => k_is); (case z3 => k_is); (case z4 => k_is); (case z5 => k_is); (case z6 => k_is); (case z7 => k_is); (case z8 => k_is); (case z9 => k_is); (case z10 => k_is); (case z11 => k_is)

